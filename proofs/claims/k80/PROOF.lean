import PyProof.Rows.All
import PyProof.EqLayable
import KE.SortData
import KE.DataMinMax
import KE.DataFind
import Wide.All
import OpenK.AllK
import Wide.FinOn
import HandS.ForMost
import HandS.Exc
import HandS.ExcOwn
import HandS.WordsExc
import HandS.Flow
import HandS.Style
import HandS.TupAny
import HandS.TupLe
import HandS.Deep
import HandS.Walk
import HandS.Lambda
import HandS.Zip
import HandS.Small
import HandS.Defaults
import HandS.CallLocal
import HandS.IsInst
import HandS.TupMul
import HandS.ExcInit
import HandS.ExcField
import KE.KExcIs
import KE.GoesEnum
import KE.KRevSl
import HandS.RaiseMore
import HandS.Conv
import HandS.More
import KE.GoesZip
import HandS.SetFor
import HandS.Finally
import HandS.Head0
import HandS.Head1
import HandS.Head2
import HandS.HeadEnd
import HandS.HeadHook1
import HandS.HeadHook2
import HandS.HeadWalk
import HandS.HeadHook4
import PySem.Challenge.RW_streethouse_k80_refusals_of_ploughs
set_option Elab.async false
set_option linter.all false
set_option maxRecDepth 100000
/-! P1: data, the small language of defs, its meaning. -/
namespace PD
open PySem

/-- what a value of the program is, without the heap -/
inductive D where
  | non | bl (b : Bool) | int (i : Int) | str (x : Str)
  | tup (xs : List D) | lst (xs : List D)
  | dct (ks vs : List D)
  | fn (n : Nat) | hnd
  deriving Inhabited

mutual
def D.py : D → Option PyData
  | .non => some .none
  | .bl b => some (.bool b)
  | .int i => some (.int i)
  | .str x => some (.str x)
  | .tup xs => (D.pys xs).map .tuple
  | .lst xs => (D.pys xs).map .list
  | .dct _ _ => none
  | .fn _ => none
  | .hnd => none
def D.pys : List D → Option (List PyData)
  | [] => some []
  | d :: ds => match D.py d, D.pys ds with
    | some p, some ps => some (p :: ps)
    | _, _ => none
end

abbrev HS := List D
structure Exc where
  c : Nat
  m : Option Int
/-- 0: the built-in base, 1: the own base of all, others: own classes under that -/
def subc (e c : Nat) : Bool := decide (c ≤ 1) || decide (e = c)
inductive Res (α : Type) where
  | ok (a : α) (h : HS)
  | exc (e : Exc) (h : HS)
  | stuck
def Res.bind {α β : Type} : Res α → (α → HS → Res β) → Res β
  | .ok a h, f => f a h
  | .exc e h, _ => .exc e h
  | .stuck, _ => .stuck
/-- where nothing may be raised -/
def calmR {α : Type} : Res α → Res α
  | .ok a h => .ok a h
  | _ => .stuck
def ofO {α : Type} (o : Option α) (h : HS) : Res α := match o with
  | some a => .ok a h
  | none => .stuck

inductive Slot where
  | no | val (d : D) | own (d : D) | exn (x : Exc)
  deriving Inhabited
abbrev PEnv := List Slot
def wipeP (ρ : PEnv) : List Nat → PEnv
  | [] => ρ
  | v :: vs => (wipeP ρ vs).set v .no

inductive BOp where
  | add | sub | mul | fdiv | mod | pow | band | shl
inductive COp where
  | eq | ne | lt | le | gt | ge | is | isn | inn | nin
inductive BI where
  | len | abs | int | max | min | sum | sorted | any | all | list | tuple | repr
inductive Ty where
  | int | bool | str | tuple | list | dict
inductive MT where
  | index | count
mutual
/-- expressions -/
inductive IE where
  | var (i : Nat) | ovar (i : Nat)
  | lit (d : D)
  | tup (es : IEs) | lst (es : IEs) | dct (ks vs : IEs) | dctL (es : IEs) | dget (o k x : IE) | rngL (t : Bool) (lo hi : IE)
  | bin (o : BOp) (a b : IE) | neg (a : IE)
  | not (a : IE) | cmp (o : COp) (a b : IE) | chain (o o' : COp) (a b c : IE)
  | and (a b : IE) | or (a b : IE) | ite (c : IC) (a b : IE)
  | ix (a i : IE) | slc (a : IE) (lo hi : IO) | rev (a : IE)
  | call (f : Nat) (as : IEs) | callv (i : Nat) (as : IEs) | thk | said (f : Nat) (b : IE)
  | bi (b : BI) (as : IEs) | isi (a : IE) (ts : List Ty)
  | mt (m : MT) (o : IE) (as : IEs)
  | lc (vs : List Nat) (t : IT) (s : IS) (c : IC) (e : IE)
  | isx (i c : Nat) | xmost (i : Nat)
inductive IEs where
  | nil | cons (e : IE) (es : IEs)
inductive IO where
  | no | so (e : IE)
/-- what is walked -/
inductive IS where
  | val (e : IE) | rng1 (a : IE) | rng2 (a b : IE) | rng3 (a b : IE) (c : Int) | zip (a b : IE) | enum (a : IE)
/-- tests -/
inductive IC where
  | tt | val (e : IE) | and (a b : IC) | or (a b : IC) | not (a : IC)
/-- targets -/
inductive IT where
  | nm (i : Nat) | tp (ts : ITs)
inductive ITs where
  | nil | cons (t : IT) (ts : ITs)
end

/-! ### operations on data -/
def eqD (a b : D) : Option Bool := match a.py, b.py with
  | some p, some q => if SeqAt.shaped p && SeqAt.shaped q then some (PyData.eqv p q) else none
  | _, _ => none
def lexLt : List Int → List Int → Bool
  | [], [] => false
  | [], _ :: _ => true
  | _ :: _, [] => false
  | x :: xs, y :: ys => if x = y then lexLt xs ys else decide (x < y)
/-- a list of dInts, if it is one -/
def dInts : List D → Option (List Int)
  | [] => some []
  | .int i :: r => (dInts r).map (i :: ·)
  | _ :: _ => none
def dBls : List D → Option (List Bool)
  | [] => some []
  | .bl i :: r => (dBls r).map (i :: ·)
  | _ :: _ => none
def cmulOk (i j : Int) : Bool := (decide (-(2 ^ 64) < i) && decide (i < 2 ^ 64)) || (decide (-(2 ^ 64) < j) && decide (j < 2 ^ 64))
abbrev line : Nat := 16777216
def binD (o : BOp) (a b : D) : Option D := match o with
  | .add => (match a, b with
    | .int i, .int j => some (.int (i + j))
    | .lst xs, .lst ys => if xs.length + ys.length ≤ line then some (.lst (xs ++ ys)) else none
    | .tup xs, .tup ys => if xs.length + ys.length ≤ line then some (.tup (xs ++ ys)) else none
    | _, _ => none)
  | .sub => (match a, b with
    | .int i, .int j => some (.int (i - j))
    | _, _ => none)
  | .mul => (match a, b with
    | .int i, .int j => if cmulOk i j then some (.int (i * j)) else none
    | .lst xs, .int k => if decide (-(2 ^ 63) ≤ k) && decide (k < 2 ^ 63) && decide (xs.length * k.toNat ≤ line) then some (.lst (List.replicate k.toNat xs).flatten) else none
    | .tup xs, .int k => if (!xs.isEmpty && decide (xs.length ≤ 1000)) && (decide (2 ≤ k) && decide (k ≤ 1000)) then some (.tup (List.replicate k.toNat xs).flatten) else none
    | _, _ => none)
  | .fdiv => (match a, b with
    | .int i, .int j => if decide (j ≠ 0) && decide (j.natAbs < 1073741824) then some (.int (i.fdiv j)) else none
    | _, _ => none)
  | .mod => (match a, b with
    | .int i, .int j => if j ≠ 0 then some (.int (i.fmod j)) else none
    | _, _ => none)
  | .pow => (match a, b with
    | .int i, .int j => if decide (0 ≤ j) && decide (j ≤ 1000000) && decide (i.natAbs < 2 ^ 64) then some (.int (i ^ j.toNat)) else none
    | _, _ => none)
  | .band => (match a, b with
    | .int i, .int j => some (.int (Builtin.bitAnd i j))
    | _, _ => none)
  | .shl => (match a, b with
    | .int i, .int j => if decide (0 ≤ j) && decide (j ≤ 1000000) && decide (i.natAbs < 2 ^ 64) then some (.int (i * 2 ^ j.toNat)) else none
    | _, _ => none)
/-! keys -/
abbrev Ky := Int ⊕ Str
def keyD : D → Option Ky
  | .int i => some (.inl i)
  | .str x => some (.inr x)
  | _ => none
def ofKy : Ky → D
  | .inl i => .int i
  | .inr x => .str x
def isK (z : Ky) (d : D) : Bool := match z, d with
  | .inl i, .int j => decide (j = i)
  | .inr x, .str y => decide (y = x)
  | _, _ => false
def memD (x : D) (xs : List D) : Option Bool := match x.py, D.pys xs with
  | some p, some qs => if SeqAt.shaped p && SeqAt.shaped (.list qs) then some (qs.any fun z => PyData.eqv z p) else none
  | _, _ => none
def flatD : D → Bool
  | .non => true
  | .bl _ => true
  | .int _ => true
  | .str _ => true
  | _ => false
def noneB : PyData → Bool
  | .none => true
  | _ => false
/-- an order of data that are alike -/
def ordD (f : PyData → PyData → Bool) (a b : D) : Option Bool := match a.py, b.py with
  | some p, some q => if (PySem.W.alike p q && !noneB p) && decide (min p.depth q.depth ≤ 40) then some (f p q) else none
  | _, _ => none
def cmpD (o : COp) (a b : D) : Option Bool := match o with
  | .eq => eqD a b
  | .ne => (eqD a b).map fun x => !x
  | .lt => (match a, b with
    | .int i, .int j => some (decide (i < j))
    | _, _ => ordD (fun p q => PySem.W.dataLt p q) a b)
  | .le => (match a, b with
    | .int i, .int j => some (decide (i ≤ j))
    | _, _ => ordD (fun p q => !PySem.W.dataLt q p) a b)
  | .gt => (match a, b with
    | .int i, .int j => some (decide (j < i))
    | _, _ => ordD (fun p q => PySem.W.dataLt q p) a b)
  | .ge => (match a, b with
    | .int i, .int j => some (decide (j ≤ i))
    | _, _ => ordD (fun p q => !PySem.W.dataLt p q) a b)
  | .is => (match a, b with
    | .non, .non => some true
    | .bl x, .bl y => some (decide (x = y))
    | .bl _, .non => some false
    | .int _, .non => some false
    | .str _, .non => some false
    | .tup _, .non => some false
    | .lst _, .non => some false
    | _, _ => none)
  | .isn => (match a, b with
    | .non, .non => some false
    | .bl x, .bl y => some (!decide (x = y))
    | .bl _, .non => some true
    | .int _, .non => some true
    | .str _, .non => some true
    | .tup _, .non => some true
    | .lst _, .non => some true
    | _, _ => none)
  | .inn => (match b with
    | .lst xs => memD a xs
    | .tup xs => if flatD a && xs.all flatD then memD a xs else none
    | .dct ks _ => (keyD a).map fun z => ks.any (isK z)
    | _ => none)
  | .nin => (match b with
    | .lst xs => (memD a xs).map fun x => !x
    | .tup xs => if flatD a && xs.all flatD then (memD a xs).map fun x => !x else none
    | .dct ks _ => (keyD a).map fun z => !ks.any (isK z)
    | _ => none)
def ixN (n : Nat) (i : Int) : Option Nat := if 0 ≤ i then (if i < n then some i.toNat else none) else if -(n : Int) ≤ i then some (i + n).toNat else none
def atI {α : Type} (xs : List α) (i : Int) : Option α := (ixN xs.length i).bind fun j => xs[j]?
def dget : List D → List D → Ky → Option D
  | k :: ks, v :: vs, z => if isK z k then some v else dget ks vs z
  | _, _, _ => none
def dset : List D → List D → Ky → D → List D
  | k :: ks, v :: vs, z, d => (if isK z k then d else v) :: dset ks vs z d
  | _, _, _, _ => []
/-- the keys and the values behind x[z] = d -/
def dput (ks vs : List D) (z : Ky) (d : D) : List D × List D := if ks.any (isK z) then (ks, dset ks vs z d) else (ks ++ [ofKy z], vs ++ [d])
def setK (ks vs : List D) (z d : D) : Option (List D × List D) := match keyD z with
  | some k => if ks.length < line then some (dput ks vs k d) else none
  | none => none
/-- more entries, each put -/
def mergeD : List D → List D → List D × List D → Option (List D × List D)
  | [], [], r => some r
  | k :: ks, v :: vs, r => (keyD k).bind fun z => mergeD ks vs (dput r.1 r.2 z v)
  | _, _, _ => none
/-- keys and values by turns -/
def turnsD : List D → Option (List D × List D)
  | [] => some ([], [])
  | k :: v :: r => (turnsD r).map fun p => (k :: p.1, v :: p.2)
  | _ => none
def dispD (ds : List D) : Option D := (turnsD ds).bind fun p => if decide (1 ≤ p.1.length) && decide (p.1.length ≤ 15) then (mergeD p.1 p.2 ([], [])).map fun r => .dct r.1 r.2 else none
def updD (ks vs : List D) (d : D) : Option (List D × List D) := match d with
  | .dct ks' vs' => if ks.length + ks'.length ≤ line then mergeD ks' vs' (ks, vs) else none
  | _ => none
def isDct : D → Bool
  | .dct _ _ => true
  | _ => false
def getD2 (o k x : D) : Option D := match o with
  | .dct ks vs => (keyD k).map fun z => (dget ks vs z).getD x
  | _ => none
def ixD (hs : HS) (a i : D) : Option D := match a, i with
  | .lst xs, .int k => atI xs k
  | .tup xs, .int k => atI xs k
  | .hnd, .int k => atI hs k
  | .dct ks vs, k => (keyD k).bind (dget ks vs)
  | _, _ => none
def sIx (n d : Nat) : Option Int → Nat
  | none => d
  | some v => if v < 0 then (v + (n : Int)).toNat else min v.toNat n
def cutL {α : Type} (xs : List α) (lo hi : Option Int) : List α := (xs.drop (sIx xs.length 0 lo)).take (sIx xs.length xs.length hi - sIx xs.length 0 lo)
def slcD (a : D) (lo hi : Option Int) : Option D := match a with
  | .lst xs => some (.lst (cutL xs lo hi))
  | .tup xs => some (.tup (cutL xs lo hi))
  | _ => none
def revD (a : D) : Option D := match a with
  | .lst xs => some (.lst xs.reverse)
  | .tup xs => some (.tup xs.reverse)
  | _ => none
def negD (a : D) : Option D := match a with
  | .int i => some (.int (-i))
  | _ => none
def truthD (a : D) : Option Bool := match a with
  | .non => some false
  | .bl b => some b
  | .int i => some (i != 0)
  | .lst xs => some (!xs.isEmpty)
  | .tup xs => some (!xs.isEmpty)
  | _ => none
def isTy (d : D) : Ty → Option Bool
  | .int => (match d with
    | .int _ => some true
    | .bl _ => some true
    | .fn _ => none
    | _ => some false)
  | .bool => (match d with
    | .bl _ => some true
    | .fn _ => none
    | _ => some false)
  | .str => (match d with
    | .str _ => some true
    | .fn _ => none
    | _ => some false)
  | .tuple => (match d with
    | .tup _ => some true
    | .fn _ => none
    | _ => some false)
  | .list => (match d with
    | .lst _ => some true
    | .hnd => none
    | .fn _ => none
    | _ => some false)
  | .dict => (match d with
    | .dct _ _ => some true
    | .fn _ => none
    | _ => some false)
def isTys (d : D) : List Ty → Option Bool
  | [] => some false
  | t :: ts => match isTy d t, isTys d ts with
    | some a, some b => some (a || b)
    | _, _ => none
/-! data read back, ordered -/
mutual
def ofPy : PyData → D
  | .none => .non
  | .bool b => .bl b
  | .int i => .int i
  | .str x => .str x
  | .tuple xs => .tup (ofPys xs)
  | .list xs => .lst (ofPys xs)
  | .dict _ => .non
def ofPys : List PyData → List D
  | [] => []
  | x :: xs => ofPy x :: ofPys xs
end
def notNone : PyData → Bool
  | .none => false
  | _ => true
def isTup1 : PyData → Bool
  | .tuple (_ :: _) => true
  | _ => false
def notTup : PyData → Bool
  | .none => false
  | .tuple _ => false
  | _ => true
def alikeB (ps : List PyData) : Bool := ps.all fun x => notNone x && ps.all fun y => PySem.W.alike x y
def sortB (ps : List PyData) : Bool := ps.all isTup1 || ps.all notTup
def depthB (ps : List PyData) : Bool := decide (PyData.depthAll ps ≤ 40)
def D.pyD (d : D) : PyData := d.py.getD .none
def minF (x : D) (xs : List D) : D := xs.foldl (fun a y => if W.dataLt y.pyD a.pyD then y else a) x
def maxF (x : D) (xs : List D) : D := xs.foldl (fun a y => if W.dataLt a.pyD y.pyD then y else a) x
def minL (xs : List D) : Option D := match xs, D.pys xs with
  | x :: r, some ps => if alikeB ps && depthB ps then some (minF x r) else none
  | _, _ => none
def maxL (xs : List D) : Option D := match xs, D.pys xs with
  | x :: r, some ps => if alikeB ps && depthB ps then some (maxF x r) else none
  | _, _ => none
/-- put in order, one by one -/
def insS {α : Type} (le : α → α → Bool) (a : α) : List α → List α
  | [] => [a]
  | b :: r => if le a b then a :: b :: r else b :: insS le a r
def isrt {α : Type} (le : α → α → Bool) : List α → List α
  | [] => []
  | a :: r => insS le a (isrt le r)
theorem insS_app {α : Type} {le : α → α → Bool} {a : α} : ∀ {l m : List α}, (∀ b ∈ l, le a b = false) → insS le a (l ++ m) = l ++ insS le a m
  | [], _, _ => rfl
  | b :: r, m, h => by
    show (if le a b then a :: b :: (r ++ m) else b :: insS le a (r ++ m)) = _
    rw [h b List.mem_cons_self, if_neg Bool.false_ne_true, insS_app fun c hc => h c (List.mem_cons_of_mem _ hc)]
    rfl
theorem isrt_eq {α : Type} {le : α → α → Bool} (tr : ∀ a b c, le a b = true → le b c = true → le a c = true) (to : ∀ a b, (le a b || le b a) = true) : ∀ xs : List α, isrt le xs = xs.mergeSort le
  | [] => by simp [isrt]
  | a :: r => by
    obtain ⟨l, m, e1, e2, e3⟩ := List.mergeSort_cons tr to a r
    rw [e1]
    show insS le a (isrt le r) = _
    rw [isrt_eq tr to r, e2, insS_app fun b hb => by simpa using e3 b hb]
    congr 1
    have hp := List.pairwise_mergeSort tr to (a :: r)
    rw [e1] at hp
    have hp := (List.pairwise_append.mp hp).2.1
    cases m with
    | nil => rfl
    | cons b m =>
      have := (List.pairwise_cons.mp hp).1 b List.mem_cons_self
      show (if le a b then _ else _) = _
      rw [if_pos this]
theorem dataLe_srt {β : Type} (k : β → PyData) (xs : List β) : isrt (W.dataLe false k) xs = xs.mergeSort (W.dataLe false k) := by
  have t : W.TotalLe (W.dataLe false k) := W.sortLe_total (PyProof.Rows.listOrd PyProof.Rows.itemOrd) false fun b => W.keyToks (k b)
  exact isrt_eq t.trans (fun a b => by rw [Bool.or_eq_true]; exact t.total a b) xs
def sortI (ns : List Int) : List Int := isrt (fun a b => decide (a ≤ b)) ns
def sortL (xs : List D) : Option (List D) := match D.pys xs with
  | some ps => if alikeB ps && sortB ps && depthB ps && decide (xs.length ≤ line) then some (isrt (W.dataLe false D.pyD) xs) else none
  | none => none
mutual
theorem ofPy_py : ∀ {d : D} {p : PyData}, d.py = some p → ofPy p = d
  | .non, p, e => by simp only [D.py, Option.some.injEq] at e; subst e; simp only [ofPy]
  | .bl _, p, e => by simp only [D.py, Option.some.injEq] at e; subst e; simp only [ofPy]
  | .int _, p, e => by simp only [D.py, Option.some.injEq] at e; subst e; simp only [ofPy]
  | .str _, p, e => by simp only [D.py, Option.some.injEq] at e; subst e; simp only [ofPy]
  | .tup ds, p, e => by
    simp only [D.py, Option.map_eq_some_iff] at e
    obtain ⟨ps, e, rfl⟩ := e
    simp only [ofPy]
    rw [ofPys_pys e]
  | .lst ds, p, e => by
    simp only [D.py, Option.map_eq_some_iff] at e
    obtain ⟨ps, e, rfl⟩ := e
    simp only [ofPy]
    rw [ofPys_pys e]
  | .dct _ _, p, e => by simp only [D.py] at e; cases e
  | .fn _, p, e => by simp only [D.py] at e; cases e
  | .hnd, p, e => by simp only [D.py] at e; cases e
theorem ofPys_pys : ∀ {ds : List D} {ps : List PyData}, D.pys ds = some ps → ofPys ps = ds
  | [], ps, e => by simp only [D.pys, Option.some.injEq] at e; subst e; simp only [ofPys]
  | d :: ds, ps, e => by
    simp only [D.pys] at e
    split at e
    · rename_i p q e1 e2
      cases e
      simp only [ofPys]
      rw [ofPy_py e1, ofPys_pys e2]
    · cases e
end
theorem pys_get : ∀ {ds : List D} {ps : List PyData}, D.pys ds = some ps → ps = ds.map D.pyD ∧ ∀ d ∈ ds, d.py = some d.pyD
  | [], ps, e => by
    simp only [D.pys, Option.some.injEq] at e
    subst e
    exact ⟨rfl, fun _ h => nomatch h⟩
  | d :: ds, ps, e => by
    simp only [D.pys] at e
    split at e
    · rename_i p q e1 e2
      cases e
      obtain ⟨i1, i2⟩ := pys_get e2
      have e0 : d.pyD = p := by
        unfold D.pyD
        rw [e1]
        rfl
      refine ⟨by rw [List.map_cons, e0, i1], fun x hx => ?_⟩
      rcases List.mem_cons.mp hx with rfl | hx
      · rw [e0, e1]
      · exact i2 x hx
    · cases e
mutual
theorem py_plain : ∀ {d : D} {p : PyData}, d.py = some p → p.plain = true
  | .non, p, e => by simp only [D.py, Option.some.injEq] at e; subst e; rfl
  | .bl _, p, e => by simp only [D.py, Option.some.injEq] at e; subst e; rfl
  | .int _, p, e => by simp only [D.py, Option.some.injEq] at e; subst e; rfl
  | .str _, p, e => by simp only [D.py, Option.some.injEq] at e; subst e; rfl
  | .tup ds, p, e => by
    simp only [D.py, Option.map_eq_some_iff] at e
    obtain ⟨ps, e, rfl⟩ := e
    simpa only [PyData.plain] using pys_plain e
  | .lst ds, p, e => by
    simp only [D.py, Option.map_eq_some_iff] at e
    obtain ⟨ps, e, rfl⟩ := e
    simpa only [PyData.plain] using pys_plain e
  | .dct _ _, p, e => by simp only [D.py] at e; cases e
  | .fn _, p, e => by simp only [D.py] at e; cases e
  | .hnd, p, e => by simp only [D.py] at e; cases e
theorem pys_plain : ∀ {ds : List D} {ps : List PyData}, D.pys ds = some ps → PyData.plainAll ps = true
  | [], ps, e => by simp only [D.pys, Option.some.injEq] at e; subst e; rfl
  | d :: ds, ps, e => by
    simp only [D.pys] at e
    split at e
    · rename_i p q e1 e2
      cases e
      simp only [PyData.plainAll, Bool.and_eq_true]
      exact ⟨py_plain e1, pys_plain e2⟩
    · cases e
end
def biD (b : BI) (as : List D) : Option D := match b, as with
  | .len, [.lst xs] => some (.int xs.length)
  | .len, [.tup xs] => some (.int xs.length)
  | .abs, [.int i] => some (.int (if i < 0 then -i else i))
  | .int, [.int i] => some (.int i)
  | .int, [.bl k] => some (.int (if k then 1 else 0))
  | .max, [.int i, .int j] => some (.int (if j > i then j else i))
  | .max, [.lst xs] => maxL xs
  | .min, [.int i, .int j] => some (.int (if j < i then j else i))
  | .min, [.lst xs] => minL xs
  | .sum, [.lst xs] => (dInts xs).map fun ns => .int ns.sum
  | .any, [.lst xs] => (dBls xs).map fun ns => .bl (ns.any id)
  | .all, [.lst xs] => (dBls xs).map fun ns => .bl (ns.all id)
  | .sorted, [.lst xs] => (sortL xs).map .lst
  | .sorted, [.tup xs] => (sortL xs).map .lst
  | .sorted, [.dct ks _] => (dInts ks).bind fun ns => if ns.length < 64 then some (.lst ((sortI ns).map .int)) else none
  | .len, [.dct ks _] => some (.int ks.length)
  | .list, [.lst xs] => some (.lst xs)
  | .list, [.tup xs] => some (.lst xs)
  | .tuple, [.lst xs] => some (.tup xs)
  | .tuple, [.tup xs] => some (.tup xs)
  | .repr, [.bl k] => some (.str (if k then "True" else "False"))
  | _, _ => none
/-- the first place at which x stands -/
def idxD (x : D) (xs : List D) : Option Nat := match x.py, D.pys xs with
  | some p, some qs => if SeqAt.shaped p && SeqAt.shaped (.list qs) then qs.findIdx? (fun z => PyData.eqv z p) else none
  | _, _ => none
def cntD (x : D) (xs : List D) : Option Nat := match x.py, D.pys xs with
  | some p, some qs => if SeqAt.shaped p && SeqAt.shaped (.list qs) then some (qs.countP (fun z => PyData.eqv z p)) else none
  | _, _ => none
def isLst : D → Bool
  | .lst _ => true
  | _ => false
def mtD (m : MT) (o : D) (as : List D) : Option D := match m, o, as with
  | .index, .lst xs, [x] => (idxD x xs).map fun (j : Nat) => .int j
  | .count, .lst xs, [x] => (cntD x xs).map fun (j : Nat) => .int j
  | _, _, _ => none
/-- lo, lo + 1 .., n of them -/
def rangeD (lo : Int) (n : Nat) : List D := (List.range n).map fun (k : Nat) => .int (lo + k)
/-- lo, lo - 1 .., n of them -/
def rangeN (lo : Int) (n : Nat) : List D := (List.range n).map fun (k : Nat) => .int (lo + k * (-1))
def intOf (d : D) : Option Int := match d with
  | .int i => some i
  | _ => none
def inR (i : Int) : Bool := decide (-(2 ^ 62) ≤ i) && decide (i < 2 ^ 62)
def seqOf (d : D) : Option (List D) := match d with
  | .lst xs => some xs
  | .tup xs => some xs
  | _ => none

def rngD (t : Bool) (x y : D) : Option D := match x, y with
  | .int lo, .int hi => if inR lo && inR hi && decide ((hi - lo).toNat ≤ line) then some (if t then .tup (rangeD lo (hi - lo).toNat) else .lst (rangeD lo (hi - lo).toNat)) else none
  | _, _ => none

/-- xs with d at place z -/
def setD (xs : List D) (z d : D) : Option (List D) := match z with
  | .int z => (ixN xs.length z).map fun j => xs.set j d
  | _ => none

def augD (o : BOp) (x : Int) (y : D) : Option D := match o, y with
  | .add, .int y => some (.int (x + y))
  | .sub, .int y => some (.int (x - y))
  | _, _ => none
def insD (xs : List D) (z d : D) : Option (List D) := match z with
  | .int k => if decide (xs.length < line) && (decide (0 ≤ k) && decide (k < 9223372036854775808)) then some (xs.take k.toNat ++ [d] ++ xs.drop k.toNat) else none
  | _ => none
/-- without the first that is the int d, all being ints -/
def remD (xs : List D) (d : D) : Option (List D) := match d, dInts xs with
  | .int k, some ns => if ns.contains k then some (xs.eraseIdx (ns.findIdx fun n => n == k)) else none
  | _, _ => none

/-! ### loops -/
def lcL (f : D → HS → Res (Option D)) : List D → HS → Res (List D)
  | [], h => .ok [] h
  | d :: r, h => (f d h).bind fun o h => (lcL f r h).bind fun ds h => .ok (match o with
    | some x => x :: ds
    | none => ds) h
inductive Fl where
  | nx (ρ : PEnv) | rt (d : D) | bk (ρ : PEnv) | ct (ρ : PEnv)
def forL (f : D → PEnv → HS → Res Fl) : List D → PEnv → HS → Res Fl
  | [], ρ, h => .ok (.nx ρ) h
  | d :: r, ρ, h => (f d ρ h).bind fun x h => match x with
    | .nx ρ' => forL f r ρ' h
    | .ct ρ' => forL f r ρ' h
    | .bk ρ' => .ok (.nx ρ') h
    | .rt d => .ok (.rt d) h
/-- at most n turns -/
def whileN (c : PEnv → HS → Res Bool) (f : PEnv → HS → Res Fl) : Nat → PEnv → HS → Res Fl
  | 0, _, _ => .stuck
  | n + 1, ρ, h => (c ρ h).bind fun b h => if b then (f ρ h).bind fun x h => match x with
    | .nx ρ' => whileN c f n ρ' h
    | .ct ρ' => whileN c f n ρ' h
    | .bk ρ' => .ok (.nx ρ') h
    | .rt d => .ok (.rt d) h
    else .ok (.nx ρ) h
open Classical in
noncomputable def whileL (c : PEnv → HS → Res Bool) (f : PEnv → HS → Res Fl) (ρ : PEnv) (h : HS) : Res Fl :=
  if q : ∃ n, whileN c f n ρ h ≠ .stuck then whileN c f (Classical.choose q) ρ h else .stuck

/-! ### targets -/
mutual
def asgT : IT → D → PEnv → Option PEnv
  | .nm i, d, ρ => some (ρ.set i (.val d))
  | .tp ts, d, ρ => (match d with
    | .tup xs => asgTs ts xs ρ
    | _ => none)
def asgTs : ITs → List D → PEnv → Option PEnv
  | .nil, xs, ρ => (match xs with
    | [] => some ρ
    | _ :: _ => none)
  | .cons t ts, xs, ρ => (match xs with
    | [] => none
    | x :: r => (asgT t x ρ).bind fun ρ' => asgTs ts r ρ')
end

/-- what is no list and no dict -/
def atom : D → Bool
  | .lst _ => false
  | .dct _ _ => false
  | _ => true
def slotOf (o : Bool) (d : D) : Slot := if o && !atom d then .own d else .val d
mutual
/-- statements -/
inductive IM where
  | set (i : Nat) (e : IE) | setO (i : Nat) (e : IE) | setT (t : IT) (e : IE)
  | par (is : List (Nat × Bool)) (es : IEs)
  | setIx (i : Nat) (k e : IE) | aug (i : Nat) (o : BOp) (e : IE)
  | app (i : Nat) (e : IE) | ext (i : Nat) (e : IE)
  | pop (t : IT) (i : Nat) | upd (i : Nat) (e : IE) | augIx (i : Nat) (k : IE) (o : BOp) (e : IE) | ins (i : Nat) (k e : IE) | rem (i : Nat) (e : IE)
  | expr (e : IE)
  | ite (c : IC) (a b : IMs) | whl (c : IC) (b : IMs) | for_ (t : IT) (s : IS) (b : IMs)
  | ret (e : IE) | retN | rse (c : Nat) (m : Option Int)
  | brk | cnt | pass | frz (is : List Nat) | dead
inductive IMs where
  | nil | cons (s : IM) (r : IMs)
end
def parSet : List (Nat × Bool) → List D → PEnv → Option PEnv
  | [], [], ρ => some ρ
  | (i, o) :: is, d :: ds, ρ => parSet is ds (ρ.set i (slotOf o d))
  | _, _, _ => none
def frzL : List Nat → PEnv → PEnv
  | [], ρ => ρ
  | i :: is, ρ => frzL is (match ρ[i]? with
    | some (.own d) => ρ.set i (.val d)
    | _ => ρ)
/-! ### the meaning -/
section
variable (Φ : Nat → List D → HS → Res D) (Ψ : Nat → (HS → Res D) → HS → Res D) (thk : HS → Res D)
mutual
def den : IE → PEnv → HS → Res D
  | .var i, ρ, h => (match ρ[i]? with
    | some (.val d) => .ok d h
    | _ => .stuck)
  | .ovar i, ρ, h => (match ρ[i]? with
    | some (.val d) => .ok d h
    | some (.own d) => .ok d h
    | _ => .stuck)
  | .lit d, _, h => .ok d h
  | .tup es, ρ, h => (dens es ρ h).bind fun ds h => if ds.length ≤ line then .ok (.tup ds) h else .stuck
  | .lst es, ρ, h => (dens es ρ h).bind fun ds h => if ds.length ≤ line then .ok (.lst ds) h else .stuck
  | .dct ks vs, ρ, h => (dens ks ρ h).bind fun xs h => (dens vs ρ h).bind fun ys h => if xs.isEmpty && ys.isEmpty then .ok (.dct [] []) h else .stuck
  | .dctL es, ρ, h => (dens es ρ h).bind fun ds h => ofO (dispD ds) h
  | .dget o k x, ρ, h => (den o ρ h).bind fun a h => if isDct a then (den k ρ h).bind fun z h => (den x ρ h).bind fun d h => ofO (getD2 a z d) h else .stuck
  | .rngL t a b, ρ, h => (den a ρ h).bind fun x h => (den b ρ h).bind fun y h => ofO (rngD t x y) h
  | .bin o a b, ρ, h => (den a ρ h).bind fun x h => (den b ρ h).bind fun y h => ofO (binD o x y) h
  | .neg a, ρ, h => (den a ρ h).bind fun x h => ofO (negD x) h
  | .not a, ρ, h => (den a ρ h).bind fun x h => ofO ((truthD x).map fun k => .bl (!k)) h
  | .cmp o a b, ρ, h => (den a ρ h).bind fun x h => (den b ρ h).bind fun y h => ofO ((cmpD o x y).map .bl) h
  | .chain o o' a b c, ρ, h => (den a ρ h).bind fun x h => (den b ρ h).bind fun y h => match cmpD o x y with
    | some true => (den c ρ h).bind fun z h => ofO ((cmpD o' y z).map .bl) h
    | some false => .ok (.bl false) h
    | none => .stuck
  | .and a b, ρ, h => (den a ρ h).bind fun x h => match x with
    | .bl true => den b ρ h
    | .bl false => .ok (.bl false) h
    | _ => .stuck
  | .or a b, ρ, h => (den a ρ h).bind fun x h => match x with
    | .bl true => .ok (.bl true) h
    | .bl false => den b ρ h
    | _ => .stuck
  | .ite c a b, ρ, h => (denC c ρ h).bind fun k h => if k then den a ρ h else den b ρ h
  | .ix a i, ρ, h => (den a ρ h).bind fun x h => (den i ρ h).bind fun y h => ofO (ixD h x y) h
  | .slc a lo hi, ρ, h => (den a ρ h).bind fun x h => (denO lo ρ h).bind fun l h => (denO hi ρ h).bind fun u h => ofO (slcD x l u) h
  | .rev a, ρ, h => (den a ρ h).bind fun x h => ofO (revD x) h
  | .call f as, ρ, h => (dens as ρ h).bind fun ds h => Φ f ds h
  | .callv i as, ρ, h => (match ρ[i]? with
    | some (.val (.fn f)) => (dens as ρ h).bind fun ds h => Φ f ds h
    | _ => .stuck)
  | .thk, _, h => thk h
  | .said f b, ρ, h => Ψ f (fun h => den b ρ h) h
  | .bi b as, ρ, h => (dens as ρ h).bind fun ds h => ofO (biD b ds) h
  | .isi a ts, ρ, h => (den a ρ h).bind fun x h => ofO ((isTys x ts).map .bl) h
  | .mt m o as, ρ, h => (den o ρ h).bind fun x h => if isLst x then (dens as ρ h).bind fun ds h => ofO (mtD m x ds) h else .stuck
  | .lc vs t s c e, ρ, h => (denS s ρ h).bind fun its h =>
      (calmR (lcL (fun d h => match asgT t d (wipeP ρ vs) with
        | some ρ' => (denC c ρ' h).bind fun k h => if k then (den e ρ' h).bind fun x h => .ok (some x) h else .ok none h
        | none => .stuck) its h)).bind fun ds h => if its.length ≤ line then .ok (.lst ds) h else .stuck
  | .isx i c, ρ, h => (match ρ[i]? with
    | some (.exn e) => .ok (.bl (subc e.c c)) h
    | _ => .stuck)
  | .xmost i, ρ, h => (match ρ[i]? with
    | some (.exn e) => ofO (e.m.map .int) h
    | _ => .stuck)
def dens : IEs → PEnv → HS → Res (List D)
  | .nil, _, h => .ok [] h
  | .cons e es, ρ, h => (den e ρ h).bind fun x h => (dens es ρ h).bind fun xs h => .ok (x :: xs) h
def denO : IO → PEnv → HS → Res (Option Int)
  | .no, _, h => .ok none h
  | .so e, ρ, h => (den e ρ h).bind fun x h => ofO ((intOf x).map some) h
def denS : IS → PEnv → HS → Res (List D)
  | .val e, ρ, h => (den e ρ h).bind fun x h => ofO (seqOf x) h
  | .rng1 a, ρ, h => (den a ρ h).bind fun x h => match x with
    | .int n => if inR n then .ok (rangeD 0 n.toNat) h else .stuck
    | _ => .stuck
  | .rng2 a b, ρ, h => (den a ρ h).bind fun x h => (den b ρ h).bind fun y h => match x, y with
    | .int lo, .int hi => if inR lo && inR hi then .ok (rangeD lo (hi - lo).toNat) h else .stuck
    | _, _ => .stuck
  | .rng3 a b c, ρ, h => (den a ρ h).bind fun x h => (den b ρ h).bind fun y h => match x, y with
    | .int lo, .int hi => if (inR lo && inR hi) && decide (c = -1) then .ok (rangeN lo (lo - hi).toNat) h else .stuck
    | _, _ => .stuck
  | .zip a b, ρ, h => (den a ρ h).bind fun x h => (den b ρ h).bind fun y h => match x, y with
    | .lst xs, .lst ys => .ok ((xs.zip ys).map fun p => .tup [p.1, p.2]) h
    | .tup xs, .tup ys => .ok ((xs.zip ys).map fun p => .tup [p.1, p.2]) h
    | .tup xs, .lst ys => .ok ((xs.zip ys).map fun p => .tup [p.1, p.2]) h
    | .lst xs, .tup ys => .ok ((xs.zip ys).map fun p => .tup [p.1, p.2]) h
    | _, _ => .stuck
  | .enum a, ρ, h => (den a ρ h).bind fun x h => match x with
    | .lst xs => .ok (xs.zipIdx.map fun p => .tup [.int (p.2 : Nat), p.1]) h
    | .tup xs => .ok (xs.zipIdx.map fun p => .tup [.int (p.2 : Nat), p.1]) h
    | _ => .stuck
def denC : IC → PEnv → HS → Res Bool
  | .tt, _, h => .ok true h
  | .val e, ρ, h => (den e ρ h).bind fun x h => ofO (truthD x) h
  | .and a b, ρ, h => (denC a ρ h).bind fun k h => if k then denC b ρ h else .ok false h
  | .or a b, ρ, h => (denC a ρ h).bind fun k h => if k then .ok true h else denC b ρ h
  | .not a, ρ, h => (denC a ρ h).bind fun k h => .ok (!k) h
end
mutual
noncomputable def denM : IM → PEnv → HS → Res Fl
  | .set i e, ρ, h => (den Φ Ψ thk e ρ h).bind fun d h => .ok (.nx (ρ.set i (.val d))) h
  | .setO i e, ρ, h => (den Φ Ψ thk e ρ h).bind fun d h => .ok (.nx (ρ.set i (slotOf true d))) h
  | .setT t e, ρ, h => (den Φ Ψ thk e ρ h).bind fun d h => ofO ((asgT t d ρ).map .nx) h
  | .par is es, ρ, h => (dens Φ Ψ thk es ρ h).bind fun ds h => ofO ((parSet is ds ρ).map .nx) h
  | .setIx i k e, ρ, h => (den Φ Ψ thk e ρ h).bind fun d h => match ρ[i]? with
    | some (.own (.lst xs)) => (den Φ Ψ thk k ρ h).bind fun z h => ofO ((setD xs z d).map fun ys => .nx (ρ.set i (.own (.lst ys)))) h
    | some (.val .hnd) => (den Φ Ψ thk k ρ h).bind fun z h => (match setD h z d with
      | some h' => .ok (.nx ρ) h'
      | none => .stuck)
    | some (.own (.dct ks vs)) => (den Φ Ψ thk k ρ h).bind fun z h => ofO ((setK ks vs z d).map fun r => .nx (ρ.set i (.own (.dct r.1 r.2)))) h
    | _ => .stuck
  | .aug i o e, ρ, h => (match ρ[i]? with
    | some (.val (.int x)) => (den Φ Ψ thk e ρ h).bind fun y h => (match o, y with
      | .add, .int y => .ok (.nx (ρ.set i (.val (.int (x + y))))) h
      | .sub, .int y => .ok (.nx (ρ.set i (.val (.int (x - y))))) h
      | _, _ => .stuck)
    | _ => .stuck)
  | .app i e, ρ, h => (match ρ[i]? with
    | some (.own (.lst xs)) => (den Φ Ψ thk e ρ h).bind fun d h => if xs.length < line then .ok (.nx (ρ.set i (.own (.lst (xs ++ [d]))))) h else .stuck
    | _ => .stuck)
  | .ext i e, ρ, h => (match ρ[i]? with
    | some (.own (.lst xs)) => (den Φ Ψ thk e ρ h).bind fun d h => match d with
      | .lst ys => if xs.length + ys.length ≤ line then .ok (.nx (ρ.set i (.own (.lst (xs ++ ys))))) h else .stuck
      | _ => .stuck
    | _ => .stuck)
  | .pop t i, ρ, h => (match ρ[i]? with
    | some (.own (.lst xs)) => (match xs.getLast? with
      | some d => ofO ((asgT t d (ρ.set i (.own (.lst xs.dropLast)))).map .nx) h
      | none => .stuck)
    | _ => .stuck)
  | .upd i e, ρ, h => (match ρ[i]? with
    | some (.own (.dct ks vs)) => (den Φ Ψ thk e ρ h).bind fun d h => ofO ((updD ks vs d).map fun r => .nx (ρ.set i (.own (.dct r.1 r.2)))) h
    | _ => .stuck)
  | .augIx i k o e, ρ, h => (match ρ[i]? with
    | some (.own (.lst xs)) => (den Φ Ψ thk k ρ h).bind fun z h => (match ixD [] (.lst xs) z with
      | some (.int m) => (den Φ Ψ thk e ρ h).bind fun y h => ofO ((augD o m y).bind fun d => (setD xs z d).map fun ys => .nx (ρ.set i (.own (.lst ys)))) h
      | _ => .stuck)
    | _ => .stuck)
  | .ins i k e, ρ, h => (match ρ[i]? with
    | some (.own (.lst xs)) => (den Φ Ψ thk k ρ h).bind fun z h => (den Φ Ψ thk e ρ h).bind fun d h => ofO ((insD xs z d).map fun ys => .nx (ρ.set i (.own (.lst ys)))) h
    | _ => .stuck)
  | .rem i e, ρ, h => (match ρ[i]? with
    | some (.own (.lst xs)) => (den Φ Ψ thk e ρ h).bind fun d h => ofO ((remD xs d).map fun ys => .nx (ρ.set i (.own (.lst ys)))) h
    | _ => .stuck)
  | .expr e, ρ, h => (den Φ Ψ thk e ρ h).bind fun _ h => .ok (.nx ρ) h
  | .ite c a b, ρ, h => (denC Φ Ψ thk c ρ h).bind fun k h => if k then denMs a ρ h else denMs b ρ h
  | .whl c b, ρ, h => whileL (fun ρ h => denC Φ Ψ thk c ρ h) (fun ρ h => denMs b ρ h) ρ h
  | .for_ t s b, ρ, h => (denS Φ Ψ thk s ρ h).bind fun its h => forL (fun d ρ h => match asgT t d ρ with
    | some ρ' => denMs b ρ' h
    | none => .stuck) its ρ h
  | .ret e, ρ, h => (den Φ Ψ thk e ρ h).bind fun d h => .ok (.rt d) h
  | .retN, _, h => .ok (.rt .non) h
  | .rse c m, _, h => .exc ⟨c, m⟩ h
  | .brk, ρ, h => .ok (.bk ρ) h
  | .cnt, ρ, h => .ok (.ct ρ) h
  | .pass, ρ, h => .ok (.nx ρ) h
  | .frz is, ρ, h => .ok (.nx (frzL is ρ)) h
  | .dead, _, _ => .stuck
noncomputable def denMs : IMs → PEnv → HS → Res Fl
  | .nil, ρ, h => .ok (.nx ρ) h
  | .cons s r, ρ, h => (denM s ρ h).bind fun f h => match f with
    | .nx ρ' => denMs r ρ' h
    | f => .ok f h
end
/-- a def's body, n names -/
noncomputable def denF (b : IMs) (n : Nat) (ds : List D) (h : HS) : Res D :=
  (denMs Φ Ψ thk b (ds.map .val ++ List.replicate (n - ds.length) .no) h).bind fun f h => match f with
    | .rt d => .ok d h
    | .nx _ => .ok .non h
    | _ => .stuck
end

/-! ### a def that is handed a thunk: pre; try: t() / except C as x: ..; post -/
structure WordX where
  x : Str
  params : Arguments
  body : List Stmt
  scope : Scope
  N : List Str
  a : Str
  pre : Option IM
  rt : Bool
  nx : Nat
  c : Nat
  i : Nat
  b : IMs
  post : IMs
def notOwn : Slot → Bool
  | .own _ => false
  | _ => true
def clrX (ρ : PEnv) : PEnv := ρ.map fun s => match s with
  | .exn _ => .no
  | s => s
def finR : Fl → HS → Res D := fun f h => match f with
  | .rt d => .ok d h
  | .nx _ => .ok .non h
  | _ => .stuck
abbrev noPsi : Nat → (HS → Res D) → HS → Res D := fun _ _ _ => .stuck
abbrev noThk : HS → Res D := fun _ => .stuck
abbrev noPhi : Nat → List D → HS → Res D := fun _ _ _ => .stuck
noncomputable abbrev dens0 (b : IMs) (ρ : PEnv) (h : HS) : Res Fl := denMs noPhi noPsi noThk b ρ h
/-- except C as x: b, then post -/
noncomputable def catchR (w : WordX) (e : Exc) (h : HS) : Res D :=
  if (decide (2 ≤ e.c) && decide (e.c < w.nx)) && subc e.c w.c then (dens0 w.b ((List.replicate w.N.length .no).set w.i (.exn e)) h).bind fun f h => (match f with
      | .nx ρ => (dens0 w.post ((clrX ρ).set w.i .no) h).bind finR
      | .rt d => .ok d h
      | _ => .stuck)
    else .stuck
noncomputable def preR (w : WordX) (h : HS) : Res Fl := match w.pre with
  | none => .ok (.nx ((List.replicate w.N.length .no).set 0 (.exn ⟨0, none⟩))) h
  | some m => denM noPhi noPsi noThk m ((List.replicate w.N.length .no).set 0 (.exn ⟨0, none⟩)) h
def isExn : Option Slot → Bool
  | some (.exn _) => true
  | _ => false
noncomputable def wordR (w : WordX) (t : HS → Res D) (h : HS) : Res D := (preR w h).bind fun f h => match f with
  | .nx ρ => if ρ.all notOwn && isExn ρ[0]? then (match t h with
      | .ok d h => if w.rt then .ok d h else (dens0 w.post ρ h).bind finR
      | .exc e h => catchR w e h
      | .stuck => .stuck) else .stuck
  | _ => .stuck
noncomputable def psiOf (wd : List WordX) : Nat → (HS → Res D) → HS → Res D := fun f t h => match wd[f]? with
  | some w => calmR (wordR w t h)
  | none => .stuck

/-! ### while: one turn -/
theorem whileN_more {c : PEnv → HS → Res Bool} {f : PEnv → HS → Res Fl} : ∀ {n : Nat} {ρ : PEnv} {h : HS}, whileN c f n ρ h ≠ .stuck → whileN c f (n + 1) ρ h = whileN c f n ρ h
  | 0, ρ, h, q => absurd rfl q
  | n + 1, ρ, h, q => by
    rw [whileN, whileN]
    rw [whileN] at q
    cases e : c ρ h with
    | stuck => rfl
    | exc x h1 => rfl
    | ok b h1 =>
      rw [e] at q
      simp only [Res.bind] at q ⊢
      cases b with
      | false => rfl
      | true =>
        simp only [if_true] at q ⊢
        cases e2 : f ρ h1 with
        | stuck => rfl
        | exc x h2 => rfl
        | ok g h2 =>
          rw [e2] at q
          simp only at q ⊢
          cases g with
          | nx ρ' => exact whileN_more q
          | ct ρ' => exact whileN_more q
          | bk ρ' => rfl
          | rt d => rfl
theorem whileN_le {c : PEnv → HS → Res Bool} {f : PEnv → HS → Res Fl} {n : Nat} {ρ : PEnv} {h : HS} (q : whileN c f n ρ h ≠ .stuck) : ∀ k, whileN c f (n + k) ρ h = whileN c f n ρ h
  | 0 => rfl
  | k + 1 => by
    have e := whileN_le q k
    rw [← Nat.add_assoc, whileN_more (by rw [e]; exact q), e]
theorem whileL_of {c : PEnv → HS → Res Bool} {f : PEnv → HS → Res Fl} {n : Nat} {ρ : PEnv} {h : HS} (q : whileN c f n ρ h ≠ .stuck) : whileL c f ρ h = whileN c f n ρ h := by
  have z : ∃ n, whileN c f n ρ h ≠ .stuck := ⟨n, q⟩
  unfold whileL
  rw [dif_pos z]
  have q2 := Classical.choose_spec z
  generalize Classical.choose z = m at q2
  have e1 := whileN_le q m
  have e2 := whileN_le q2 n
  rw [Nat.add_comm] at e2
  rw [← e2, e1]
theorem whileL_ex {c : PEnv → HS → Res Bool} {f : PEnv → HS → Res Fl} {ρ : PEnv} {h : HS} (q : whileL c f ρ h ≠ .stuck) : ∃ n, whileL c f ρ h = whileN c f n ρ h := by
  unfold whileL at q ⊢
  split
  · exact ⟨_, rfl⟩
  · rename_i z
    rw [dif_neg z] at q
    exact absurd rfl q
/-- the turn's equation -/
theorem whileL_eq (c : PEnv → HS → Res Bool) (f : PEnv → HS → Res Fl) (ρ : PEnv) (h : HS) : whileL c f ρ h = (c ρ h).bind fun b h => if b then (f ρ h).bind fun x h => match x with
    | .nx ρ' => whileL c f ρ' h
    | .ct ρ' => whileL c f ρ' h
    | .bk ρ' => .ok (.nx ρ') h
    | .rt d => .ok (.rt d) h
    else .ok (.nx ρ) h := by
  by_cases z : ∃ n, whileN c f n ρ h ≠ .stuck
  · obtain ⟨n, q⟩ := z
    cases n with
    | zero => exact absurd rfl q
    | succ n =>
      rw [whileL_of q]
      rw [whileN] at q ⊢
      cases e : c ρ h with
      | stuck => rfl
      | exc x h1 => rfl
      | ok b h1 =>
        rw [e] at q
        simp only [Res.bind] at q ⊢
        cases b with
        | false => rfl
        | true =>
          simp only [if_true] at q ⊢
          cases e2 : f ρ h1 with
          | stuck => rfl
          | exc x h2 => rfl
          | ok g h2 =>
            rw [e2] at q
            simp only at q ⊢
            cases g with
            | nx ρ' => exact (whileL_of q).symm
            | ct ρ' => exact (whileL_of q).symm
            | bk ρ' => rfl
            | rt d => rfl
  · have e0 : whileL c f ρ h = .stuck := by
      unfold whileL
      rw [dif_neg z]
    rw [e0]
    cases e : c ρ h with
    | stuck => rfl
    | exc x h1 => exact absurd ⟨1, by rw [whileN, e]; simp [Res.bind]⟩ z
    | ok b h1 =>
      simp only [Res.bind]
      cases b with
      | false => exact absurd ⟨1, by rw [whileN, e]; simp [Res.bind]⟩ z
      | true =>
        simp only [if_true]
        cases e2 : f ρ h1 with
        | stuck => rfl
        | exc x h2 => exact absurd ⟨1, by rw [whileN, e]; simp [Res.bind, e2]⟩ z
        | ok g h2 =>
          simp only
          have lift : ∀ ρ' , (g = .nx ρ' ∨ g = .ct ρ') → whileL c f ρ' h2 = .stuck := fun ρ' hg => by
            by_cases y : ∃ n, whileN c f n ρ' h2 ≠ .stuck
            · obtain ⟨n, q⟩ := y
              refine absurd ⟨n + 1, ?_⟩ z
              rw [whileN, e]
              simp only [Res.bind, if_true, e2]
              rcases hg with hg | hg <;> (subst hg; exact q)
            · unfold whileL
              rw [dif_neg y]
          cases g with
          | nx ρ' => exact (lift ρ' (.inl rfl)).symm
          | ct ρ' => exact (lift ρ' (.inr rfl)).symm
          | bk ρ' => exact absurd ⟨1, by rw [whileN, e]; simp [Res.bind, e2]⟩ z
          | rt d => exact absurd ⟨1, by rw [whileN, e]; simp [Res.bind, e2]⟩ z
end PD

set_option Elab.async false
set_option linter.all false
set_option maxRecDepth 100000
set_option maxHeartbeats 2000000
/-! P2: data in the heap; what an expression's reading owes its meaning. -/
namespace PD
open PySem PySem.Spec PyProof.Rows L2
abbrev St := L2.St

/-- what is fixed through a law -/
structure Cfg where
  P : Program
  w : World
  K : PySem.W.Frag
  mg : Str → Option Value
  base : Heap
  /-- the defs: names, addresses, objects, parameters -/
  nm : List Str
  fa : Nat → Addr
  fd : Nat → FuncData
  ps : Nat → List Str
  /-- names that stand for data; free ones -/
  cs : List (Str × D)
  fr : List Str
  /-- classes of errors: the built-in base, the own base, the others -/
  xn : List Str
  cv : Nat → Value
  T : List (Addr × Str)
  /-- defs that are handed a thunk -/
  wd : List WordX
  wa : Nat → Addr
  /-- the exception that a suite holds -/
  xa : Addr
  xd : Option Addr
  xq : Exc

def NT (o : HO) : Prop := ∀ ps, o ≠ .tbl ps
/-- nothing that is leant on stands there -/
def FreshAt (H : Hp) (p : Addr) : Prop := ∀ o, H p = some o → ¬ NT o
theorem freshAt_none {H : Hp} {p : Addr} (h : H p = none) : FreshAt H p := fun o e => by rw [h] at e; cases e
def kD : Key → D
  | .inl i => .int i
  | .inr x => .str x
variable (G : Cfg)

mutual
/-- v stands for d; what lies in B is not leant on -/
def Rep (ha : Addr) (B : Addr → Prop) (H : Hp) : D → V → Prop
  | .non, v => v = .non
  | .bl b, v => v = .bl b
  | .int i, v => v = .int i
  | .str x, v => v = .str x
  | .tup ds, v => ∃ a vs, v = .ref a ∧ SqT G.K H a vs ∧ Reps ha B H ds vs
  | .lst ds, v => ∃ a vs, v = .ref a ∧ ¬ B a ∧ H a = some (.lst vs) ∧ Reps ha B H ds vs
  | .dct ks xs, v => ∃ a kvs, v = .ref a ∧ ¬ B a ∧ H a = some (.dK kvs) ∧ ks = kvs.map (fun p => kD p.1) ∧ Reps ha B H xs (kvs.map (·.2))
  | .fn n, v => v = .ref (G.fa n) ∧ (G.nm[n]?).isSome = true
  | .hnd, v => v = .ref ha
def Reps (ha : Addr) (B : Addr → Prop) (H : Hp) : List D → List V → Prop
  | [], vs => vs = []
  | d :: ds, vs => ∃ v r, vs = v :: r ∧ Rep ha B H d v ∧ Reps ha B H ds r
end
/-- as Rep, but the object itself may lie in B -/
def WRep (ha : Addr) (B : Addr → Prop) (H : Hp) : D → V → Prop
  | .lst ds, v => ∃ a vs, v = .ref a ∧ a ≠ ha ∧ H a = some (.lst vs) ∧ Reps G ha B H ds vs
  | .dct ks xs, v => ∃ a kvs, v = .ref a ∧ a ≠ ha ∧ H a = some (.dK kvs) ∧ ks = kvs.map (fun p => kD p.1) ∧ Reps G ha B H xs (kvs.map (·.2))
  | d, v => Rep G ha B H d v
def WReps (ha : Addr) (B : Addr → Prop) (H : Hp) : List D → List V → Prop
  | [], vs => vs = []
  | d :: ds, vs => ∃ v r, vs = v :: r ∧ WRep G ha B H d v ∧ WReps ha B H ds r
/-- how a value stands for d: perhaps in B; not in B; newly made if it is a list or a dict (H0: the heap ahead) -/
inductive Md where
  | wk | st | fr
/-- what S does not hold stays -/
structure Keep (S : Addr → Prop) (H H' : Hp) : Prop where
  at_ : ∀ b o, ¬ S b → H b = some o → NT o → H' b = some o
  tup : ∀ b xs, H b = some (.tup xs) → H' b = some (.tup xs)
  frz : ∀ b o u, H b = some (.frz o u) → H' b = some (.frz o u)
abbrev Ext (ha : Addr) : Hp → Hp → Prop := Keep (fun b => b = ha)

variable {G : Cfg} {ha : Addr} {B B' : Addr → Prop} {S S' : Addr → Prop} {H H1 H' H'' : Hp}
theorem Keep.refl : Keep S H H := ⟨fun _ _ _ e _ => e, fun _ _ e => e, fun _ _ _ e => e⟩
theorem Keep.trans (a : Keep S H H1) (b : Keep S H1 H') : Keep S H H' :=
  ⟨fun c o n e t => b.at_ c o n (a.at_ c o n e t) t, fun c xs e => b.tup c xs (a.tup c xs e), fun c o u e => b.frz c o u (a.frz c o u e)⟩
theorem Keep.imp (a : Keep S H H') (h : ∀ b, S b → S' b) : Keep S' H H' := ⟨fun c o n e t => a.at_ c o (fun z => n (h c z)) e t, a.tup, a.frz⟩
theorem Keep.of_same (s : Same H H') : Keep S H H' := ⟨fun b o _ e _ => s b o e, fun b xs e => s b _ e, fun b o u e => s b _ e⟩
theorem same_new {p : Addr} {o : HO} (n : H p = none) : Same H (upd H p o) := fun b u e => by
  rw [upd_ne (ne_of_none e n)]
  exact e
theorem Keep.new {p : Addr} {o : HO} (n : H p = none) : Keep S H (upd H p o) := .of_same (same_new n)
/-- a list (a dict) in S is written -/
theorem Keep.wr {p : Addr} {o u : HO} (hp : S p) (e : H p = some u) (h1 : ∀ xs, u ≠ .tup xs) (h2 : ∀ a b, u ≠ .frz a b) : Keep S H (upd H p o) :=
  ⟨fun b z n q _ => by rw [upd_ne (fun y : b = p => n (by rw [y]; exact hp))]; exact q,
   fun b xs q => by rw [upd_ne (fun y : b = p => h1 xs (by rw [y, e] at q; exact Option.some.inj q))]; exact q,
   fun b a c q => by rw [upd_ne (fun y : b = p => h2 a c (by rw [y, e] at q; exact Option.some.inj q))]; exact q⟩
theorem Keep.sqT {K : PySem.W.Frag} {a : Addr} {xs : List V} (k : Keep S H H') (h : SqT K H a xs) : SqT K H' a xs := by
  rcases h with (h | ⟨o, h⟩) | h
  · exact .inl (.inl (k.tup _ _ h))
  · exact .inl (.inr ⟨o, k.frz _ _ _ h⟩)
  · exact .inr h
theorem nt_lst {xs : List V} : NT (.lst xs) := fun _ h => nomatch h
theorem nt_tup {xs : List V} : NT (.tup xs) := fun _ h => nomatch h
theorem nt_dK {kvs : List (Key × V)} : NT (.dK kvs) := fun _ h => nomatch h

mutual
theorem Rep.keep (k : Keep B H H') : ∀ {d : D} {v : V}, Rep G ha B H d v → Rep G ha B H' d v
  | .non, _, h => h
  | .bl _, _, h => h
  | .int _, _, h => h
  | .str _, _, h => h
  | .tup ds, _, h => by
    simp only [Rep] at h ⊢
    obtain ⟨a, vs, e, s, r⟩ := h
    exact ⟨a, vs, e, k.sqT s, Reps.keep k r⟩
  | .lst ds, _, h => by
    simp only [Rep] at h ⊢
    obtain ⟨a, vs, e, n, s, r⟩ := h
    exact ⟨a, vs, e, n, k.at_ _ _ n s nt_lst, Reps.keep k r⟩
  | .dct ks xs, _, h => by
    simp only [Rep] at h ⊢
    obtain ⟨a, vs, e, n, s, q, r⟩ := h
    exact ⟨a, vs, e, n, k.at_ _ _ n s nt_dK, q, Reps.keep k r⟩
  | .fn _, _, h => h
  | .hnd, _, h => h
theorem Reps.keep (k : Keep B H H') : ∀ {ds : List D} {vs : List V}, Reps G ha B H ds vs → Reps G ha B H' ds vs
  | [], _, h => by
    simp only [Reps] at h ⊢
    exact h
  | d :: ds, _, h => by
    simp only [Reps] at h ⊢
    obtain ⟨v, r, e, h1, h2⟩ := h
    exact ⟨v, r, e, Rep.keep k h1, Reps.keep k h2⟩
end
mutual
/-- B may shrink, and grow by what is not tracked -/
theorem Rep.chg (k : ∀ b, B' b → B b ∨ FreshAt H b) : ∀ {d : D} {v : V}, Rep G ha B H d v → Rep G ha B' H d v
  | .non, _, h => h
  | .bl _, _, h => h
  | .int _, _, h => h
  | .str _, _, h => h
  | .tup ds, _, h => by
    simp only [Rep] at h ⊢
    obtain ⟨a, vs, e, s, r⟩ := h
    exact ⟨a, vs, e, s, Reps.chg k r⟩
  | .lst ds, _, h => by
    simp only [Rep] at h ⊢
    obtain ⟨a, vs, e, n, s, r⟩ := h
    exact ⟨a, vs, e, fun z => (k a z).elim n (fun y => y _ s nt_lst), s, Reps.chg k r⟩
  | .dct ks xs, _, h => by
    simp only [Rep] at h ⊢
    obtain ⟨a, vs, e, n, s, q, r⟩ := h
    exact ⟨a, vs, e, fun z => (k a z).elim n (fun y => y _ s nt_dK), s, q, Reps.chg k r⟩
  | .fn _, _, h => h
  | .hnd, _, h => h
theorem Reps.chg (k : ∀ b, B' b → B b ∨ FreshAt H b) : ∀ {ds : List D} {vs : List V}, Reps G ha B H ds vs → Reps G ha B' H ds vs
  | [], _, h => by
    simp only [Reps] at h ⊢
    exact h
  | d :: ds, _, h => by
    simp only [Reps] at h ⊢
    obtain ⟨v, r, e, h1, h2⟩ := h
    exact ⟨v, r, e, Rep.chg k h1, Reps.chg k h2⟩
end
theorem Reps.nil : Reps G ha B H [] [] := by simp only [Reps]
theorem Reps.cons {d : D} {v : V} {ds : List D} {vs : List V} (h : Rep G ha B H d v) (t : Reps G ha B H ds vs) : Reps G ha B H (d :: ds) (v :: vs) := by
  simp only [Reps]
  exact ⟨v, vs, rfl, h, t⟩
theorem Reps.length : ∀ {ds : List D} {vs : List V}, Reps G ha B H ds vs → ds.length = vs.length
  | [], _, h => by
    simp only [Reps] at h
    rw [h]
    rfl
  | d :: ds, _, h => by
    simp only [Reps] at h
    obtain ⟨v, r, e, _, h2⟩ := h
    rw [e, List.length_cons, List.length_cons, Reps.length h2]
theorem Reps.append : ∀ {ds es : List D} {vs us : List V}, Reps G ha B H ds vs → Reps G ha B H es us → Reps G ha B H (ds ++ es) (vs ++ us)
  | [], _, _, _, h, t => by
    simp only [Reps] at h
    rw [h]
    exact t
  | d :: ds, _, _, _, h, t => by
    simp only [Reps] at h
    obtain ⟨v, r, e, h1, h2⟩ := h
    rw [e]
    exact .cons h1 (Reps.append h2 t)
theorem Reps.get : ∀ {ds : List D} {vs : List V} {i : Nat} {d : D}, Reps G ha B H ds vs → ds[i]? = some d → ∃ v, vs[i]? = some v ∧ Rep G ha B H d v
  | [], _, _, _, _, e => by simp at e
  | d :: ds, _, 0, _, h, e => by
    simp only [Reps] at h
    obtain ⟨v, r, q, h1, h2⟩ := h
    simp at e
    subst q e
    exact ⟨v, rfl, h1⟩
  | d :: ds, _, i + 1, _, h, e => by
    simp only [Reps] at h
    obtain ⟨v, r, q, h1, h2⟩ := h
    subst q
    obtain ⟨u, e1, e2⟩ := Reps.get (i := i) h2 (by simpa using e)
    exact ⟨u, by simpa using e1, e2⟩
theorem Reps.get' : ∀ {ds : List D} {vs : List V} {i : Nat} {v : V}, Reps G ha B H ds vs → vs[i]? = some v → ∃ d, ds[i]? = some d ∧ Rep G ha B H d v
  | [], _, _, _, h, e => by
    simp only [Reps] at h
    rw [h] at e
    simp at e
  | d :: ds, _, 0, _, h, e => by
    simp only [Reps] at h
    obtain ⟨v, r, q, h1, h2⟩ := h
    subst q
    simp at e
    subst e
    exact ⟨d, rfl, h1⟩
  | d :: ds, _, i + 1, _, h, e => by
    simp only [Reps] at h
    obtain ⟨v, r, q, h1, h2⟩ := h
    subst q
    obtain ⟨u, e1, e2⟩ := Reps.get' (i := i) h2 (by simpa using e)
    exact ⟨u, by simpa using e1, e2⟩
theorem Reps.set {d : D} {v : V} (q : Rep G ha B H d v) : ∀ {ds : List D} {vs : List V} (i : Nat), Reps G ha B H ds vs → Reps G ha B H (ds.set i d) (vs.set i v)
  | [], _, _, h => by
    simp only [Reps] at h
    subst h
    exact .nil
  | _ :: ds, _, 0, h => by
    simp only [Reps] at h
    obtain ⟨_, r, e, _, h2⟩ := h
    subst e
    exact .cons q h2
  | _ :: ds, _, i + 1, h => by
    simp only [Reps] at h
    obtain ⟨_, r, e, h1, h2⟩ := h
    subst e
    exact .cons h1 (Reps.set q i h2)
theorem Reps.take : ∀ {ds : List D} {vs : List V} (n : Nat), Reps G ha B H ds vs → Reps G ha B H (ds.take n) (vs.take n)
  | _, _, 0, _ => by simp [Reps]
  | [], _, _ + 1, h => by
    simp only [Reps] at h
    subst h
    exact .nil
  | _ :: ds, _, n + 1, h => by
    simp only [Reps] at h
    obtain ⟨_, r, e, h1, h2⟩ := h
    subst e
    exact .cons h1 (Reps.take n h2)
theorem Reps.drop : ∀ {ds : List D} {vs : List V} (n : Nat), Reps G ha B H ds vs → Reps G ha B H (ds.drop n) (vs.drop n)
  | _, _, 0, h => h
  | [], _, _ + 1, h => by
    simp only [Reps] at h
    subst h
    exact .nil
  | _ :: ds, _, n + 1, h => by
    simp only [Reps] at h
    obtain ⟨_, r, e, h1, h2⟩ := h
    subst e
    exact Reps.drop n h2
theorem Reps.reverse : ∀ {ds : List D} {vs : List V}, Reps G ha B H ds vs → Reps G ha B H ds.reverse vs.reverse
  | [], _, h => by
    simp only [Reps] at h
    subst h
    exact .nil
  | _ :: ds, _, h => by
    simp only [Reps] at h
    obtain ⟨_, r, e, h1, h2⟩ := h
    subst e
    rw [List.reverse_cons, List.reverse_cons]
    exact .append (Reps.reverse h2) (.cons h1 .nil)
theorem Reps.rep {ds : List D} {vs : List V} (h : Reps G ha B H ds vs) : ∀ k : Nat, Reps G ha B H (List.replicate k ds).flatten (List.replicate k vs).flatten
  | 0 => .nil
  | k + 1 => by
    rw [List.replicate_succ, List.replicate_succ, List.flatten_cons, List.flatten_cons]
    exact .append h (Reps.rep h k)
theorem Rep.weak (hB : B ha) {d : D} {v : V} (h : Rep G ha B H d v) : WRep G ha B H d v := by
  cases d with
  | lst ds =>
    simp only [Rep, WRep] at h ⊢
    obtain ⟨a, vs, e, n, s, r⟩ := h
    exact ⟨a, vs, e, fun z => n (z ▸ hB), s, r⟩
  | dct ks xs =>
    simp only [Rep, WRep] at h ⊢
    obtain ⟨a, vs, e, n, s, q, r⟩ := h
    exact ⟨a, vs, e, fun z => n (z ▸ hB), s, q, r⟩
  | _ => exact h
theorem WRep.keep (hB : B ha) (k : Ext ha H H') {d : D} {v : V} (h : WRep G ha B H d v) : WRep G ha B H' d v := by
  have kB : Keep B H H' := k.imp fun b z => z ▸ hB
  cases d with
  | lst ds =>
    simp only [WRep] at h ⊢
    obtain ⟨a, vs, e, n, s, r⟩ := h
    exact ⟨a, vs, e, n, k.at_ _ _ n s nt_lst, Reps.keep kB r⟩
  | dct ks xs =>
    simp only [WRep] at h ⊢
    obtain ⟨a, vs, e, n, s, q, r⟩ := h
    exact ⟨a, vs, e, n, k.at_ _ _ n s nt_dK, q, Reps.keep kB r⟩
  | _ => exact Rep.keep kB h
theorem WReps.keep (hB : B ha) (k : Ext ha H H') : ∀ {ds : List D} {vs : List V}, WReps G ha B H ds vs → WReps G ha B H' ds vs
  | [], _, h => h
  | d :: ds, _, ⟨v, r, e, h1, h2⟩ => ⟨v, r, e, WRep.keep hB k h1, WReps.keep hB k h2⟩
theorem WRep.st {d : D} {v : V} (h : WRep G ha B H d v) (ht : atom d = true) : Rep G ha B H d v := by
  cases d <;> first | exact h | cases ht

/-! ### the hand, the tables -/
structure Hnd (G : Cfg) (ha : Addr) (B : Addr → Prop) (H : Hp) (hs : HS) : Prop where
  hB : B ha
  at_ : ∃ vs, H ha = some (.lst vs) ∧ Reps G ha B H hs vs
  trk : ∀ b, B b → ∃ o, H b = some o ∧ NT o
  tab : LamX.Tabs G.T H
theorem Hnd.ext_tup {hs : HS} (h : Hnd G ha B H hs) (k : ∀ b o, b ≠ ha → H b = some o → NT o → H' b = some o) (kf : ∀ b o u, H b = some (.frz o u) → H' b = some (.frz o u)) : Ext ha H H' := by
  obtain ⟨vs, e, _⟩ := h.at_
  exact ⟨k, fun b xs q => k b _ (fun z => by rw [z, e] at q; cases q) q nt_tup, kf⟩
theorem Hnd.ext {hs : HS} (h : Hnd G ha B H hs) (k : ∀ b o, b ≠ ha → H b = some o → NT o → H' b = some o) : Ext ha H H' := by
  obtain ⟨vs, e, _⟩ := h.at_
  exact ⟨k, fun b xs q => k b _ (fun z => by rw [z, e] at q; cases q) q nt_tup, fun b o u q => k b _ (fun z => by rw [z, e] at q; cases q) q (fun _ z => nomatch z)⟩
/-- all that is tracked stays -/
theorem Hnd.same {hs : HS} (h : Hnd G ha B H hs) (s : Same H H') : Hnd G ha B H' hs := by
  obtain ⟨vs, e, r⟩ := h.at_
  refine ⟨h.hB, ⟨vs, s _ _ e, Reps.keep (.of_same s) r⟩, fun b z => ?_, h.tab.ext s⟩
  obtain ⟨o, q, t⟩ := h.trk b z
  exact ⟨o, s _ _ q, t⟩
theorem Hnd.chg {hs : HS} (h : Hnd G ha B H hs) (hB : B' ha) (k : ∀ b, B' b → B b ∨ FreshAt H b) (t : ∀ b, B' b → ∃ o, H b = some o ∧ NT o) : Hnd G ha B' H hs := by
  obtain ⟨vs, e, r⟩ := h.at_
  exact ⟨hB, ⟨vs, e, Reps.chg k r⟩, t, h.tab⟩

/-- newly made, if it is a list or a dict: not leant on by the hand either -/
def Fresh (G : Cfg) (ha : Addr) (B : Addr → Prop) (H0 H : Hp) (d : D) (v : V) (hs : HS) : Prop := match d with
  | .lst ds => ∃ p vs, v = .ref p ∧ FreshAt H0 p ∧ ¬ B p ∧ H p = some (.lst vs) ∧ Hnd G ha (fun b => B b ∨ b = p) H hs ∧ Reps G ha (fun b => B b ∨ b = p) H ds vs
  | .dct ks xs => ∃ p kvs, v = .ref p ∧ FreshAt H0 p ∧ ¬ B p ∧ H p = some (.dK kvs) ∧ Hnd G ha (fun b => B b ∨ b = p) H hs ∧ ks = kvs.map (fun p => kD p.1) ∧ Reps G ha (fun b => B b ∨ b = p) H xs (kvs.map (·.2))
  | d => Rep G ha B H d v
def RepM (G : Cfg) (m : Md) (ha : Addr) (B : Addr → Prop) (H0 H : Hp) (d : D) (v : V) (hs : HS) : Prop := match m with
  | .wk => WRep G ha B H d v
  | .st => Rep G ha B H d v
  | .fr => Fresh G ha B H0 H d v hs
theorem Fresh.rep {d : D} {v : V} {H0 : Hp} {hs : HS} (h : Fresh G ha B H0 H d v hs) : Rep G ha B H d v := by
  cases d with
  | lst ds =>
    simp only [Fresh, Rep] at h ⊢
    obtain ⟨p, vs, e, _, n, s, _, r⟩ := h
    exact ⟨p, vs, e, n, s, Reps.chg (fun b z => .inl (.inl z)) r⟩
  | dct ks xs =>
    simp only [Fresh, Rep] at h ⊢
    obtain ⟨p, vs, e, _, n, s, _, q, r⟩ := h
    exact ⟨p, vs, e, n, s, q, Reps.chg (fun b z => .inl (.inl z)) r⟩
  | _ => exact h
theorem Fresh.weak (hB : B ha) {d : D} {v : V} {H0 : Hp} {hs : HS} (h : Fresh G ha B H0 H d v hs) : WRep G ha B H d v := Rep.weak hB h.rep
theorem RepM.weak {m : Md} {H0 : Hp} {hs : HS} (hB : B ha) {d : D} {v : V} (h : RepM G m ha B H0 H d v hs) : WRep G ha B H d v := by
  cases m with
  | wk => exact h
  | st => exact Rep.weak hB h
  | fr => exact Fresh.weak hB h
theorem Rep.any {m : Md} {H0 : Hp} {hs : HS} (hB : B ha) {d : D} {v : V} (h : Rep G ha B H d v) (ht : atom d = true) : RepM G m ha B H0 H d v hs := by
  cases m with
  | wk => exact Rep.weak hB h
  | st => exact h
  | fr => cases d <;> first | exact h | cases ht
/-- a new list in B -/
theorem Hnd.plus {hs : HS} {D : Addr} {xs : List V} (h : Hnd G ha B H hs) (n : H D = none) : Hnd G ha (fun b => B b ∨ b = D) (upd H D (.lst xs)) hs := by
  obtain ⟨vs, e, r⟩ := h.at_
  have hh := h.same (same_new (o := .lst xs) n)
  refine ⟨.inl hh.hB, ⟨vs, same_new n _ _ e, Reps.keep (Keep.new n) (Reps.chg (fun b z => z.elim .inl fun y => .inr (y ▸ freshAt_none n)) r)⟩, fun b z => ?_, hh.tab⟩
  rcases z with z | rfl
  · exact hh.trk b z
  · exact ⟨_, upd_same, nt_lst⟩

/-! ### the slots -/
def ExcAt (e : Exc) (dx : Option Addr) (H : Hp) : Prop := match e.m with
  | none => dx = none
  | some m => ∃ a, dx = some a ∧ H a = some (.xd [("most", .int m)])
/-- the slot of the exception that a suite holds -/
def XSl (G : Cfg) (H : Hp) (e : Exc) (x : Option (Option V)) : Prop := x = some (some (.ref G.xa)) ∧ ExcAt e G.xd H ∧ e = G.xq
theorem nt_xd {fs : List (Str × V)} : NT (.xd fs) := fun _ h => nomatch h
theorem ExcAt.keep {e : Exc} {dx : Option Addr} (q : ExcAt e dx H) (k : Keep S H H') (hs : ∀ b, S b → ∃ xs, H b = some (.lst xs)) : ExcAt e dx H' := by
  unfold ExcAt at q ⊢
  split
  · rename_i h
    rw [h] at q
    exact q
  · rename_i m h
    rw [h] at q
    obtain ⟨a, ea, eh⟩ := q
    refine ⟨a, ea, k.at_ a _ (fun z => ?_) eh nt_xd⟩
    obtain ⟨xs, e2⟩ := hs a z
    rw [eh] at e2
    cases e2
theorem XSl.keep {e : Exc} {x : Option (Option V)} (q : XSl G H e x) (k : Keep S H H') (hs : ∀ b, S b → ∃ xs, H b = some (.lst xs)) : XSl G H' e x := ⟨q.1, q.2.1.keep k hs, q.2.2⟩
theorem ExcAt.keepK {e : Exc} {dx : Option Addr} (q : ExcAt e dx H) (k : Keep S H H') (hs : ∀ b, S b → ∃ xs, H b = some (.dK xs)) : ExcAt e dx H' := by
  unfold ExcAt at q ⊢
  split
  · rename_i h
    rw [h] at q
    exact q
  · rename_i m h
    rw [h] at q
    obtain ⟨a, ea, eh⟩ := q
    refine ⟨a, ea, k.at_ a _ (fun z => ?_) eh nt_xd⟩
    obtain ⟨xs, e2⟩ := hs a z
    rw [eh] at e2
    cases e2
theorem XSl.keepK {e : Exc} {x : Option (Option V)} (q : XSl G H e x) (k : Keep S H H') (hs : ∀ b, S b → ∃ xs, H b = some (.dK xs)) : XSl G H' e x := ⟨q.1, q.2.1.keepK k hs, q.2.2⟩
theorem Hnd.ls {hs : HS} (h : Hnd G ha B H hs) : ∀ b, b = ha → ∃ xs, H b = some (.lst xs) := fun b e => by
  obtain ⟨vs, q, _⟩ := h.at_
  exact ⟨vs, by rw [e]; exact q⟩
def SlotOk (G : Cfg) (ha : Addr) (B : Addr → Prop) (H : Hp) (s : Slot) (x : Option (Option V)) : Prop :=
  match s with
  | .no => True
  | .val d => ∃ v, x = some (some v) ∧ Rep G ha B H d v
  | .own d => ∃ v, x = some (some v) ∧ WRep G ha B H d v
  | .exn e => XSl G H e x
structure ESim (G : Cfg) (ha : Addr) (B : Addr → Prop) (ρ : PEnv) (hs : HS) (σ : St) (H : Hp) : Prop where
  len : σ.length = ρ.length
  at_ : ∀ (i : Nat) (s : Slot), ρ[i]? = some s → SlotOk G ha B H s σ[i]?
  hnd : Hnd G ha B H hs
theorem ESim.ext {ρ : PEnv} {hs hs' : HS} {σ : St} (S : ESim G ha B ρ hs σ H) (k : Ext ha H H') (h : Hnd G ha B H' hs') : ESim G ha B ρ hs' σ H' := by
  refine ⟨S.len, fun i s e => ?_, h⟩
  have q := S.at_ i s e
  cases s with
  | no => trivial
  | exn _ => exact XSl.keep q k S.hnd.ls
  | val d =>
    obtain ⟨v, e1, r⟩ := q
    exact ⟨v, e1, Rep.keep (k.imp fun b z => z ▸ h.hB) r⟩
  | own d =>
    obtain ⟨v, e1, r⟩ := q
    exact ⟨v, e1, WRep.keep h.hB k r⟩

/-! ### what is owed -/
def XPost (G : Cfg) (ha : Addr) (B : Addr → Prop) (H : Hp) (E : XK) (e : Exc) (hs : HS) : Prop :=
  ∀ dx H', Ext ha H H' → Hnd G ha B H' hs → ExcAt e dx H' → E (G.cv e.c) dx H'
/-- the end of something that gives an α, told by R (of the heap ahead, the α, what stands for it, the heap behind) -/
abbrev Rl (α β : Type) := Hp → α → β → HS → Hp → Prop
def RPost {α β : Type} (G : Cfg) (ha : Addr) (B : Addr → Prop) (H : Hp) (R : Rl α β) (Q : β → Hp → Prop) (E : XK) : Res α → Prop
  | .ok a hs => ∀ v H', Ext ha H H' → Hnd G ha B H' hs → R H a v hs H' → Q v H'
  | .exc e hs => XPost G ha B H E e hs
  | .stuck => False
abbrev RE (G : Cfg) (m : Md) (ha : Addr) (B : Addr → Prop) : Rl D V := fun H d v hs H' => RepM G m ha B H H' d v hs
abbrev RT : Rl Bool Bool := fun _ k b _ _ => b = k
abbrev RA (G : Cfg) (wk : Bool) (ha : Addr) (B : Addr → Prop) : Rl (List D) (List V) := fun _ ds vs _ H' => if wk = true then WReps G ha B H' ds vs else Reps G ha B H' ds vs
abbrev EPost (G : Cfg) (m : Md) (ha : Addr) (B : Addr → Prop) (H : Hp) (Q : VK) (E : XK) : Res D → Prop := RPost G ha B H (RE G m ha B) Q E
abbrev TPost (G : Cfg) (ha : Addr) (B : Addr → Prop) (H : Hp) (Q : Bool → Hp → Prop) (E : XK) : Res Bool → Prop := RPost G ha B H RT Q E
abbrev APost (G : Cfg) (wk : Bool) (ha : Addr) (B : Addr → Prop) (H : Hp) (Q : List V → Hp → Prop) (E : XK) : Res (List D) → Prop := RPost G ha B H (RA G wk ha B) Q E
def Lifts {α β : Type} (G : Cfg) (ha : Addr) (B : Addr → Prop) (R : Rl α β) : Prop := ∀ H H1 H' hs hs' a v, Ext ha H H1 → Hnd G ha B H1 hs → R H1 a v hs' H' → R H a v hs' H'
theorem lifts_E {m : Md} : Lifts G ha B (RE G m ha B) := fun H H1 H' hs hs' d v k hh h => by
  cases m with
  | wk => exact h
  | st => exact h
  | fr =>
    have fr : ∀ {p : Addr}, FreshAt H1 p → FreshAt H p := fun {p} f o e n => by
      by_cases hp : p = ha
      · obtain ⟨vs, q, _⟩ := hh.at_
        exact f _ (by rw [hp]; exact q) nt_lst
      · exact f o (k.at_ p o hp e n) n
    cases d with
    | lst ds =>
      obtain ⟨p, vs, e, f, n, s, hp, r⟩ := h
      exact ⟨p, vs, e, fr f, n, s, hp, r⟩
    | dct ks xs =>
      obtain ⟨p, vs, e, f, n, s, hp, q, r⟩ := h
      exact ⟨p, vs, e, fr f, n, s, hp, q, r⟩
    | _ => exact h
theorem lifts_T : Lifts G ha B RT := fun _ _ _ _ _ _ _ _ _ h => h
theorem lifts_A {wk : Bool} : Lifts G ha B (RA G wk ha B) := fun _ _ _ _ _ _ _ _ _ h => h
theorem XPost.base {e : Exc} {hs : HS} {E : XK} (p : XPost G ha B H E e hs) (k : Ext ha H H1) : XPost G ha B H1 E e hs :=
  fun dx H' k2 h x => p dx H' (k.trans k2) h x
theorem RPost.base {α β : Type} {R : Rl α β} {Q : β → Hp → Prop} {E : XK} {r : Res α} {hs1 : HS} (L : Lifts G ha B R) (p : RPost G ha B H R Q E r) (k : Ext ha H H1) (hh : Hnd G ha B H1 hs1) : RPost G ha B H1 R Q E r := by
  cases r with
  | ok a hs => exact fun v H' k2 h q => p v H' (k.trans k2) h (L H H1 H' _ _ a v k hh q)
  | exc e hs => exact XPost.base p k
  | stuck => exact p
/-- the first part's end, from the whole's -/
theorem RPost.first {α β γ δ : Type} {R : Rl α β} {Q : β → Hp → Prop} {R' : Rl γ δ} {Q' : δ → Hp → Prop} {E : XK} {r : Res α} {g : α → HS → Res γ} (L : Lifts G ha B R') (p : RPost G ha B H R' Q' E (r.bind g))
    (h : ∀ a hs, r = .ok a hs → ∀ v H', Ext ha H H' → Hnd G ha B H' hs → R H a v hs H' → RPost G ha B H' R' Q' E (g a hs) → Q v H') : RPost G ha B H R Q E r := by
  cases r with
  | ok a hs => exact fun v H' k hh q => h a hs rfl v H' k hh q (RPost.base L p k hh)
  | exc e hs => exact p
  | stuck => exact p
end PD

set_option Elab.async false
set_option linter.all false
set_option maxRecDepth 100000
set_option maxHeartbeats 2000000
/-! PG: dicts with int keys: what a key holds, what putting makes. -/
namespace PD
open PySem PySem.Spec PyProof.Rows L2
theorem isK_kD (z : Ky) (k : Key) : isK z (kD k) = decide (k = z) := by
  cases z with
  | inl i =>
    cases k with
    | inl j =>
      show decide (j = i) = _
      exact decide_eq_decide.mpr ⟨fun h => by rw [h], fun h => by cases h; rfl⟩
    | inr x =>
      show false = _
      exact (decide_eq_false fun h => by cases h).symm
  | inr x =>
    cases k with
    | inl j =>
      show false = _
      exact (decide_eq_false fun h => by cases h).symm
    | inr y =>
      show decide (y = x) = _
      exact decide_eq_decide.mpr ⟨fun h => by rw [h], fun h => by cases h; rfl⟩
theorem keyD_kD {d : D} {z : Ky} (h : keyD d = some z) : d = kD z := by
  unfold keyD at h
  split at h
  · cases h; rfl
  · cases h; rfl
  · cases h
theorem ofKy_kD (z : Ky) : ofKy z = kD z := by cases z <;> rfl
section
variable {G : Cfg} {ha : Addr} {B : Addr → Prop} {H : Hp}
theorem dget_ok {z : Ky} {d : D} : ∀ {kvs : List (Key × V)} {xs : List D}, Reps G ha B H xs (kvs.map (·.2)) → dget (kvs.map fun p => kD p.1) xs z = some d → ∃ v, valV kvs z = some v ∧ Rep G ha B H d v
  | [], xs, r, h => by cases h
  | p :: kvs, [], r, h => by cases h
  | p :: kvs, x :: xs, r, h => by
    simp only [List.map_cons, Reps] at r
    obtain ⟨v, vs, e, r1, r2⟩ := r
    cases e
    simp only [List.map_cons, dget, isK_kD] at h
    by_cases c : p.1 = z
    · rw [if_pos (decide_eq_true c)] at h
      cases h
      exact ⟨p.2, valV_pos c, r1⟩
    · rw [if_neg (by simpa using c)] at h
      obtain ⟨v, e1, e2⟩ := dget_ok r2 h
      exact ⟨v, by rw [valV_neg c]; exact e1, e2⟩
theorem dset_ok {z : Ky} {d : D} {v : V} (rd : Rep G ha B H d v) : ∀ {kvs : List (Key × V)} {xs : List D}, Reps G ha B H xs (kvs.map (·.2)) → Reps G ha B H (dset (kvs.map fun p => kD p.1) xs z d) ((kvs.map fun kv => if kv.1 = z then (kv.1, v) else kv).map (·.2))
  | [], xs, r => by
    cases xs with
    | nil => simp only [List.map_nil, dset, Reps]
    | cons x xs =>
      simp only [List.map_nil, Reps] at r
      obtain ⟨_, _, e, _⟩ := r
      cases e
  | p :: kvs, [], r => by
    simp only [List.map_cons, Reps] at r
    cases r
  | p :: kvs, x :: xs, r => by
    simp only [List.map_cons, Reps] at r
    obtain ⟨v1, vs, e, r1, r2⟩ := r
    cases e
    have ih := dset_ok (z := z) rd r2
    simp only [List.map_cons, dset, isK_kD, Reps]
    by_cases c : p.1 = z
    · simp only [c, decide_true, if_true] at ih ⊢
      exact ⟨v, _, rfl, rd, ih⟩
    · simp only [c, decide_false, if_false, Bool.false_eq_true] at ih ⊢
      exact ⟨p.2, _, rfl, r1, ih⟩
theorem dput_ok {z : Ky} {d : D} {v : V} (rd : Rep G ha B H d v) {kvs : List (Key × V)} {xs : List D} (r : Reps G ha B H xs (kvs.map (·.2))) : (dput (kvs.map fun p => kD p.1) xs z d).1 = (putK kvs z v).map (fun p => kD p.1) ∧ Reps G ha B H (dput (kvs.map fun p => kD p.1) xs z d).2 ((putK kvs z v).map (·.2)) := by
  have ea : ((kvs.map fun p => kD p.1).any (isK z)) = (kvs.any fun kv => decide (kv.1 = z)) := by
    rw [List.any_map]
    congr 1
    funext p
    exact isK_kD z p.1
  unfold dput putK
  rw [ea]
  cases c : (kvs.any fun kv => decide (kv.1 = z)) with
  | true =>
    rw [if_pos rfl, if_pos rfl]
    refine ⟨?_, dset_ok rd r⟩
    rw [List.map_map]
    refine List.map_congr_left fun p _ => ?_
    show kD p.1 = kD (if p.1 = z then (p.1, v) else p).1
    split <;> rfl
  | false =>
    rw [if_neg Bool.false_ne_true, if_neg Bool.false_ne_true, List.map_append, List.map_append]
    exact ⟨by rw [ofKy_kD]; rfl, Reps.append r (Reps.cons rd .nil)⟩
theorem keysOf_any {z : Ky} (kvs : List (Key × V)) : ((kvs.map fun p => kD p.1).any (isK z)) = (valV kvs z).isSome := by
  induction kvs with
  | nil => rfl
  | cons p r ih =>
    rw [List.map_cons, List.any_cons, isK_kD]
    by_cases c : p.1 = z
    · rw [decide_eq_true c, valV_pos c]
      rfl
    · rw [decide_eq_false c, valV_neg c, Bool.false_or, ih]
theorem dget_none_ {z : Ky} : ∀ {kvs : List (Key × V)} {xs : List D}, Reps G ha B H xs (kvs.map (·.2)) → dget (kvs.map fun p => kD p.1) xs z = none → valV kvs z = none
  | [], xs, r, h => rfl
  | p :: kvs, [], r, h => by
    simp only [List.map_cons, Reps] at r
    cases r
  | p :: kvs, x :: xs, r, h => by
    simp only [List.map_cons, Reps] at r
    obtain ⟨v, vs, e, r1, r2⟩ := r
    cases e
    simp only [List.map_cons, dget, isK_kD] at h
    by_cases c : p.1 = z
    · rw [if_pos (decide_eq_true c)] at h
      cases h
    · rw [if_neg (by simpa using c)] at h
      rw [valV_neg c]
      exact dget_none_ r2 h
/-- entries put one after another -/
theorem mergeD_ok : ∀ {more : List (Key × V)} {ys : List D} {kvs : List (Key × V)} {xs : List D} {r : List D × List D}, Reps G ha B H ys (more.map (·.2)) → Reps G ha B H xs (kvs.map (·.2)) → mergeD (more.map fun p => kD p.1) ys (kvs.map (fun p => kD p.1), xs) = some r →
    r.1 = (mergeK kvs more).map (fun p => kD p.1) ∧ Reps G ha B H r.2 ((mergeK kvs more).map (·.2))
  | [], [], kvs, xs, r, h1, h2, h => by
    simp only [List.map_nil, mergeD] at h
    cases h
    exact ⟨rfl, h2⟩
  | [], y :: ys, kvs, xs, r, h1, h2, h => by
    simp only [List.map_nil, mergeD] at h
    cases h
  | p :: more, [], kvs, xs, r, h1, h2, h => by
    simp only [List.map_cons, mergeD] at h
    cases h
  | p :: more, y :: ys, kvs, xs, r, h1, h2, h => by
    simp only [List.map_cons, Reps] at h1
    obtain ⟨v, vs, e, r1, r2⟩ := h1
    cases e
    have ek : keyD (kD p.1) = some p.1 := by cases p.1 <;> rfl
    simp only [List.map_cons, mergeD, ek, Option.bind_some] at h
    obtain ⟨g1, g2⟩ := dput_ok (z := p.1) r1 h2
    have z := mergeD_ok (kvs := putK kvs p.1 p.2) (xs := (dput (kvs.map fun p => kD p.1) xs p.1 y).2) r2 g2 (by rw [← g1]; exact h)
    exact z
end
end PD

set_option Elab.async false
set_option linter.all false
set_option maxRecDepth 100000
set_option maxHeartbeats 2000000
/-! P3: what is known around an expression; each construct's sentence. -/
namespace PD
open PySem PySem.Spec PyProof.Rows L2

/-- a def's promise: it gives what φ says -/
def spD (G : Cfg) (φ : List D → HS → Res D) (n : Nat) : Sp := fun vs H Q E => vs.length = n ∧ ∃ ha B ds hs, Reps G ha B H ds vs ∧ Hnd G ha B H hs ∧ EPost G .st ha B H Q E (φ ds hs)
/-- what isinstance asks of a caught exception's class -/
structure XIs (K : PySem.W.Frag) (C : Addr) : Prop where
  cl : (PySem.W.clsIn K C).isSome = true
  ga : PySem.W.findIn K (.ref C) "__getattribute__" = some (some (.builtin "BaseException.__getattribute__"))
  gg : PySem.W.findIn K (.ref C) "__getattr__" = some none
  sb : PySem.W.subIn K (.ref C) (.type "BaseException") = some true
  cc : PySem.W.findIn K (.ref C) "__class__" = some (some (.builtin "object.__class__"))
  gs : PySem.W.specialIn K (.builtin "object.__class__") "__get__" = some (some (.builtin "getset_descriptor.__get__"))
  tk : PySem.W.takesIn K (.builtin "object.__class__") = some true
  mo : PySem.W.mroIn K C (.type "object") = some true
  hd : PySem.W.hasDictIn K C = true
  nm : PySem.W.findIn K (.ref C) ("most" : Str) = some none
/-- the promise of an own __init__(self, most) -/
def spMost (K : PySem.W.Frag) : Sp := fun vs H Q _ => ∃ (a C : Addr) (m : Int), vs = [.ref a, .int m] ∧ OexC K C ∧ PySem.W.findIn K (.ref C) ("most" : Str) = some none ∧ H a = some (exo a C none) ∧
  ∀ dx, H dx = none → dx ≠ a → Q .non (upd (upd H dx (exd dx [(("most" : Str), .int m)])) a (exo a C (some dx)))
/-- an own class k of the name x may be made, and raised -/
def RsOk (G : Cfg) (k : Nat) (x : Str) : Prop := ∃ C, G.cv k = .ref C ∧ G.mg x = some (.ref C) ∧ PySem.W.keepIn G.K (.ref C) = true ∧ PySem.W.subIn G.K (.ref C) (.type "BaseException") = some true ∧ PySem.W.typeIn G.K (.ref C) = some (.type "type") ∧
  (PySem.W.excIn G.K C PySem.HandSPX.veTail "ValueError.__new__" = true ∨
    (OexC G.K C ∧ PySem.W.findIn G.K (.ref C) ("most" : Str) = some none ∧ ∃ fI fd, PySem.W.findIn G.K (.ref C) "__init__" = some (some (.ref fI)) ∧ PySem.W.typeIn G.K (.ref fI) = some (.type "function") ∧ Binds G.K fd [("self" : Str), ("most" : Str)] [] ∧
      FnOk G.P G.w G.K G.mg G.base (L2.CX G.P G.w) 1 fI fd [("self" : Str), ("most" : Str)] (spMost G.K)))
/-- what is known of the names, once for a law -/
structure Stat (G : Cfg) : Prop where
  fn : ∀ (f : Nat) (x : Str), G.nm[f]? = some x → G.mg x = some (.ref (G.fa f)) ∧ PySem.W.keepIn G.K (.ref (G.fa f)) = true ∧ Binds G.K (G.fd f) (G.ps f) []
  cst : ∀ (x : Str) (d : D), G.cs.lookup x = some d → ∃ u v, G.mg x = some u ∧ RelV v u ∧ atom d = true ∧ ∀ ha B H, Rep G ha B H d v
  fr : ∀ x : Str, G.fr.contains x = true → G.mg x = none
  /-- a class's name, its value -/
  xnm : ∀ (k : Nat) (x : Str), G.xn[k]? = some x → (k = 0 ∧ x = ("ValueError" : Str) ∧ G.mg x = none ∧ G.cv k = .type "ValueError") ∨ ∃ C, G.mg x = some (.ref C) ∧ G.cv k = .ref C
  /-- an own class that is raised: without anything, or with its own number -/
  xrs : ∀ (k : Nat) (x : Str), G.xn[k]? = some x → 2 ≤ k → RsOk G k x
  xis : ∀ (k : Nat), 2 ≤ k → k < G.xn.length → ∃ C, G.cv k = .ref C ∧ XIs G.K C ∧ ∀ j, j < G.xn.length → PySem.W.kitOne G.K (G.cv k) (G.cv j) = some (subc k j) ∧ PySem.W.exmOne G.K (G.cv k) (G.cv j) = some (subc k j)
/-- where an expression stands -/
structure Ctx where
  G : Cfg
  Φ : Nat → List D → HS → Res D
  Ψ : Nat → (HS → Res D) → HS → Res D
  N : List Str
  sc : Scope
  /-- what may be stored here -/
  sto : Str → Bool
  calm : Bool
  E : XK
  /-- what a call may take, and what is left besides -/
  k : Nat
  r : Nat
  thk : HS → Res D
  /-- is a lambda made here; is an exception held -/
  lm : Bool
  xh : Bool
/-- the maker of a lambda: its code object's table is among T -/
def LamAt (T : List (Addr × Str)) (X : Cx) : Prop := ∃ c P, X.env.code = .ref c ∧ LamX.TabB X.base X.mg c P ∧ (P, X.env.qual ++ "<lambda>") ∈ T ∧ ∀ p ∈ T, p.1 = P → p.2 = X.env.qual ++ "<lambda>"
/-- isinstance(e, C), e the exception that the suite holds -/
def rIsX (G : Cfg) (q : Exc) : List V → Hp → VK → Prop := fun xs H Q => ∃ (v : V) (j : Nat), xs = [.ref G.xa, v] ∧ (∀ u, RelV v u → u = G.cv j) ∧ j < G.xn.length ∧ ExcAt q G.xd H ∧ Q (.bl (subc q.c j)) H
/-- what a suite's context knows of the exception that it holds -/
structure XHeld (G : Cfg) (q : Exc) (X : Cx) : Prop where
  is_ : CallR X (.builtin "isinstance") (rIsX G q)
  most : ∀ (e : Expr) (te : TE) (pos : Pos), PE X e te → attributeBase e ("most" : Str) X.env (eval e X.env) = eval e X.env → PE X (.Attribute e ("most" : Str) pos) (fun σ H Q => te σ H fun x H1 => x = .ref G.xa ∧ ExcAt q G.xd H1 ∧ ∃ m : Int, q.m = some m ∧ Q (.int m) H1)
structure XOk (c : Ctx) (X : Cx) : Prop where
  eN : X.N = c.N
  eS : X.env.scope = c.sc
  eC : c.calm = true → X.calm = true
  eK : X.K = c.G.K
  eM : X.mg = c.G.mg
  eP : X.prog = c.G.P
  eW : X.w = c.G.w
  eB : X.base = c.G.base
  fns : ∀ f, FnOk X.prog X.w X.K X.mg X.base (L2.CX X.prog X.w) c.k (c.G.fa f) (c.G.fd f) (c.G.ps f) (spD c.G (c.Φ f) (c.G.ps f).length)
  tk : Takes X (fun cls d _ H => c.E cls d H)
  hr : c.calm = true → Room (c.k + c.r) X.A
  hu : X.A.units + 80 < cLine
  nd : c.N.Nodup
  fnl : ∀ x, c.sto x = true → X.fn x = true ∨ c.sc.names.lookup x = some .local
  own : PassesOwn (model X.prog X.w) X.A X.env X.xe
  lam : c.lm = true → LamAt c.G.T X
  xis : c.xh = true → XHeld c.G c.G.xq X

/-- an expression's sentence -/
def ES (m : Md) (c : Ctx) (e : Expr) (f : PEnv → HS → Res D) : Prop :=
  ∃ t : TE, (∀ X, XOk c X → PE X e t) ∧ ∀ ha B ρ hs σ H Q, ESim c.G ha B ρ hs σ H → EPost c.G m ha B H Q c.E (f ρ hs) → t σ H Q
def AS (wk : Bool) (c : Ctx) (es : List Expr) (f : PEnv → HS → Res (List D)) : Prop :=
  ∃ t : TA, (∀ X, XOk c X → PA X es t) ∧ ∀ ha B ρ hs σ H Q, ESim c.G ha B ρ hs σ H → APost c.G wk ha B H Q c.E (f ρ hs) → t σ H Q
def mdOf (wk : Bool) : Md := if wk = true then .wk else .st
def CS (c : Ctx) (e : Expr) (f : PEnv → HS → Res Bool) : Prop :=
  ∃ t : TT, (∀ X, XOk c X → PT X e t) ∧ ∀ ha B ρ hs σ H Q, ESim c.G ha B ρ hs σ H → TPost c.G ha B H Q c.E (f ρ hs) → t σ H Q

section
variable {c : Ctx} {e a b : Expr} {f g : PEnv → HS → Res D} {m : Md}
theorem RPost.rel {α β : Type} {G : Cfg} {ha : Addr} {B : Addr → Prop} {H : Hp} {R R' : Rl α β} {Q : β → Hp → Prop} {E : XK} {r : Res α} (p : RPost G ha B H R Q E r) (h : ∀ a v H' hs, Ext ha H H' → Hnd G ha B H' hs → R' H a v hs H' → R H a v hs H') : RPost G ha B H R' Q E r := by
  cases r with
  | ok a hs => exact fun v H' k hh q => p v H' k hh (h a v H' hs k hh q)
  | exc e hs => exact p
  | stuck => exact p
theorem ES.fr_st (h : ES .fr c e f) : ES .st c e f := by
  obtain ⟨t, p, q⟩ := h
  exact ⟨t, p, fun ha B ρ hs σ H Q S x => q ha B ρ hs σ H Q S (x.rel fun a v H' hs' k hh r => Fresh.rep r)⟩
theorem ES.st_wk (h : ES .st c e f) : ES .wk c e f := by
  obtain ⟨t, p, q⟩ := h
  exact ⟨t, p, fun ha B ρ hs σ H Q S x => q ha B ρ hs σ H Q S (x.rel fun a v H' hs' k hh r => Rep.weak hh.hB r)⟩
theorem ES.wk (h : ES m c e f) : ES .wk c e f := by
  cases m with
  | wk => exact h
  | st => exact h.st_wk
  | fr => exact h.fr_st.st_wk
theorem ES.fr_any (h : ES .fr c e f) : ES m c e f := by
  cases m with
  | wk => exact h.wk
  | st => exact h.fr_st
  | fr => exact h

theorem XOk.px {X : Cx} (x : XOk c X) : Passes (L2.CX X.prog X.w) X c.E := passes_call x.tk fun _ _ _ _ h => h
theorem XOk.room {X : Cx} (x : XOk c X) (h : c.calm = true) : Room c.k X.A := (x.hr h).mono (Nat.le_add_right _ _)
theorem XOk.gl {X : Cx} (x : XOk c X) {y : Str} (h : c.sc.names.lookup y = some .globalImplicit) : Gl X y := by
  show X.env.scope.names.lookup y = _
  rw [x.eS]
  exact h
theorem XOk.vis {X : Cx} (x : XOk c X) {y : Str} (h : Vis c.sc y) : Vis X.env.scope y := by
  rw [x.eS]
  exact h

/-- an atom's value ends it -/
theorem EPost.atom {G : Cfg} {ha : Addr} {B : Addr → Prop} {H : Hp} {Q : VK} {E : XK} {d : D} {v : V} {hs : HS} (p : EPost G m ha B H Q E (.ok d hs)) (hh : Hnd G ha B H hs) (r : Rep G ha B H d v) (t : atom d = true) : Q v H :=
  p v H .refl hh (Rep.any hh.hB r t)

/-! ### constants, names -/
theorem es_const {d : D} {v : V} {e : Expr} (hp : ∀ X, PE X e (tC v)) (ht : atom d = true) (hr : ∀ ha B H, Rep c.G ha B H d v) : ES .fr c e (fun _ h => .ok d h) :=
  ⟨tC v, fun X _ => hp X, fun ha B ρ hs σ H Q S p => EPost.atom (E := c.E) p S.hnd (hr _ _ _) ht⟩
theorem es_int {i : Int} {j : Nat} {pos : Pos} : ES .fr c (.Constant (.int i) j pos) (fun _ h => .ok (.int i) h) := es_const (fun _ => pe_int) rfl fun _ _ _ => by simp only [Rep]
theorem es_bl {i : Bool} {j : Nat} {pos : Pos} : ES .fr c (.Constant (.bool i) j pos) (fun _ h => .ok (.bl i) h) := es_const (fun _ => pe_bl) rfl fun _ _ _ => by simp only [Rep]
theorem es_str {x : Str} {j : Nat} {pos : Pos} : ES .fr c (.Constant (.str x) j pos) (fun _ h => .ok (.str x) h) := es_const (fun _ => pe_str) rfl fun _ _ _ => by simp only [Rep]
theorem es_non {j : Nat} {pos : Pos} : ES .fr c (.Constant .none j pos) (fun _ h => .ok .non h) := es_const (fun _ => pe_non) rfl fun _ _ _ => by simp only [Rep]
theorem es_glob {x : Str} {pos : Pos} {d : D} (st : Stat c.G) (hg : c.sc.names.lookup x = some .globalImplicit) (h : c.G.cs.lookup x = some d) (hd : (x == ("__debug__" : Str)) = false) : ES .fr c (.Name x pos) (fun _ h => .ok d h) := by
  obtain ⟨u, v, hm, r, ht, hr⟩ := st.cst x d h
  exact ⟨tC v, fun X hx => pe_glob (hx.gl hg) (by rw [hx.eM]; exact hm) r hd, fun ha B ρ hs σ H Q S p => EPost.atom (E := c.E) p S.hnd (hr _ _ _) ht⟩
theorem es_var {x : Str} {pos : Pos} {i : Nat} (hN : c.N[i]? = some x) (hv : Vis c.sc x) (hd : (x == ("__debug__" : Str)) = false) (hcd : (x == ("__classdict__" : Str)) = false) :
    ES .st c (.Name x pos) (den c.Φ c.Ψ c.thk (.var i)) := by
  refine ⟨tVar i, fun X hx => pe_var (by rw [hx.eN]; exact hN) (hx.vis hv) hd hcd, fun ha B ρ hs σ H Q S p => ?_⟩
  simp only [den] at p
  split at p
  · rename_i d e
    obtain ⟨v, e1, r⟩ := S.at_ i _ e
    exact ⟨v, e1, p v H .refl S.hnd r⟩
  · exact p.elim
theorem es_ovar {x : Str} {pos : Pos} {i : Nat} (hN : c.N[i]? = some x) (hv : Vis c.sc x) (hd : (x == ("__debug__" : Str)) = false) (hcd : (x == ("__classdict__" : Str)) = false) :
    ES .wk c (.Name x pos) (den c.Φ c.Ψ c.thk (.ovar i)) := by
  refine ⟨tVar i, fun X hx => pe_var (by rw [hx.eN]; exact hN) (hx.vis hv) hd hcd, fun ha B ρ hs σ H Q S p => ?_⟩
  simp only [den] at p
  split at p
  · rename_i d e
    obtain ⟨v, e1, r⟩ := S.at_ i _ e
    exact ⟨v, e1, p v H .refl S.hnd (Rep.weak S.hnd.hB r)⟩
  · rename_i d e
    obtain ⟨v, e1, r⟩ := S.at_ i _ e
    exact ⟨v, e1, p v H .refl S.hnd r⟩
  · exact p.elim

/-! ### argument lists, displays -/
theorem as_nil {wk : Bool} : AS wk c [] (fun _ h => .ok [] h) :=
  ⟨tNil, fun X _ => pa_nil, fun ha B ρ hs σ H Q S p => p [] H .refl S.hnd (by
    cases wk
    · show Reps c.G ha B H [] []
      exact .nil
    · show WReps c.G ha B H [] []
      exact (rfl : ([] : List V) = []))⟩
def plainE : Expr → Bool
  | .Starred _ _ => false
  | _ => true
theorem star_of {e : Expr} {es : List Expr} {env : PySem.Env} (h : plainE e = true) : starEach (e :: es) env = (false, eval e env) :: starEach es env := by
  cases e <;> first | rfl | cases h
theorem nostar {pos : Pos} {env : PySem.Env} : ∀ {es : List Expr}, es.all plainE = true → (backTo pos (starEach es env)).any (·.1) = false
  | [], _ => rfl
  | e :: es, h => by
    rw [List.all_cons, Bool.and_eq_true] at h
    rw [star_of h.1]
    have ih := nostar (pos := pos) (env := env) h.2
    unfold backTo at ih ⊢
    rw [List.map_cons, List.any_cons, ih]
    rfl
theorem as_cons {wk : Bool} {es : List Expr} {fs : PEnv → HS → Res (List D)} (h1 : ES (mdOf wk) c e f) (h2 : AS wk c es fs) (hp : plainE e = true) :
    AS wk c (e :: es) (fun ρ h => (f ρ h).bind fun x h => (fs ρ h).bind fun xs h => .ok (x :: xs) h) := by
  obtain ⟨t1, p1, q1⟩ := h1
  obtain ⟨t2, p2, q2⟩ := h2
  refine ⟨tCons t1 t2, fun X hx => pa_cons (p1 X hx) (p2 X hx) (star_of hp), fun ha B ρ hs σ H Q S p => ?_⟩
  refine q1 ha B ρ hs σ H _ S (RPost.first lifts_A p fun d hs1 _ v H1 k1 h1 r1 p2' => ?_)
  refine q2 ha B ρ hs1 σ H1 _ (S.ext k1 h1) (RPost.first lifts_A p2' fun ds hs2 _ vs H2 k2 h2 r2 p3 => ?_)
  cases wk with
  | false => exact p3 (v :: vs) H2 .refl h2 (.cons (Rep.keep (k2.imp fun b z => z ▸ h2.hB) r1) r2)
  | true => exact p3 (v :: vs) H2 .refl h2 ⟨v, vs, rfl, WRep.keep h2.hB k2 r1, r2⟩
/-- a new list -/
theorem Hnd.laid {G : Cfg} {ha : Addr} {B : Addr → Prop} {H : Hp} {hs : HS} (h : Hnd G ha B H hs) {p : Addr} {o : HO} (n : H p = none) : Hnd G ha B (upd H p o) hs := h.same (same_new n)
theorem Hnd.out {G : Cfg} {ha : Addr} {B : Addr → Prop} {H : Hp} {hs : HS} (h : Hnd G ha B H hs) {p : Addr} (n : H p = none) : ¬ B p := fun z => by
  obtain ⟨o, e, _⟩ := h.trk p z
  rw [n] at e
  cases e
theorem fresh_lst {G : Cfg} {ha : Addr} {B : Addr → Prop} {H : Hp} {hs : HS} {ds : List D} {vs : List V} {p : Addr} (h : Hnd G ha B H hs) (n : H p = none) (r : Reps G ha B H ds vs) : Fresh G ha B H (upd H p (.lst vs)) (.lst ds) (.ref p) hs := by
  refine ⟨p, vs, rfl, freshAt_none n, h.out n, upd_same, h.plus n, Reps.keep ?_ (Reps.chg (B' := fun b => B b ∨ b = p) (fun b z => z.elim .inl fun y => .inr (y ▸ freshAt_none n)) r)⟩
  exact Keep.new n
theorem rep_tup {G : Cfg} {ha : Addr} {B : Addr → Prop} {H : Hp} {ds : List D} {vs : List V} {p : Addr} (n : H p = none) (r : Reps G ha B H ds vs) : Rep G ha B (upd H p (.tup vs)) (.tup ds) (.ref p) := by
  simp only [Rep]
  exact ⟨p, vs, rfl, .inl (.inl upd_same), Reps.keep (Keep.new n) r⟩
/-- an end at a new list -/
theorem EPost.lst {G : Cfg} {ha : Addr} {B : Addr → Prop} {H : Hp} {Q : VK} {E : XK} {ds : List D} {vs : List V} {hs : HS} (p : EPost G .fr ha B H Q E (.ok (.lst ds) hs)) (hh : Hnd G ha B H hs) (r : Reps G ha B H ds vs) :
    ∀ q, H q = none → Q (.ref q) (upd H q (.lst vs)) := fun q n => p _ _ (Keep.new n) (hh.laid n) (fresh_lst hh n r)
theorem EPost.tup {G : Cfg} {ha : Addr} {B : Addr → Prop} {H : Hp} {Q : VK} {E : XK} {ds : List D} {vs : List V} {hs : HS} (p : EPost G .fr ha B H Q E (.ok (.tup ds) hs)) (hh : Hnd G ha B H hs) (r : Reps G ha B H ds vs) :
    ∀ q, H q = none → Q (.ref q) (upd H q (.tup vs)) := fun q n => p _ _ (Keep.new n) (hh.laid n) (rep_tup n r)
theorem line_eq : (sizeLine : Nat) = line := by decide
theorem es_tup {es : List Expr} {fs : PEnv → HS → Res (List D)} {j : Nat} {pos : Pos} (h : AS false c es fs) : ES .fr c (.Tuple es j pos) (fun ρ h => (fs ρ h).bind fun ds h => if ds.length ≤ line then .ok (.tup ds) h else .stuck) := by
  obtain ⟨t, p, q⟩ := h
  refine ⟨tTup t, fun X hx => pe_tup (p X hx), fun ha B ρ hs σ H Q S p => ?_⟩
  refine q ha B ρ hs σ H _ S (RPost.first lifts_E p fun ds hs1 _ vs H1 k1 h1 r1 p1 => ?_)
  replace r1 : Reps c.G ha B H1 ds vs := r1
  split at p1
  · rename_i hl
    exact ⟨by rw [line_eq, ← r1.length]; exact hl, EPost.tup (E := c.E) p1 h1 r1⟩
  · exact p1.elim
theorem es_lst {es : List Expr} {fs : PEnv → HS → Res (List D)} {pos : Pos} (h : AS false c es fs) : ES .fr c (.List es pos) (fun ρ h => (fs ρ h).bind fun ds h => if ds.length ≤ line then .ok (.lst ds) h else .stuck) := by
  obtain ⟨t, p, q⟩ := h
  refine ⟨tLst t, fun X hx => pe_lst (p X hx), fun ha B ρ hs σ H Q S p => ?_⟩
  refine q ha B ρ hs σ H _ S (RPost.first lifts_E p fun ds hs1 _ vs H1 k1 h1 r1 p1 => ?_)
  replace r1 : Reps c.G ha B H1 ds vs := r1
  split at p1
  · rename_i hl
    exact ⟨by rw [line_eq, ← r1.length]; exact hl, EPost.lst (E := c.E) p1 h1 r1⟩
  · exact p1.elim
end
end PD

set_option Elab.async false
set_option linter.all false
set_option maxRecDepth 100000
set_option maxHeartbeats 2000000
/-! P4: operators, tests. -/
namespace PD
open PySem PySem.Spec PyProof.Rows L2
section
variable {G : Cfg} {ha : Addr} {B : Addr → Prop} {H : Hp} {hs : HS} {E : XK} {Q : VK}
mutual
theorem Rep.dp : ∀ {d : D} {v : V} {p : PyData}, Rep G ha B H d v → d.py = some p → Dp G.K H v p
  | .non, v, p, h, e => by
    simp only [Rep] at h
    simp only [D.py, Option.some.injEq] at e
    subst h e
    exact .non
  | .bl b, v, p, h, e => by
    simp only [Rep] at h
    simp only [D.py, Option.some.injEq] at e
    subst h e
    exact .bl b
  | .int b, v, p, h, e => by
    simp only [Rep] at h
    simp only [D.py, Option.some.injEq] at e
    subst h e
    exact .int b
  | .str b, v, p, h, e => by
    simp only [Rep] at h
    simp only [D.py, Option.some.injEq] at e
    subst h e
    exact .str b
  | .tup ds, v, p, h, e => by
    simp only [Rep] at h
    obtain ⟨a, vs, rfl, s, r⟩ := h
    simp only [D.py, Option.map_eq_some_iff] at e
    obtain ⟨ps, e, rfl⟩ := e
    exact .tup s (Reps.dp r e)
  | .lst ds, v, p, h, e => by
    simp only [Rep] at h
    obtain ⟨a, vs, rfl, _, s, r⟩ := h
    simp only [D.py, Option.map_eq_some_iff] at e
    obtain ⟨ps, e, rfl⟩ := e
    exact .lst (.inl (.inl s)) (Reps.dp r e)
  | .dct _ _, v, p, h, e => by simp only [D.py] at e; cases e
  | .fn _, v, p, h, e => by simp only [D.py] at e; cases e
  | .hnd, v, p, h, e => by simp only [D.py] at e; cases e
theorem Reps.dp : ∀ {ds : List D} {vs : List V} {ps : List PyData}, Reps G ha B H ds vs → D.pys ds = some ps → DpAll G.K H vs ps
  | [], vs, ps, h, e => by
    simp only [Reps] at h
    simp only [D.pys, Option.some.injEq] at e
    subst h e
    exact .nil
  | d :: ds, vs, ps, h, e => by
    simp only [Reps] at h
    obtain ⟨v, r, rfl, h1, h2⟩ := h
    simp only [D.pys] at e
    split at e
    · rename_i p q e1 e2
      cases e
      exact .cons (Rep.dp h1 e1) (Reps.dp h2 e2)
    · cases e
end
theorem WRep.dp {d : D} {v : V} {p : PyData} (h : WRep G ha B H d v) (e : d.py = some p) : Dp G.K H v p := by
  cases d with
  | lst ds =>
    simp only [WRep] at h
    obtain ⟨a, vs, rfl, _, s, r⟩ := h
    simp only [D.py, Option.map_eq_some_iff] at e
    obtain ⟨ps, e, rfl⟩ := e
    exact .lst (.inl (.inl s)) (Reps.dp r e)
  | dct ks xs => simp only [D.py] at e; cases e
  | _ => exact Rep.dp h e

/-! ### two-place operators -/
def bop : BOp → Operator
  | .add => .Add | .sub => .Sub | .mul => .Mult | .fdiv => .FloorDiv | .mod => .Mod | .pow => .Pow | .band => .BitAnd | .shl => .LShift
def rBin (K : PySem.W.Frag) : BOp → R2
  | .add => fun x y H Q => rI0 (fun i j => .int (i + j)) x y H Q ∨ (rCat x y H Q ∨ rCatA K x y H Q)
  | .sub => rI0 fun i j => .int (i - j)
  | .mul => fun x y H Q => rI CMul (fun i j => .int (i * j)) x y H Q ∨ (rRep x y H Q ∨ rRepT K x y H Q)
  | .fdiv => rI CDivN fun i j => .int (i.fdiv j)
  | .mod => rI (fun _ j => j ≠ 0) fun i j => .int (i.fmod j)
  | .pow => rI CPow fun i j => .int (i ^ j.toNat)
  | .band => rI0 fun i j => .int (Builtin.bitAnd i j)
  | .shl => rI CPow fun i j => .int (i * 2 ^ j.toNat)
theorem rBin_ok (X : Cx) : ∀ o : BOp, OpR X (binaryOp (bop o)) (rBin X.K o)
  | .add => op_add.or (op_cat.or op_catA)
  | .sub => op_sub
  | .mul => op_mul.or (op_rep.or op_repT)
  | .fdiv => op_fdivN
  | .mod => op_modN
  | .pow => op_pow
  | .band => op_and
  | .shl => op_shl
theorem EPost.int {i : Int} (p : EPost G .fr ha B H Q E (.ok (.int i) hs)) (hh : Hnd G ha B H hs) : Q (.int i) H := EPost.atom p hh (by simp only [Rep]) rfl
theorem EPost.bl {i : Bool} (p : EPost G .fr ha B H Q E (.ok (.bl i) hs)) (hh : Hnd G ha B H hs) : Q (.bl i) H := EPost.atom p hh (by simp only [Rep]) rfl
theorem WRep.int_ {i : Int} {v : V} (h : WRep G ha B H (.int i) v) : v = .int i := by
  simp only [WRep, Rep] at h
  exact h
theorem WRep.bl_ {i : Bool} {v : V} (h : WRep G ha B H (.bl i) v) : v = .bl i := by
  simp only [WRep, Rep] at h
  exact h
theorem WRep.str_ {i : Str} {v : V} (h : WRep G ha B H (.str i) v) : v = .str i := by
  simp only [WRep, Rep] at h
  exact h
theorem WRep.non_ {v : V} (h : WRep G ha B H .non v) : v = .non := by
  simp only [WRep, Rep] at h
  exact h
theorem WRep.lst_ {ds : List D} {v : V} (h : WRep G ha B H (.lst ds) v) : ∃ a vs, v = .ref a ∧ H a = some (.lst vs) ∧ Reps G ha B H ds vs := by
  simp only [WRep] at h
  obtain ⟨a, vs, e, _, s, r⟩ := h
  exact ⟨a, vs, e, s, r⟩
theorem WRep.tup_ {ds : List D} {v : V} (h : WRep G ha B H (.tup ds) v) : ∃ a vs, v = .ref a ∧ SqT G.K H a vs ∧ Reps G ha B H ds vs := by
  simp only [WRep, Rep] at h
  exact h
theorem bin_sem {o : BOp} {x y d : D} {vx vy : V} (h : binD o x y = some d) (hh : Hnd G ha B H hs) (rx : WRep G ha B H x vx) (ry : WRep G ha B H y vy)
    (p : EPost G .fr ha B H Q E (.ok d hs)) : rBin G.K o vx vy H Q := by
  cases o with
  | add =>
    simp only [binD] at h
    split at h
    · cases h
      exact .inl ⟨_, _, rx.int_, ry.int_, EPost.int p hh⟩
    · split at h
      · rename_i xs ys hl
        cases h
        obtain ⟨a, us, rfl, s1, r1⟩ := rx.lst_
        obtain ⟨b, ws, rfl, s2, r2⟩ := ry.lst_
        refine .inr (.inl ⟨a, b, us, ws, rfl, rfl, s1, s2, ?_, EPost.lst p hh (r1.append r2)⟩)
        rw [line_eq, ← r1.length, ← r2.length]
        exact hl
      · cases h
    · split at h
      · rename_i xs ys hl
        cases h
        obtain ⟨a, us, rfl, s1, r1⟩ := rx.tup_
        obtain ⟨b, ws, rfl, s2, r2⟩ := ry.tup_
        refine .inr (.inr ⟨a, b, us, ws, rfl, rfl, s1, s2, ?_, fun e => ?_, fun n e => ?_, fun n1 n2 => EPost.tup p hh (r1.append r2)⟩)
        · rw [line_eq, ← r1.length, ← r2.length]
          exact hl
        · subst e
          have e0 : xs = [] := List.length_eq_zero_iff.mp r1.length
          subst e0
          refine EPost.atom p hh ?_ rfl
          simp only [Rep]
          exact ⟨b, ws, rfl, s2, r2⟩
        · subst e
          have e0 : ys = [] := List.length_eq_zero_iff.mp r2.length
          subst e0
          rw [List.append_nil] at p
          refine EPost.atom p hh ?_ rfl
          simp only [Rep]
          exact ⟨a, us, rfl, s1, r1⟩
      · cases h
    · cases h
  | sub =>
    simp only [binD] at h
    split at h
    · cases h
      exact ⟨_, _, rx.int_, ry.int_, EPost.int p hh⟩
    · cases h
  | mul =>
    simp only [binD] at h
    split at h
    · split at h
      · rename_i i j hc
        cases h
        refine .inl ⟨_, _, rx.int_, ry.int_, ?_, EPost.int p hh⟩
        simp only [cmulOk, Bool.or_eq_true, Bool.and_eq_true, decide_eq_true_eq] at hc
        exact hc
      · cases h
    · split at h
      · rename_i xs k hc
        cases h
        obtain ⟨a, us, rfl, s1, r1⟩ := rx.lst_
        simp only [Bool.and_eq_true, decide_eq_true_eq] at hc
        exact .inr (.inl ⟨a, _, us, rfl, ry.int_, s1, hc.1.1, hc.1.2, by rw [line_eq, ← r1.length]; exact hc.2, EPost.lst p hh (r1.rep _)⟩)
      · cases h
    · split at h
      · rename_i xs k hc
        cases h
        obtain ⟨a, us, rfl, s1, r1⟩ := rx.tup_
        simp only [Bool.and_eq_true, decide_eq_true_eq, Bool.not_eq_true'] at hc
        refine .inr (.inr ⟨a, _, us, rfl, ry.int_, s1, fun z => ?_, hc.2.1, hc.2.2, by rw [← r1.length]; exact hc.1.2, fun q n => EPost.tup p hh (r1.rep _) q n⟩)
        subst z
        have e0 : xs = [] := List.length_eq_zero_iff.mp r1.length
        subst e0
        exact absurd hc.1.1 (by simp)
      · cases h
    · cases h
  | fdiv =>
    simp only [binD] at h
    split at h
    · split at h
      · rename_i hc
        cases h
        simp only [Bool.and_eq_true, decide_eq_true_eq] at hc
        exact ⟨_, _, rx.int_, ry.int_, hc, EPost.int p hh⟩
      · cases h
    · cases h
  | mod =>
    simp only [binD] at h
    split at h
    · split at h
      · rename_i hc
        cases h
        exact ⟨_, _, rx.int_, ry.int_, hc, EPost.int p hh⟩
      · cases h
    · cases h
  | pow =>
    simp only [binD] at h
    split at h
    · split at h
      · rename_i hc
        cases h
        simp only [Bool.and_eq_true, decide_eq_true_eq] at hc
        exact ⟨_, _, rx.int_, ry.int_, ⟨hc.1.1, hc.1.2, hc.2⟩, EPost.int p hh⟩
      · cases h
    · cases h
  | band =>
    simp only [binD] at h
    split at h
    · cases h
      exact ⟨_, _, rx.int_, ry.int_, EPost.int p hh⟩
    · cases h
  | shl =>
    simp only [binD] at h
    split at h
    · split at h
      · rename_i hc
        cases h
        simp only [Bool.and_eq_true, decide_eq_true_eq] at hc
        exact ⟨_, _, rx.int_, ry.int_, ⟨hc.1.1, hc.1.2, hc.2⟩, EPost.int p hh⟩
      · cases h
    · cases h

theorem WRep.dK_ {ks xs : List D} {v : V} (h : WRep G ha B H (.dct ks xs) v) : ∃ a kvs, v = .ref a ∧ H a = some (.dK kvs) ∧ ks = kvs.map (fun p => kD p.1) ∧ Reps G ha B H xs (kvs.map (·.2)) := by
  simp only [WRep] at h
  obtain ⟨a, vs, e, _, s, k, r⟩ := h
  exact ⟨a, vs, e, s, k, r⟩
theorem WRep.key_ {d : D} {z : Ky} {v : V} (h : WRep G ha B H d v) (e : keyD d = some z) : v = kV z := by
  unfold keyD at e
  split at e
  · cases e
    exact h.int_
  · cases e
    exact h.str_
  · cases e
/-! ### comparisons -/
def cop : COp → CmpOp
  | .eq => .Eq | .ne => .NotEq | .lt => .Lt | .le => .LtE | .gt => .Gt | .ge => .GtE | .is => .Is | .isn => .IsNot | .inn => .In | .nin => .NotIn
/-- a key in a dict -/
def rInK : R2 := fun x y H Q => ∃ (a : Addr) (kvs : List (Key × V)) (k : Key), y = .ref a ∧ x = kV k ∧ H a = some (.dK kvs) ∧ Q (.bl (valV kvs k).isSome) H
def rNotInK : R2 := fun x y H Q => ∃ (a : Addr) (kvs : List (Key × V)) (k : Key), y = .ref a ∧ x = kV k ∧ H a = some (.dK kvs) ∧ Q (.bl (!(valV kvs k).isSome)) H
theorem op_inK {X : Cx} (hu : X.A.units + 1 < cLine) : OpR X (compareOp .In) rInK := by
  intro pins s σ H x y v u Q I rx ry ⟨a, kvs, k, ey, ex, e, q⟩
  subst ey
  subst ex
  obtain rfl : u = Value.ref a := ry
  exact d_in hu I (DGet.k (k := k) e) rx fun s' I' => ⟨.bl _, H, I', rfl, q⟩
theorem op_notInK {X : Cx} (hu : X.A.units + 1 < cLine) : OpR X (compareOp .NotIn) rNotInK := by
  intro pins s σ H x y v u Q I rx ry ⟨a, kvs, k, ey, ex, e, q⟩
  subst ey
  subst ex
  obtain rfl : u = Value.ref a := ry
  exact d_notIn hu I (DGet.k (k := k) e) rx fun s' I' => ⟨.bl _, H, I', rfl, q⟩
def rOrdD (K : PySem.W.Frag) (f : PyData → PyData → Bool) : R2 := fun x y H Q => ∃ d e, Dp K H x d ∧ Dp K H y e ∧ PySem.W.alike d e = true ∧ d ≠ .none ∧ min d.depth e.depth ≤ 40 ∧ Q (.bl (f d e)) H
theorem op_ltD {X : Cx} (hu : X.A.units + 64 < cLine) : OpR X (compareOp .Lt) (rOrdD X.K fun p q => PySem.W.dataLt p q) := by
  intro pins s σ H x y v u Q I rx ry h
  obtain ⟨d, e, hd, he, sd, se, sm, q⟩ := h
  obtain ⟨as, r1⟩ := Dp.reads I d x v hd rx
  obtain ⟨bs, r2⟩ := Dp.reads I e y u he ry
  exact PySem.W.lt_data r1 r2 sd se (by omega) ⟨.bl _, H, I, rfl, q⟩
theorem op_leD {X : Cx} (hu : X.A.units + 64 < cLine) : OpR X (compareOp .LtE) (rOrdD X.K fun p q => !PySem.W.dataLt q p) := by
  intro pins s σ H x y v u Q I rx ry h
  obtain ⟨d, e, hd, he, sd, se, sm, q⟩ := h
  obtain ⟨as, r1⟩ := Dp.reads I d x v hd rx
  obtain ⟨bs, r2⟩ := Dp.reads I e y u he ry
  exact PySem.W.le_data r1 r2 sd se (by omega) ⟨.bl _, H, I, rfl, q⟩
theorem op_gtD {X : Cx} (hu : X.A.units + 64 < cLine) : OpR X (compareOp .Gt) (rOrdD X.K fun p q => PySem.W.dataLt q p) := by
  intro pins s σ H x y v u Q I rx ry h
  obtain ⟨d, e, hd, he, sd, se, sm, q⟩ := h
  obtain ⟨as, r1⟩ := Dp.reads I d x v hd rx
  obtain ⟨bs, r2⟩ := Dp.reads I e y u he ry
  exact PySem.W.gt_data r1 r2 sd se (by omega) ⟨.bl _, H, I, rfl, q⟩
theorem op_geD {X : Cx} (hu : X.A.units + 64 < cLine) : OpR X (compareOp .GtE) (rOrdD X.K fun p q => !PySem.W.dataLt p q) := by
  intro pins s σ H x y v u Q I rx ry h
  obtain ⟨d, e, hd, he, sd, se, sm, q⟩ := h
  obtain ⟨as, r1⟩ := Dp.reads I d x v hd rx
  obtain ⟨bs, r2⟩ := Dp.reads I e y u he ry
  exact PySem.W.ge_data r1 r2 sd se (by omega) ⟨.bl _, H, I, rfl, q⟩
theorem ordD_some {f : PyData → PyData → Bool} {x y : D} {k : Bool} (h : ordD f x y = some k) : ∃ p q, x.py = some p ∧ y.py = some q ∧ PySem.W.alike p q = true ∧ p ≠ .none ∧ min p.depth q.depth ≤ 40 ∧ f p q = k := by
  unfold ordD at h
  split at h
  · rename_i p q e1 e2
    split at h
    · rename_i hs
      simp only [Bool.and_eq_true, Bool.not_eq_true', decide_eq_true_eq] at hs
      cases h
      refine ⟨p, q, e1, e2, hs.1.1, fun z => ?_, hs.2, rfl⟩
      rw [z] at hs
      exact absurd hs.1.2 (by decide)
    · cases h
  · cases h
def rCmp (K : PySem.W.Frag) : COp → R2
  | .eq => rEqD K
  | .ne => rNeD K
  | .lt => fun x y H Q => rI0 (fun i j => .bl (decide (i < j))) x y H Q ∨ rOrdD K (fun p q => PySem.W.dataLt p q) x y H Q
  | .le => fun x y H Q => rI0 (fun i j => .bl (decide (i ≤ j))) x y H Q ∨ rOrdD K (fun p q => !PySem.W.dataLt q p) x y H Q
  | .gt => fun x y H Q => rI0 (fun i j => .bl (decide (j < i))) x y H Q ∨ rOrdD K (fun p q => PySem.W.dataLt q p) x y H Q
  | .ge => fun x y H Q => rI0 (fun i j => .bl (decide (j ≤ i))) x y H Q ∨ rOrdD K (fun p q => !PySem.W.dataLt p q) x y H Q
  | .is => fun x y H Q => (y = .non ∧ Q (.bl (decide (x = .non))) H) ∨ rIsB x y H Q
  | .isn => fun x y H Q => (y = .non ∧ Q (.bl (!decide (x = .non))) H) ∨ rNotB x y H Q
  | .inn => fun x y H Q => (rInD K x y H Q ∨ rIn K false x y H Q) ∨ rInK x y H Q
  | .nin => fun x y H Q => (rNotInD K x y H Q ∨ rIn K true x y H Q) ∨ rNotInK x y H Q
theorem rCmp_ok {X : Cx} (hu : X.A.units + 80 < cLine) : ∀ o : COp, OpR X (compareOp (cop o)) (rCmp X.K o)
  | .eq => op_eqD (by omega)
  | .ne => op_neD (by omega)
  | .lt => op_lt.or (op_ltD (by omega))
  | .le => op_le.or (op_leD (by omega))
  | .gt => op_gt.or (op_gtD (by omega))
  | .ge => op_ge.or (op_geD (by omega))
  | .is => op_isN.or op_isBl
  | .isn => op_notN.or op_notBl
  | .inn => ((op_inD (by omega)).or op_in_seq).or (op_inK (by omega))
  | .nin => ((op_notInD (by omega)).or op_notIn_seq).or (op_notInK (by omega))
theorem eqD_some {x y : D} {k : Bool} (h : eqD x y = some k) : ∃ p q, x.py = some p ∧ y.py = some q ∧ SeqAt.shaped p = true ∧ SeqAt.shaped q = true ∧ PyData.eqv p q = k := by
  unfold eqD at h
  split at h
  · rename_i p q e1 e2
    split at h
    · rename_i hs
      rw [Bool.and_eq_true] at hs
      cases h
      exact ⟨p, q, e1, e2, hs.1, hs.2, rfl⟩
    · cases h
  · cases h
theorem memD_some {x : D} {xs : List D} {k : Bool} (h : memD x xs = some k) : ∃ p qs, x.py = some p ∧ D.pys xs = some qs ∧ SeqAt.shaped p = true ∧ SeqAt.shaped (.list qs) = true ∧ (qs.any fun z => PyData.eqv z p) = k := by
  unfold memD at h
  split at h
  · rename_i p qs e1 e2
    split at h
    · rename_i hs
      rw [Bool.and_eq_true] at hs
      cases h
      exact ⟨p, qs, e1, e2, hs.1, hs.2, rfl⟩
    · cases h
  · cases h
theorem flat_rep {d : D} {v : V} (f : flatD d = true) (r : Rep G ha B H d v) : flatV v = true ∧ ∀ p, d.py = some p → (∀ e w, flatD e = true → Rep G ha B H e w → ∀ q, e.py = some q → eqV w v = PyData.eqv q p) := by
  cases d with
  | non =>
    simp only [Rep] at r
    subst r
    refine ⟨rfl, fun p e e2 w f2 r2 q e3 => ?_⟩
    simp only [D.py, Option.some.injEq] at e
    subst e
    cases e2 with
    | non => simp only [Rep] at r2; simp only [D.py, Option.some.injEq] at e3; subst r2 e3; rfl
    | bl _ => simp only [Rep] at r2; simp only [D.py, Option.some.injEq] at e3; subst r2 e3; rfl
    | int _ => simp only [Rep] at r2; simp only [D.py, Option.some.injEq] at e3; subst r2 e3; rfl
    | str _ => simp only [Rep] at r2; simp only [D.py, Option.some.injEq] at e3; subst r2 e3; rfl
    | _ => cases f2
  | bl _ =>
    simp only [Rep] at r
    subst r
    refine ⟨rfl, fun p e e2 w f2 r2 q e3 => ?_⟩
    simp only [D.py, Option.some.injEq] at e
    subst e
    cases e2 with
    | non => simp only [Rep] at r2; simp only [D.py, Option.some.injEq] at e3; subst r2 e3; rfl
    | bl _ => simp only [Rep] at r2; simp only [D.py, Option.some.injEq] at e3; subst r2 e3; simp only [eqV, PyData.eqv]
    | int _ => simp only [Rep] at r2; simp only [D.py, Option.some.injEq] at e3; subst r2 e3; simp only [eqV, PyData.eqv]
    | str _ => simp only [Rep] at r2; simp only [D.py, Option.some.injEq] at e3; subst r2 e3; rfl
    | _ => cases f2
  | int _ =>
    simp only [Rep] at r
    subst r
    refine ⟨rfl, fun p e e2 w f2 r2 q e3 => ?_⟩
    simp only [D.py, Option.some.injEq] at e
    subst e
    cases e2 with
    | non => simp only [Rep] at r2; simp only [D.py, Option.some.injEq] at e3; subst r2 e3; rfl
    | bl _ => simp only [Rep] at r2; simp only [D.py, Option.some.injEq] at e3; subst r2 e3; simp only [eqV, PyData.eqv]
    | int _ => simp only [Rep] at r2; simp only [D.py, Option.some.injEq] at e3; subst r2 e3; simp only [eqV, PyData.eqv]
    | str _ => simp only [Rep] at r2; simp only [D.py, Option.some.injEq] at e3; subst r2 e3; rfl
    | _ => cases f2
  | str _ =>
    simp only [Rep] at r
    subst r
    refine ⟨rfl, fun p e e2 w f2 r2 q e3 => ?_⟩
    simp only [D.py, Option.some.injEq] at e
    subst e
    cases e2 with
    | non => simp only [Rep] at r2; simp only [D.py, Option.some.injEq] at e3; subst r2 e3; rfl
    | bl _ => simp only [Rep] at r2; simp only [D.py, Option.some.injEq] at e3; subst r2 e3; rfl
    | int _ => simp only [Rep] at r2; simp only [D.py, Option.some.injEq] at e3; subst r2 e3; rfl
    | str _ => simp only [Rep] at r2; simp only [D.py, Option.some.injEq] at e3; subst r2 e3; simp only [eqV, PyData.eqv]
    | _ => cases f2
  | _ => cases f
theorem flat_reps {x : D} {v : V} {p : PyData} (f : flatD x = true) (rx : Rep G ha B H x v) (ex : x.py = some p) : ∀ {xs : List D} {vs : List V} {qs : List PyData}, xs.all flatD = true → Reps G ha B H xs vs → D.pys xs = some qs →
    vs.all flatV = true ∧ inV v vs = qs.any fun z => PyData.eqv z p
  | [], _, _, _, r, e => by
    simp only [Reps] at r
    simp only [D.pys, Option.some.injEq] at e
    subst r e
    exact ⟨rfl, rfl⟩
  | d :: ds, _, _, fl, r, e => by
    simp only [Reps] at r
    obtain ⟨w, ws, rfl, r1, r2⟩ := r
    rw [List.all_cons, Bool.and_eq_true] at fl
    simp only [D.pys] at e
    split at e
    · rename_i q qs e1 e2
      cases e
      obtain ⟨i1, i2⟩ := flat_reps f rx ex fl.2 r2 e2
      have i2' : (ws.any fun y => eqV y v) = qs.any fun z => PyData.eqv z p := i2
      refine ⟨by rw [List.all_cons, i1, (flat_rep fl.1 r1).1]; rfl, ?_⟩
      show ((w :: ws).any fun y => eqV y v) = _
      rw [List.any_cons, List.any_cons, i2', (flat_rep f rx).2 p ex d w fl.1 r1 q e1]
    · cases e
theorem flat_w {d : D} {v : V} (f : flatD d = true) (h : WRep G ha B H d v) : Rep G ha B H d v := by
  cases d <;> first | exact h | cases f
theorem cmp_sem {o : COp} {x y : D} {k : Bool} {vx vy : V} (h : cmpD o x y = some k) (hh : Hnd G ha B H hs) (rx : WRep G ha B H x vx) (ry : WRep G ha B H y vy)
    (p : EPost G .fr ha B H Q E (.ok (.bl k) hs)) : rCmp G.K o vx vy H Q := by
  have q : Q (.bl k) H := EPost.bl p hh
  cases o with
  | eq =>
    obtain ⟨a, b, e1, e2, s1, s2, e⟩ := eqD_some h
    exact ⟨a, b, rx.dp e1, ry.dp e2, s1, s2, by rw [e]; exact q⟩
  | ne =>
    simp only [cmpD, Option.map_eq_some_iff] at h
    obtain ⟨j, h, e0⟩ := h
    obtain ⟨a, b, e1, e2, s1, s2, e⟩ := eqD_some h
    exact ⟨a, b, rx.dp e1, ry.dp e2, s1, s2, by rw [e, e0]; exact q⟩
  | lt =>
    simp only [cmpD] at h
    split at h
    · cases h
      exact .inl ⟨_, _, rx.int_, ry.int_, q⟩
    · obtain ⟨a, b, e1, e2, s1, s2, s3, e⟩ := ordD_some h
      exact .inr ⟨a, b, rx.dp e1, ry.dp e2, s1, s2, s3, by rw [← e] at q; exact q⟩
  | le =>
    simp only [cmpD] at h
    split at h
    · cases h
      exact .inl ⟨_, _, rx.int_, ry.int_, q⟩
    · obtain ⟨a, b, e1, e2, s1, s2, s3, e⟩ := ordD_some h
      exact .inr ⟨a, b, rx.dp e1, ry.dp e2, s1, s2, s3, by rw [← e] at q; exact q⟩
  | gt =>
    simp only [cmpD] at h
    split at h
    · cases h
      exact .inl ⟨_, _, rx.int_, ry.int_, q⟩
    · obtain ⟨a, b, e1, e2, s1, s2, s3, e⟩ := ordD_some h
      exact .inr ⟨a, b, rx.dp e1, ry.dp e2, s1, s2, s3, by rw [← e] at q; exact q⟩
  | ge =>
    simp only [cmpD] at h
    split at h
    · cases h
      exact .inl ⟨_, _, rx.int_, ry.int_, q⟩
    · obtain ⟨a, b, e1, e2, s1, s2, s3, e⟩ := ordD_some h
      exact .inr ⟨a, b, rx.dp e1, ry.dp e2, s1, s2, s3, by rw [← e] at q; exact q⟩
  | is =>
    simp only [cmpD] at h
    split at h
    · cases h
      rw [rx.non_]
      exact .inl ⟨ry.non_, q⟩
    · cases h
      exact .inr ⟨_, _, rx.bl_, ry.bl_, q⟩
    · cases h
      rw [rx.bl_]
      exact .inl ⟨ry.non_, q⟩
    · cases h
      rw [rx.int_]
      exact .inl ⟨ry.non_, q⟩
    · cases h
      rw [rx.str_]
      exact .inl ⟨ry.non_, q⟩
    · cases h
      obtain ⟨a, vs, rfl, _⟩ := rx.tup_
      exact .inl ⟨ry.non_, q⟩
    · cases h
      obtain ⟨a, vs, rfl, _⟩ := rx.lst_
      exact .inl ⟨ry.non_, q⟩
    · cases h
  | isn =>
    simp only [cmpD] at h
    split at h
    · cases h
      rw [rx.non_]
      exact .inl ⟨ry.non_, q⟩
    · cases h
      exact .inr ⟨_, _, rx.bl_, ry.bl_, q⟩
    · cases h
      rw [rx.bl_]
      exact .inl ⟨ry.non_, q⟩
    · cases h
      rw [rx.int_]
      exact .inl ⟨ry.non_, q⟩
    · cases h
      rw [rx.str_]
      exact .inl ⟨ry.non_, q⟩
    · cases h
      obtain ⟨a, vs, rfl, _⟩ := rx.tup_
      exact .inl ⟨ry.non_, q⟩
    · cases h
      obtain ⟨a, vs, rfl, _⟩ := rx.lst_
      exact .inl ⟨ry.non_, q⟩
    · cases h
  | inn =>
    simp only [cmpD] at h
    split at h
    · obtain ⟨a, qs, e1, e2, s1, s2, e⟩ := memD_some h
      exact .inl (.inl ⟨a, qs, rx.dp e1, ry.dp (by simp only [D.py, e2, Option.map_some]), s1, s2, by rw [e]; exact q⟩)
    · split at h
      · rename_i fl
        rw [Bool.and_eq_true] at fl
        obtain ⟨a, qs, e1, e2, s1, s2, e⟩ := memD_some h
        obtain ⟨l, vs, rfl, s, r⟩ := ry.tup_
        obtain ⟨i1, i2⟩ := flat_reps fl.1 (flat_w fl.1 rx) e1 fl.2 r e2
        refine .inl (.inr ⟨l, vs, rfl, .inr s, (flat_rep fl.1 (flat_w fl.1 rx)).1, i1, ?_⟩)
        rw [i2, e]
        exact q
      · cases h
    · rw [Option.map_eq_some_iff] at h
      obtain ⟨z, ez, ek⟩ := h
      obtain ⟨l, kvs, rfl, s, rfl, r⟩ := ry.dK_
      refine .inr ⟨l, kvs, z, rfl, rx.key_ ez, s, ?_⟩
      rw [← keysOf_any, ek]
      exact q
    · cases h
  | nin =>
    simp only [cmpD] at h
    split at h
    · simp only [Option.map_eq_some_iff] at h
      obtain ⟨j, h, e0⟩ := h
      obtain ⟨a, qs, e1, e2, s1, s2, e⟩ := memD_some h
      exact .inl (.inl ⟨a, qs, rx.dp e1, ry.dp (by simp only [D.py, e2, Option.map_some]), s1, s2, by rw [e, e0]; exact q⟩)
    · split at h
      · rename_i fl
        rw [Bool.and_eq_true] at fl
        simp only [Option.map_eq_some_iff] at h
        obtain ⟨j, h, e0⟩ := h
        obtain ⟨a, qs, e1, e2, s1, s2, e⟩ := memD_some h
        obtain ⟨l, vs, rfl, s, r⟩ := ry.tup_
        obtain ⟨i1, i2⟩ := flat_reps fl.1 (flat_w fl.1 rx) e1 fl.2 r e2
        refine .inl (.inr ⟨l, vs, rfl, .inr s, (flat_rep fl.1 (flat_w fl.1 rx)).1, i1, ?_⟩)
        rw [i2, e]
        show Q (.bl (!j)) H
        rw [e0]
        exact q
      · cases h
    · rw [Option.map_eq_some_iff] at h
      obtain ⟨z, ez, ek⟩ := h
      obtain ⟨l, kvs, rfl, s, rfl, r⟩ := ry.dK_
      refine .inr ⟨l, kvs, z, rfl, rx.key_ ez, s, ?_⟩
      rw [← keysOf_any, ek]
      exact q
    · cases h
/-- a value's truth -/
theorem truth_sem {x : D} {k : Bool} {v : V} (h : truthD x = some k) (rx : WRep G ha B H x v) : TruV G.K v H k := by
  cases x with
  | non =>
    cases h
    rw [rx.non_]
    exact rfl
  | bl b =>
    cases h
    rw [rx.bl_]
    exact rfl
  | int i =>
    cases h
    rw [rx.int_]
    exact rfl
  | lst xs =>
    cases h
    obtain ⟨a, vs, rfl, s, r⟩ := rx.lst_
    refine .inl ⟨vs, .inl (.inl s), ?_⟩
    have := r.length
    cases xs <;> cases vs <;> first | rfl | (simp at this)
  | tup xs =>
    cases h
    obtain ⟨a, vs, rfl, s, r⟩ := rx.tup_
    refine .inr (.inl ⟨vs, s, ?_⟩)
    have := r.length
    cases xs <;> cases vs <;> first | rfl | (simp at this)
  | _ => cases h
end
end PD

set_option Elab.async false
set_option linter.all false
set_option maxRecDepth 100000
set_option maxHeartbeats 2000000
/-! P5: expressions: operators, tests, subscripts, calls. -/
namespace PD
open PySem PySem.Spec PyProof.Rows L2
section
variable {c : Ctx} {e a b : Expr} {f g k : PEnv → HS → Res D} {m : Md}
/-- what a reading owes a meaning -/
def SemE (m : Md) (c : Ctx) (t : TE) (f : PEnv → HS → Res D) : Prop := ∀ ha B ρ hs σ H Q, ESim c.G ha B ρ hs σ H → EPost c.G m ha B H Q c.E (f ρ hs) → t σ H Q
/-- two operands, then an operation -/
theorem op2_sem {r : R2} {z : D → D → HS → Res D} {ta tb : TE} (q1 : SemE .wk c ta f) (q2 : SemE .wk c tb g)
    (hr : ∀ ha B H hs x y vx vy Q, Hnd c.G ha B H hs → WRep c.G ha B H x vx → WRep c.G ha B H y vy → EPost c.G m ha B H Q c.E (z x y hs) → r vx vy H Q) :
    SemE m c (tOp r ta tb) (fun ρ h => (f ρ h).bind fun x h => (g ρ h).bind fun y h => z x y h) := fun ha B ρ hs σ H Q S p => by
  refine q1 ha B ρ hs σ H _ S (RPost.first lifts_E p fun x hs1 _ v H1 k1 h1 r1 p' => ?_)
  refine q2 ha B ρ hs1 σ H1 _ (S.ext k1 h1) (RPost.first lifts_E p' fun y hs2 _ w H2 k2 h2 r2 p3 => ?_)
  exact hr ha B H2 hs2 x y v w Q h2 (WRep.keep h2.hB k2 r1) r2 p3
theorem es_op2 {r : R2} {z : D → D → HS → Res D} {e : Expr} (h1 : ES .wk c a f) (h2 : ES .wk c b g)
    (hp : ∀ X ta tb, XOk c X → PE X a ta → PE X b tb → PE X e (tOp r ta tb))
    (hr : ∀ ha B H hs x y vx vy Q, Hnd c.G ha B H hs → WRep c.G ha B H x vx → WRep c.G ha B H y vy → EPost c.G m ha B H Q c.E (z x y hs) → r vx vy H Q) :
    ES m c e (fun ρ h => (f ρ h).bind fun x h => (g ρ h).bind fun y h => z x y h) := by
  obtain ⟨ta, p1, q1⟩ := h1
  obtain ⟨tb, p2, q2⟩ := h2
  exact ⟨tOp r ta tb, fun X hx => hp X ta tb hx (p1 X hx) (p2 X hx), op2_sem q1 q2 hr⟩
theorem re_w {G : Cfg} {ha : Addr} {B : Addr → Prop} {H H1 : Hp} {d : D} {v : V} {hs : HS} (r : RE G .wk ha B H d v hs H1) : WRep G ha B H1 d v := r
theorem ofO_ok {α β : Type} {G : Cfg} {ha : Addr} {B : Addr → Prop} {H : Hp} {R : Rl α β} {Q : β → Hp → Prop} {E : XK} {o : Option α} {hs : HS} (p : RPost G ha B H R Q E (ofO o hs)) : ∃ d, o = some d ∧ RPost G ha B H R Q E (.ok d hs) := by
  cases o with
  | none => exact p.elim
  | some d => exact ⟨d, rfl, p⟩
theorem es_bin {o : BOp} {pos : Pos} (h1 : ES .wk c a f) (h2 : ES .wk c b g) : ES .fr c (.BinOp a (bop o) b pos) (fun ρ h => (f ρ h).bind fun x h => (g ρ h).bind fun y h => ofO (binD o x y) h) :=
  es_op2 (r := rBin c.G.K o) h1 h2 (fun X ta tb hx p1 p2 => pe_op (by rw [← hx.eK]; exact rBin_ok X o) p1 p2) fun ha B H hs x y vx vy Q hh rx ry p => by
    obtain ⟨d, e, p⟩ := ofO_ok p
    exact bin_sem e hh rx ry p
def plainIn : Expr → Bool
  | .Set _ _ _ => false
  | _ => true
theorem nomark' {o : CmpOp} {b : Expr} (h : plainIn b = true) : behindInMarks o b = false := by
  cases b <;> first | rfl | cases h
theorem es_cmp {o : COp} {pos : Pos} (h1 : ES .wk c a f) (h2 : ES .wk c b g) (hm : plainIn b = true) :
    ES .fr c (.Compare a [cop o] [b] pos) (fun ρ h => (f ρ h).bind fun x h => (g ρ h).bind fun y h => ofO ((cmpD o x y).map .bl) h) :=
  es_op2 (r := rCmp c.G.K o) h1 h2 (fun X ta tb hx p1 p2 => pe_cmpR (by rw [← hx.eK]; exact rCmp_ok hx.hu o) p1 p2 (nomark' hm)) fun ha B H hs x y vx vy Q hh rx ry p => by
    obtain ⟨d, e, p⟩ := ofO_ok p
    rw [Option.map_eq_some_iff] at e
    obtain ⟨k, e, rfl⟩ := e
    exact cmp_sem e hh rx ry p
theorem chain_sem {o o' : COp} {ta tb tc : TE} (q1 : SemE .wk c ta f) (q2 : SemE .wk c tb g) (q3 : SemE .wk c tc k) :
    SemE .fr c (tChain (rCmp c.G.K o) (rCmp c.G.K o') ta tb tc) (fun ρ h => (f ρ h).bind fun x h => (g ρ h).bind fun y h => match cmpD o x y with
      | some true => (k ρ h).bind fun z h => ofO ((cmpD o' y z).map .bl) h
      | some false => .ok (.bl false) h
      | none => .stuck) := fun ha B ρ hs σ H Q S p => by
  refine q1 ha B ρ hs σ H _ S (RPost.first lifts_E p fun x hs1 _ v H1 k1 h1 r1 p' => ?_)
  refine q2 ha B ρ hs1 σ H1 _ (S.ext k1 h1) (RPost.first lifts_E p' fun y hs2 _ w H2 k2 h2 r2 p3' => ?_)
  have rx := WRep.keep h2.hB k2 r1
  have S2 := (S.ext k1 h1).ext k2 h2
  split at p3'
  · rename_i e
    refine cmp_sem (E := c.E) e h2 rx r2 fun u H3 k3 h3 r3 => ?_
    have r3 : Rep c.G ha B H3 (.bl true) u := r3
    simp only [Rep] at r3
    subst r3
    refine ⟨true, rfl, ?_⟩
    rw [if_pos rfl]
    refine q3 ha B ρ hs2 σ H3 _ (S2.ext k3 h3) (RPost.first lifts_E (RPost.base lifts_E p3' k3 h3) fun z hs4 _ w4 H4 k4 h4 r4 p4 => ?_)
    obtain ⟨d, e, p4⟩ := ofO_ok p4
    rw [Option.map_eq_some_iff] at e
    obtain ⟨k, e, rfl⟩ := e
    exact cmp_sem e h4 (WRep.keep h4.hB (k3.trans k4) r2) r4 p4
  · rename_i e
    refine cmp_sem (E := c.E) e h2 rx r2 fun u H3 k3 h3 r3 => ?_
    have r3 : Rep c.G ha B H3 (.bl false) u := r3
    simp only [Rep] at r3
    subst r3
    refine ⟨false, rfl, ?_⟩
    rw [if_neg Bool.false_ne_true]
    exact EPost.bl (RPost.base lifts_E p3' k3 h3) h3
  · exact p3'.elim
theorem es_chain {o o' : COp} {pos : Pos} {d : Expr} (h1 : ES .wk c a f) (h2 : ES .wk c b g) (h3 : ES .wk c d k) (hm : plainIn d = true) :
    ES .fr c (.Compare a [cop o, cop o'] [b, d] pos) (fun ρ h => (f ρ h).bind fun x h => (g ρ h).bind fun y h => match cmpD o x y with
      | some true => (k ρ h).bind fun z h => ofO ((cmpD o' y z).map .bl) h
      | some false => .ok (.bl false) h
      | none => .stuck) := by
  obtain ⟨ta, p1, q1⟩ := h1
  obtain ⟨tb, p2, q2⟩ := h2
  obtain ⟨tc, p3, q3⟩ := h3
  exact ⟨tChain (rCmp c.G.K o) (rCmp c.G.K o') ta tb tc, fun X hx => pe_chain (by rw [← hx.eK]; exact rCmp_ok hx.hu o) (by rw [← hx.eK]; exact rCmp_ok hx.hu o') (p1 X hx) (p2 X hx) (p3 X hx) (nomark' hm), chain_sem q1 q2 q3⟩
theorem es_neg {pos : Pos} (h1 : ES .wk c a f) : ES .fr c (.UnaryOp .USub a pos) (fun ρ h => (f ρ h).bind fun x h => ofO (negD x) h) := by
  obtain ⟨ta, p1, q1⟩ := h1
  refine ⟨_, fun X hx => pe_un un_neg (p1 X hx), fun ha B ρ hs σ H Q S p => ?_⟩
  refine q1 ha B ρ hs σ H _ S (RPost.first lifts_E p fun x hs1 _ v H1 k1 h1 r1 p' => ?_)
  obtain ⟨d, e, p'⟩ := ofO_ok p'
  cases x with
  | int i =>
    cases e
    exact ⟨i, (re_w r1).int_, EPost.int p' h1⟩
  | _ => cases e
theorem es_not {pos : Pos} (h1 : ES .wk c a f) : ES .fr c (.UnaryOp .Not a pos) (fun ρ h => (f ρ h).bind fun x h => ofO ((truthD x).map fun k => .bl (!k)) h) := by
  obtain ⟨ta, p1, q1⟩ := h1
  refine ⟨tNotT c.G.K ta, fun X hx => by rw [← hx.eK]; exact pe_notT (p1 X hx), fun ha B ρ hs σ H Q S p => ?_⟩
  refine q1 ha B ρ hs σ H _ S (RPost.first lifts_E p fun x hs1 _ v H1 k1 h1 r1 p' => ?_)
  obtain ⟨d, e, p'⟩ := ofO_ok p'
  rw [Option.map_eq_some_iff] at e
  obtain ⟨k, e, rfl⟩ := e
  exact ⟨k, truth_sem e r1, EPost.bl p' h1⟩
theorem es_one {op : BoolOp} {pos : Pos} (h1 : ES m c a f) : ES m c (.BoolOp op [a] pos) f := by
  obtain ⟨ta, p1, q1⟩ := h1
  exact ⟨ta, fun X hx => pe_one (p1 X hx), q1⟩
theorem es_and {pos : Pos} {rest : List Expr} (h1 : ES .wk c a f) (h2 : ES m c (.BoolOp .And (b :: rest) pos) g) : ES m c (.BoolOp .And (a :: b :: rest) pos) (fun ρ h => (f ρ h).bind fun x h => match x with
    | .bl true => g ρ h
    | .bl false => .ok (.bl false) h
    | _ => .stuck) := by
  obtain ⟨ta, p1, q1⟩ := h1
  obtain ⟨tb, p2, q2⟩ := h2
  refine ⟨_, fun X hx => pe_and (p1 X hx) (p2 X hx), fun ha B ρ hs σ H Q S p => ?_⟩
  refine q1 ha B ρ hs σ H _ S (RPost.first lifts_E p fun x hs1 _ v H1 k1 h1 r1 p' => ?_)
  split at p'
  · exact ⟨true, (re_w r1).bl_, by rw [if_pos rfl]; exact q2 ha B ρ hs1 σ H1 _ (S.ext k1 h1) p'⟩
  · exact ⟨false, (re_w r1).bl_, by rw [if_neg Bool.false_ne_true]; exact EPost.atom p' h1 (by simp only [Rep]) rfl⟩
  · exact p'.elim
theorem es_or {pos : Pos} {rest : List Expr} (h1 : ES .wk c a f) (h2 : ES m c (.BoolOp .Or (b :: rest) pos) g) : ES m c (.BoolOp .Or (a :: b :: rest) pos) (fun ρ h => (f ρ h).bind fun x h => match x with
    | .bl true => .ok (.bl true) h
    | .bl false => g ρ h
    | _ => .stuck) := by
  obtain ⟨ta, p1, q1⟩ := h1
  obtain ⟨tb, p2, q2⟩ := h2
  refine ⟨_, fun X hx => pe_or (p1 X hx) (p2 X hx), fun ha B ρ hs σ H Q S p => ?_⟩
  refine q1 ha B ρ hs σ H _ S (RPost.first lifts_E p fun x hs1 _ v H1 k1 h1 r1 p' => ?_)
  split at p'
  · exact ⟨true, (re_w r1).bl_, by rw [if_pos rfl]; exact EPost.atom p' h1 (by simp only [Rep]) rfl⟩
  · exact ⟨false, (re_w r1).bl_, by rw [if_neg Bool.false_ne_true]; exact q2 ha B ρ hs1 σ H1 _ (S.ext k1 h1) p'⟩
  · exact p'.elim
theorem es_ite {pos : Pos} {d : Expr} {cc : PEnv → HS → Res Bool} (h0 : CS c d cc) (h1 : ES m c a f) (h2 : ES m c b g) : ES m c (.IfExp d a b pos) (fun ρ h => (cc ρ h).bind fun k h => if k then f ρ h else g ρ h) := by
  obtain ⟨t0, p0, q0⟩ := h0
  obtain ⟨ta, p1, q1⟩ := h1
  obtain ⟨tb, p2, q2⟩ := h2
  refine ⟨_, fun X hx => pe_ifExp (p0 X hx) (p1 X hx) (p2 X hx), fun ha B ρ hs σ H Q S p => ?_⟩
  refine q0 ha B ρ hs σ H _ S (RPost.first lifts_E p fun x hs1 _ v H1 k1 h1 r1 p' => ?_)
  have r1 : v = x := r1
  subst r1
  cases v with
  | true =>
    rw [if_pos rfl] at p' ⊢
    exact q1 ha B ρ hs1 σ H1 _ (S.ext k1 h1) p'
  | false =>
    rw [if_neg Bool.false_ne_true] at p' ⊢
    exact q2 ha B ρ hs1 σ H1 _ (S.ext k1 h1) p'

/-! ### tests -/
def plainT : Expr → Bool
  | .UnaryOp _ _ _ => false
  | .BoolOp _ _ _ => false
  | .IfExp _ _ _ _ => false
  | .Compare _ _ _ _ => false
  | _ => true
theorem istrue_of {e : Expr} {env : PySem.Env} (h : plainT e = true) : ∀ whole, isTrue e env whole = (do let v ← whole; standAt e.pos; holding [v] (truthy v)) := by
  intro whole
  cases e <;> first | rfl | cases h
/-- by the value's truth -/
theorem cs_val (h1 : ES .wk c a f) (hp : plainT a = true) : CS c a (fun ρ h => (f ρ h).bind fun x h => ofO (truthD x) h) := by
  obtain ⟨ta, p1, q1⟩ := h1
  refine ⟨fun σ H Q => ta σ H fun x H' => ∃ k, TruV c.G.K x H' k ∧ Q k H', fun X hx => by rw [← hx.eK]; exact pt_truth (p1 X hx) (istrue_of hp), fun ha B ρ hs σ H Q S p => ?_⟩
  refine q1 ha B ρ hs σ H _ S (RPost.first lifts_T p fun x hs1 _ v H1 k1 h1 r1 p' => ?_)
  obtain ⟨k, e, p'⟩ := ofO_ok p'
  exact ⟨k, truth_sem e r1, p' k H1 .refl h1 rfl⟩
theorem cs_cmp {o : COp} {pos : Pos} (h1 : ES .wk c a f) (h2 : ES .wk c b g) (hm : plainIn b = true) :
    CS c (.Compare a [cop o] [b] pos) (fun ρ h => ((f ρ h).bind fun x h => (g ρ h).bind fun y h => ofO ((cmpD o x y).map .bl) h).bind fun x h => ofO (truthD x) h) := by
  obtain ⟨ta, p1, q1⟩ := h1
  obtain ⟨tb, p2, q2⟩ := h2
  refine ⟨_, fun X hx => pt_cmpR (r := rCmp c.G.K o) (by rw [← hx.eK]; exact rCmp_ok hx.hu o) (p1 X hx) (p2 X hx) (nomark' hm), fun ha B ρ hs σ H Q S p => ?_⟩
  refine op2_sem (m := .fr) (z := fun x y h => ofO ((cmpD o x y).map .bl) h) q1 q2 (fun ha B H hs x y vx vy Q hh rx ry p => by
    obtain ⟨d, e, p⟩ := ofO_ok p
    rw [Option.map_eq_some_iff] at e
    obtain ⟨k, e, rfl⟩ := e
    exact cmp_sem e hh rx ry p) ha B ρ hs σ H _ S ?_
  have isb : ∀ (x : D) (hs1 : HS), ((f ρ hs).bind fun x h => (g ρ h).bind fun y h => ofO ((cmpD o x y).map .bl) h) = Res.ok x hs1 → ∃ k, x = D.bl k := fun x hs1 e => by
    cases e1 : f ρ hs with
    | stuck => rw [e1] at e; cases e
    | exc _ _ => rw [e1] at e; cases e
    | ok y h1 =>
      rw [e1] at e
      simp only [Res.bind] at e
      cases e2 : g ρ h1 with
      | stuck => rw [e2] at e; cases e
      | exc _ _ => rw [e2] at e; cases e
      | ok z h2 =>
        rw [e2] at e
        simp only at e
        cases e3 : cmpD o y z with
        | none => rw [e3] at e; cases e
        | some k =>
          rw [e3] at e
          cases e
          exact ⟨k, rfl⟩
  refine RPost.first lifts_T p fun x hs1 ex v H1 k1 h1 r1 p' => ?_
  obtain ⟨k, rfl⟩ := isb x hs1 ex
  have r1 : Rep c.G ha B H1 (.bl k) v := r1
  simp only [Rep] at r1
  exact ⟨k, r1, p' k H1 .refl h1 rfl⟩
theorem cs_chain {o o' : COp} {pos : Pos} {d : Expr} (h1 : ES .wk c a f) (h2 : ES .wk c b g) (h3 : ES .wk c d k) (hm : plainIn d = true) :
    CS c (.Compare a [cop o, cop o'] [b, d] pos) (fun ρ h => ((f ρ h).bind fun x h => (g ρ h).bind fun y h => match cmpD o x y with
      | some true => (k ρ h).bind fun z h => ofO ((cmpD o' y z).map .bl) h
      | some false => .ok (.bl false) h
      | none => .stuck).bind fun x h => ofO (truthD x) h) := by
  obtain ⟨ta, p1, q1⟩ := h1
  obtain ⟨tb, p2, q2⟩ := h2
  obtain ⟨tc, p3, q3⟩ := h3
  refine ⟨_, fun X hx => pt_chain (r := rCmp c.G.K o) (r' := rCmp c.G.K o') (by rw [← hx.eK]; exact rCmp_ok hx.hu o) (by rw [← hx.eK]; exact rCmp_ok hx.hu o') (p1 X hx) (p2 X hx) (p3 X hx) (nomark' hm), fun ha B ρ hs σ H Q S p => ?_⟩
  refine chain_sem q1 q2 q3 ha B ρ hs σ H _ S ?_
  have isb : ∀ (x : D) (hs1 : HS), ((f ρ hs).bind fun x h => (g ρ h).bind fun y h => match cmpD o x y with
      | some true => (k ρ h).bind fun z h => ofO ((cmpD o' y z).map .bl) h
      | some false => .ok (.bl false) h
      | none => .stuck) = Res.ok x hs1 → ∃ k, x = D.bl k := fun x hs1 e => by
    cases e1 : f ρ hs with
    | stuck => rw [e1] at e; cases e
    | exc _ _ => rw [e1] at e; cases e
    | ok y h1 =>
      rw [e1] at e
      simp only [Res.bind] at e
      cases e2 : g ρ h1 with
      | stuck => rw [e2] at e; cases e
      | exc _ _ => rw [e2] at e; cases e
      | ok z h2 =>
        rw [e2] at e
        simp only at e
        cases e3 : cmpD o y z with
        | none => rw [e3] at e; cases e
        | some j =>
          rw [e3] at e
          cases j with
          | false =>
            cases e
            exact ⟨_, rfl⟩
          | true =>
            simp only at e
            cases e4 : k ρ h2 with
            | stuck => rw [e4] at e; cases e
            | exc _ _ => rw [e4] at e; cases e
            | ok w h3 =>
              rw [e4] at e
              simp only at e
              cases e5 : cmpD o' z w with
              | none => rw [e5] at e; cases e
              | some j =>
                rw [e5] at e
                cases e
                exact ⟨_, rfl⟩
  refine RPost.first lifts_T p fun x hs1 ex v H1 k1 h1 r1 p' => ?_
  obtain ⟨k, rfl⟩ := isb x hs1 ex
  have r1 : Rep c.G ha B H1 (.bl k) v := r1
  simp only [Rep] at r1
  exact ⟨k, r1, p' k H1 .refl h1 rfl⟩
theorem cs_not {f : PEnv → HS → Res Bool} {pos : Pos} (h1 : CS c a f) : CS c (.UnaryOp .Not a pos) (fun ρ h => (f ρ h).bind fun k h => .ok (!k) h) := by
  obtain ⟨ta, p1, q1⟩ := h1
  refine ⟨_, fun X hx => pt_not (p1 X hx), fun ha B ρ hs σ H Q S p => ?_⟩
  refine q1 ha B ρ hs σ H _ S (RPost.first lifts_T p fun x hs1 _ v H1 k1 h1 r1 p' => ?_)
  have r1 : v = x := r1
  subst r1
  exact p' (!v) H1 .refl h1 rfl
/-- a test of a chain of and, or -/
def CW (c : Ctx) (e : Expr) (f : PEnv → HS → Res Bool) : Prop :=
  ∃ t : TT, (∀ X, XOk c X → PW X e t) ∧ ∀ ha B ρ hs σ H Q, ESim c.G ha B ρ hs σ H → TPost c.G ha B H Q c.E (f ρ hs) → t σ H Q
theorem CW.cs {f : PEnv → HS → Res Bool} (h : CW c e f) : CS c e f := by
  obtain ⟨t, p, q⟩ := h
  exact ⟨t, fun X hx => (p X hx).pt, q⟩
theorem cw_and1 {f : PEnv → HS → Res Bool} {pos : Pos} (h1 : CS c a f) : CW c (.BoolOp .And [a] pos) f := by
  obtain ⟨ta, p1, q1⟩ := h1
  exact ⟨ta, fun X hx => pw_and1 (p1 X hx), q1⟩
theorem cw_or1 {f : PEnv → HS → Res Bool} {pos : Pos} (h1 : CS c a f) : CW c (.BoolOp .Or [a] pos) f := by
  obtain ⟨ta, p1, q1⟩ := h1
  exact ⟨ta, fun X hx => pw_or1 (p1 X hx), q1⟩
theorem cw_and {f g : PEnv → HS → Res Bool} {rest : List Expr} {pos : Pos} (h1 : CS c a f) (h2 : CW c (.BoolOp .And (b :: rest) pos) g) :
    CW c (.BoolOp .And (a :: b :: rest) pos) (fun ρ h => (f ρ h).bind fun k h => if k then g ρ h else .ok false h) := by
  obtain ⟨ta, p1, q1⟩ := h1
  obtain ⟨tb, p2, q2⟩ := h2
  refine ⟨_, fun X hx => pw_and (p1 X hx) (p2 X hx), fun ha B ρ hs σ H Q S p => ?_⟩
  refine q1 ha B ρ hs σ H _ S (RPost.first lifts_T p fun x hs1 _ v H1 k1 h1 r1 p' => ?_)
  have r1 : v = x := r1
  subst r1
  cases v with
  | true =>
    rw [if_pos rfl] at p' ⊢
    exact q2 ha B ρ hs1 σ H1 _ (S.ext k1 h1) p'
  | false =>
    rw [if_neg Bool.false_ne_true] at p' ⊢
    exact p' false H1 .refl h1 rfl
theorem cw_or {f g : PEnv → HS → Res Bool} {rest : List Expr} {pos : Pos} (h1 : CS c a f) (h2 : CW c (.BoolOp .Or (b :: rest) pos) g) :
    CW c (.BoolOp .Or (a :: b :: rest) pos) (fun ρ h => (f ρ h).bind fun k h => if k then .ok true h else g ρ h) := by
  obtain ⟨ta, p1, q1⟩ := h1
  obtain ⟨tb, p2, q2⟩ := h2
  refine ⟨_, fun X hx => pw_or (p1 X hx) (p2 X hx), fun ha B ρ hs σ H Q S p => ?_⟩
  refine q1 ha B ρ hs σ H _ S (RPost.first lifts_T p fun x hs1 _ v H1 k1 h1 r1 p' => ?_)
  have r1 : v = x := r1
  subst r1
  cases v with
  | true =>
    rw [if_pos rfl] at p' ⊢
    exact p' true H1 .refl h1 rfl
  | false =>
    rw [if_neg Bool.false_ne_true] at p' ⊢
    exact q2 ha B ρ hs1 σ H1 _ (S.ext k1 h1) p'
end
end PD

set_option Elab.async false
set_option linter.all false
set_option maxRecDepth 100000
set_option maxHeartbeats 2000000
/-! PE: enumerate over a tuple, t[::-1], repr of a bool. -/
namespace PD
open PySem PySem.Spec PyProof.Rows L2
section
variable {X : Cx}
theorem call_repr_bl : CallR X (.builtin "repr") (fun xs H Q => ∃ k, xs = [.bl k] ∧ Q (.str (if k then "True" else "False")) H) := by
  intro pins s σ H xs us Q I r h
  obtain ⟨i, rfl, q⟩ := h
  cases r with
  | cons r1 rr =>
    cases rr
    cases r1
    exact PySem.P.repr_of_bool ⟨.str _, H, I.tok _, ⟨_, rfl⟩, q⟩
end
section
open Sem (wp)
set_option maxHeartbeats 1000000 in
theorem meets_enumerate_newB1 {v : Value} {o : Obj} {H : Heap → Prop} (B : Begins v o H) :
    Meets (Builtin.«enumerate.__new__» ⟨[.type "enumerate", v], []⟩) (fun _ R s => H s.heap ∧
      R (.ok (.ret (.ref (s.heap.push o).objs.size))) { s with heap := (s.heap.push o).push { cls := .type "enumerate", data := .fields #[.none, .bool false, .ref s.heap.objs.size, rawInt 0, .none, .none] } }) :=
  .of_wp fun prog w A R s h => by
    obtain ⟨hp, g, d, tk, os⟩ := s; obtain ⟨h1, h⟩ := h
    have hsub := sub_enumerate
    have q1 : ∀ {A' : Around} {E : Value → Shared → Prop} {Q : Value → Shared → Prop}, Q (.ref hp.objs.size) ⟨hp.push o, g, d, tk, os⟩ → wpAny (model prog w) A' (pyIter v) Q E ⟨hp, g, d, tk, os⟩ :=
      fun q => B.iter prog w _ _ ⟨hp, g, d, tk, os⟩ _ h1 q
    wp_walk using q1
    refine wpAny_stack_any fun st => wpAny_pure ?_
    split
    · rename_i c _ _ _ _ _
      cases (c == Value.type "enumerate")
      · wp_walk using q1
        exact ⟨_, rfl, h⟩
      · wp_walk using q1
        exact ⟨_, rfl, h⟩
    · wp_walk using q1
      exact ⟨_, rfl, h⟩
variable {prog : Program} {w : World} {A : Around} {E : Value → Shared → Prop} {s : Shared}
theorem enum_begins1 {v : Value} {o : Obj} {H : Heap → Prop} {Q : Value → Shared → Prop} (B : Begins v o H) (h1 : H s.heap)
    (h : ∀ h', IsEnum h' (s.heap.objs.size + 1) s.heap.objs.size 0 .none → h'.get? s.heap.objs.size = some o → h'.objs.size = s.heap.objs.size + 2 →
      (∀ b o, s.heap.get? b = some o → h'.get? b = some o) → Q (.ref (s.heap.objs.size + 1)) { s with heap := h' }) :
    wpAny (model prog w) A (call (.type "enumerate") [v]) Q E s := by
  refine callType_new F.called_enumerate (by decide) (F.typeCall_enumerate_1 _) (F.newCall_enumerate_1 _) (fun obj => F.args_object_init_2 obj _) F.entry_enumerate_new
    (meets_enumerate_newB1 B) ⟨h1, ?_⟩
  have hz : (s.heap.push o).objs.size = s.heap.objs.size + 1 := Heap.size_push ..
  show _ ∧ _
  rw [hz]
  have he : IsEnum ((s.heap.push o).push { cls := .type "enumerate", data := .fields #[.none, .bool false, .ref s.heap.objs.size, rawInt 0, .none, .none] }) (s.heap.objs.size + 1) s.heap.objs.size 0 .none := by
    have := Heap.get?_push_size (s.heap.push o) (o := { cls := .type "enumerate", data := .fields #[.none, .bool false, .ref s.heap.objs.size, rawInt 0, .none, .none] }) rfl
    rw [hz] at this; exact this
  refine ⟨⟨_, he, rfl⟩, h _ he (Heap.get?_push_of_some _ (Heap.get?_push_size _ B.free)) (by rw [Heap.size_push, hz]) fun b o x => Heap.get?_push_of_some _ (Heap.get?_push_of_some _ x)⟩
theorem next_enum_endT {e it l : Addr} {i : Nat} {items : Array Value} {old : Value} {Q : Option Value → Shared → Prop} (hh : A.handled = none)
    (he : IsEnum s.heap e it i old) (hit : s.heap.IsTupleIter it l i) (hl : s.heap.IsTuple l items) (hx : items[i]? = none)
    (hQ : ∀ h', Heap.ExtBut it s.heap h' → Q none { s with heap := h' }) : wpAny (model prog w) A (pyNext (.ref e)) Q E s := by
  have hT : s.TypeIs (.ref e) "enumerate" := ⟨_, he, rfl⟩
  unfold pyNext
  refine wpAny_bind (wpAny_attempt (wpAny_callSpecial?_slot (name := Str.ofString "__next__") hT F.slot_enumerate_next
    (wpAny_call_entry F.slot_enumerate_next hT F.entry_enumerate_next ?_ (F.args_enumerate_next_1 _))))
  show wpAny _ _ (field (.ref e) 2 >>= _) _ _ _
  refine wpAny_bind (wpAny_field he rfl (x := .ref it) rfl ?_)
  refine wpAny_bind (wpAny_nextOf_tuple_end hh hit hl hx fun h' x he' hx' => ?_)
  obtain ⟨o, ho, hc⟩ := hx'
  refine wpAny_bind (wpAny_isInstance (T := "StopIteration") (b := true) ⟨o, ho, hc⟩ isSubtype_stop ?_)
  exact wpAny_pure (hQ _ he')
theorem sliceApplied_rev {sl : Addr} {vl vu vs : Value} {n : Nat} {Q : Int × Int × Nat → Shared → Prop} (hs : s.heap.IsSliceOf sl vl vu vs) (pl : IsPart vl none) (pu : IsPart vu none) (ps : IsPart vs (some (-1)))
    (h : Q ((n : Int) - 1, -1, n) s) : wpAny (model prog w) A (Builtin.Slice.sliceApplied (.ref sl) (pure (n : Int))) Q E s := by
  obtain ⟨os, hos, hcs, hds⟩ := id hs
  unfold Builtin.Slice.sliceApplied Builtin.Slice.sliceFields
  refine wpAny_bind (wpAny_bind (wpAny_field hos hds (x := vl) rfl (wpAny_bind (wpAny_field hos hds (x := vu) rfl (wpAny_bind (wpAny_field hos hds (x := vs) rfl (wpAny_pure ?_)))))))
  refine wpAny_bind (HT.slicePart_ ps ?_)
  show wpAny _ _ (if ((-1 : Int) == 0) = true then _ else _) _ _ s
  rw [if_neg (by decide)]
  refine wpAny_bind (HT.slicePart_ pl (wpAny_bind (HT.slicePart_ pu (wpAny_bind (wpAny_pure ?_)))))
  show wpAny _ _ (pure ((Builtin.Slice.sliceAdjust none none (-1) n).1, -1, Builtin.Slice.slicePlaces (Builtin.Slice.sliceAdjust none none (-1) n).1 (Builtin.Slice.sliceAdjust none none (-1) n).2 (-1))) _ _ s
  have e1 : Builtin.Slice.sliceAdjust none none (-1) (n : Int) = ((n : Int) - 1, -1) := rfl
  have e2 : Builtin.Slice.slicePlaces ((n : Int) - 1) (-1) (-1) = n := by
    unfold Builtin.Slice.slicePlaces
    rw [if_neg (by decide)]
    by_cases c : (n : Int) - 1 > -1
    · rw [if_pos c]
      show (((n : Int) - 1 - -1 - 1) / 1 + 1).toNat = n
      rw [Int.ediv_one]
      omega
    · rw [if_neg c]
      omega
  rw [e1, e2]
  exact wpAny_pure h
theorem pick_rev (xs : Array Value) : ((List.range xs.size).filterMap fun (m : Nat) => xs[((xs.size : Int) - 1 + (m : Int) * (-1)).toNat]?).toArray = xs.toList.reverse.toArray := by
  congr 1
  have e : (List.range xs.size).filterMap (fun (m : Nat) => xs[((xs.size : Int) - 1 + (m : Int) * (-1)).toNat]?) = ((List.range xs.size).map fun k => xs.size - 1 - k).filterMap (xs[·]?) := by
    rw [List.filterMap_map]
    congr 1
    funext k
    show _ = xs[xs.size - 1 - k]?
    congr 1
    omega
  rw [e, PySem.W.krv_range, List.filterMap_reverse, PySem.W.krv_all]
theorem getItem_tuple_rev {t sl : Addr} {items : Array Value} {vl vu vs : Value} {Q : Value → Shared → Prop} (ht : IsTup s.heap t items) (hs : s.heap.IsSliceOf sl vl vu vs) (pl : IsPart vl none) (pu : IsPart vu none) (ps : IsPart vs (some (-1)))
    (h : Q (.ref s.heap.objs.size) { s with heap := s.heap.push { cls := .type "tuple", data := .seq items.toList.reverse.toArray } })
    (hsz : items.size ≤ sizeLine) : wpAny (model prog w) A (getItem (.ref t) (.ref sl)) Q E s := by
  have htake : sizeOk (.seq items.toList.reverse.toArray) := by
    show items.toList.reverse.toArray.size ≤ sizeLine
    rw [List.size_toArray, List.length_reverse, Array.length_toList]
    exact hsz
  obtain ⟨os, hos, hcs, hds⟩ := id hs
  have hTs : s.TypeIs (.ref sl) "slice" := ⟨os, hos, hcs⟩
  unfold getItem
  try with_reducible refine wpAny_holding ?_
  first | refine wpAny_bind (wpAny_pure ?_) | skip
  refine wpAny_bind (wpAny_sequenceKey ht.typeIs (by decide) ?_)
  refine wpAny_bind (wpAny_callSpecial?_slot (name := Str.ofString "__getitem__") ht.typeIs PyProof.Rows.slot_tuple_getitem
    (wpAny_call_entry PyProof.Rows.slot_tuple_getitem ht.typeIs entry_tuple_getitem ?_ (args_tuple_getitem _ _)))
  show wpAny _ _ (Builtin.Tuple.tupleItemsOf (.ref t) >>= _) _ _ s
  refine wpAny_bind (tupleItemsOf_ ht ?_)
  refine wpAny_bind (wpAny_typeOf hTs ?_)
  rw [if_pos (by decide)]
  refine wpAny_bind (sliceApplied_rev hs pl pu ps ?_)
  have hno : ¬ ((((items.size : Int) - 1 == 0 && (-1 : Int) == 1 && items.size == items.size)) = true) := by
    intro q
    rw [Bool.and_eq_true, Bool.and_eq_true] at q
    exact absurd q.1.2 (by decide)
  show wpAny _ _ (if (((items.size : Int) - 1 == 0 && (-1 : Int) == 1 && items.size == items.size)) = true then _ else _) _ _ s
  rw [if_neg hno, pick_rev]
  first
    | exact wpAny_bind (m := Builtin.Tuple.tupleExact _) (wpAny_newObj_type (wpAny_pure ⟨_, rfl, wpAny_pure h⟩) htake)
    | exact wpAny_bind (m := Builtin.Tuple.tupleExact _) (wpAny_newObj_type (wpAny_bind (wpAny_pure (wpAny_pure ⟨_, rfl, wpAny_pure h⟩))) htake)
    | exact wpAny_bind (wpAny_bind (m := Builtin.Tuple.tupleExact _) (wpAny_newObj_type (wpAny_pure (wpAny_pure ⟨_, rfl, wpAny_pure h⟩)) htake))
    | exact wpAny_bind (wpAny_bind (m := Builtin.Tuple.tupleExact _) (wpAny_newObj_type (wpAny_pure ⟨_, rfl, wpAny_pure h⟩) htake))
end
/-- the tuple at a as it stands at each turn, each item in a new pair -/
def IteT (K : PySem.W.Frag) (a : Addr) : It :=
  ⟨fun i H => ∃ (xs : List V) (x : V), SqT K H a xs ∧ xs[i]? = some x, fun i H v H' => ∃ T x, v = .ref T ∧ H T = none ∧ H' = upd H T (.tup [.int (i : Nat), x]) ∧ ∀ xs, SqT K H a xs → xs[i]? = some x, fun i H => ∃ xs : List V, SqT K H a xs ∧ xs.length ≤ i⟩
theorem turn_enumT {P : Program} {w : World} {K : PySem.W.Frag} {elts : List Expr} {kk : Nat} {tpos : Pos} (a e it : Addr) :
    Turn P w K (.Tuple elts kk tpos) (IteT K a) [e, it] e (fun i h => (∃ old, IsEnum h e it ((i : Nat) : Int) old) ∧ h.IsTupleIter it a i ∧ e ≠ it) where
  mem := by simp
  obj := fun i h st b hb => by
    obtain ⟨⟨old, he⟩, ⟨o, ho, hc, hd⟩, _⟩ := st
    have e' : b = e ∨ b = it := by simpa using hb
    rcases e' with z | z
    · rw [z]; exact ⟨_, he, fun v q => nomatch q⟩
    · rw [z]; exact ⟨o, ho, fun v q => by rw [hd] at q; cases q⟩
  keep := fun i h h' st k => let ⟨⟨old, he⟩, hi, hne⟩ := st; ⟨⟨old, k e (by simp) _ he⟩, hi.at fun o q => k it (by simp) o q, hne⟩
  item := by
    intro X hP hw hK hc i pins s σ H E I hf st hg
    subst hP hw hK
    obtain ⟨⟨old, he⟩, hit, hne⟩ := st
    obtain ⟨xs, x, hq, hx⟩ := hg
    obtain ⟨its, rv, p, hz⟩ := I.tuple hq
    have p : s.heap.IsTuple a its.toArray := p
    obtain ⟨u, hu, ru⟩ := rv.get hx
    have hel : e < s.heap.objs.size := Heap.lt_size he
    have hil : it < s.heap.objs.size := by obtain ⟨_, q, _⟩ := hit; exact Heap.lt_size q
    have hea : e ≠ a := by
      rintro rfl
      obtain ⟨o, ho, hcl, _⟩ := id p
      have z := he.symm.trans ho
      cases z
      injection hcl with q
      exact absurd q (by decide)
    have hia : a ≠ it := by
      rintro rfl
      obtain ⟨o, ho, hcl, _⟩ := id p
      obtain ⟨o2, ho2, hc2, _⟩ := id hit
      rw [ho] at ho2
      cases ho2
      rw [hcl] at hc2
      injection hc2 with q
      exact absurd q (by decide)
    have hlt : i < its.toArray.size := by
      have := (List.getElem?_eq_some_iff.mp hu).1
      rw [List.size_toArray]
      exact this
    refine wpAny_pyNext_enum_itemD (Draws.tuple (A := X.A.in1) (I.ok.hd hc) it a hia its.toArray) he ⟨hit, p⟩ hlt hne (by simp [hne, hea]) fun u' h' tk hu' ho hst' hT hsz hk => ?_
    obtain ⟨hit', _⟩ := hst'
    have euu : u' = u := by
      have z : its.toArray[i]? = some u := by simpa using hu
      rw [z] at hu'
      cases hu'
      rfl
    subst euu
    refine ⟨_, rfl, wpAny_letOwnedTupleGo_enum (s := { s with heap := h', toks := tk + 1 }) ho fun h'' he' sb => ?_⟩
    have hT2 : h''.get? s.heap.objs.size = some { cls := .type "tuple", data := .seq #[.int i tk, u'] } := (sb.2 _ (Nat.ne_of_gt hel)).trans hT
    have new : ObjOk X.prog X.w (upd H s.heap.objs.size (.tup [.int (i : Nat), x])) h'' s.heap.objs.size (.tup [.int (i : Nat), x]) :=
      ⟨by show 2 ≤ sizeLine; decide, [.int i tk, u'], .cons ⟨_, rfl⟩ (.cons ru .nil), ⟨_, hT2, rfl, _, rfl⟩⟩
    have I1 : Inv X pins σ (upd H s.heap.objs.size (.tup [.int (i : Nat), x])) { s with heap := h'', toks := tk + 1 } :=
      I.turnedNew (ch := [e, it]) (fun b ob hb q => (sb.2 b (fun z => hb (by simp [z]))).trans (hk b ob (fun z => hb (by simp [z])) (fun z => hb (by simp [z])) q)) hf (Nat.le_refl _) new
    refine ⟨.ref s.heap.objs.size, _, I1, rfl, ⟨_, x, rfl, I.hok.fresh (Nat.le_refl _), rfl, fun ys hy => by rw [I.tuple_inj hy hq]; exact hx⟩, ⟨⟨u', ?_⟩, hit'.at fun o q => (sb.2 it (Ne.symm hne)).trans q, hne⟩, fun b hb => ?_⟩
    · have e1 : ((i + 1 : Nat) : Int) = (i : Int) + 1 := by omega
      rw [e1]; exact he'
    · have hb' : b < s.heap.objs.size := by
        have e' : b = e ∨ b = it := by simpa using hb
        rcases e' with z | z
        · rw [z]; exact hel
        · rw [z]; exact hil
      rw [upd_ne (Nat.ne_of_lt hb')]
      exact (hf b hb).1
  done := by
    intro X hP hw hK hc i pins s σ H E I hf st hg
    subst hP hw hK
    obtain ⟨⟨old, he⟩, hit, hne⟩ := st
    obtain ⟨xs, hq, hx⟩ := hg
    obtain ⟨its, rv, p, hz⟩ := I.tuple hq
    obtain ⟨f0, f1, f2, f3, f4, f5⟩ := hf it (by simp)
    have hl := rv.length
    exact next_enum_endT (I.ok.hd hc) he hit (show s.heap.IsTuple a its.toArray from p) (by simp; omega) fun h' eb => ⟨rfl, I.turned (t' := s.toks) (fun b o hb q => eb b o hb q) f0 f1 f3 f4 f5⟩
  self := fun A i s Q E st h => let ⟨⟨_, he⟩, _⟩ := st; wpAny_pyIter_enum he h
/-- enumerate over a list or a tuple -/
def iEnumB (K : PySem.W.Frag) (ta : TA) : TI := fun σ H R => ta σ H fun vs H1 => ∃ a xs, vs = [.ref a] ∧ ((SqL K H1 a xs ∧ R (Ite K a) H1) ∨ (SqT K H1 a xs ∧ R (IteT K a) H1))
theorem pi_enumB {X : Cx} {e : Expr} {ta : TA} {p pos tpos : Pos} {elts : List Expr} {kk : Nat} (hg : Gl X "enumerate") (hm : X.mg "enumerate" = none) (ha : PA X [e] ta) (hs : starEach [e] X.env = [(false, eval e X.env)] := by rfl) :
    PI X (.Tuple elts kk tpos) (.Call (.Name "enumerate" p) [e] [] pos) (iEnumB X.K ta) := by
  refine ⟨fun pins s σ H R I h => ?_⟩
  refine Call_ (ld_blt I hg hm boot_enumerate (PyProof.Rows.callWith_type1 (thn (ha.run pos pins s σ H _ I h) fun us s1 ⟨vs, H1, I1, r1, q1⟩ => ?_) hs rfl))
  obtain ⟨a, xs, ex, q⟩ := q1
  subst ex
  cases r1 with
  | cons r rr =>
    cases rr
    cases r
    rcases q with ⟨hq, q⟩ | ⟨hq, q⟩
    · obtain ⟨its, rv, p', hz⟩ := I1.list hq
      refine call_enumerate_list p'.isList fun h' he hit hsz hk => wpAny_pyIter_enum he ?_
      have I2 : Inv X pins σ H1 { s1 with heap := h' } := I1.kept (t' := s1.toks) hk
      refine ⟨s1.heap.objs.size + 1, [s1.heap.objs.size + 1, s1.heap.objs.size], _, _, H1, rfl, I2, turn_enum a (s1.heap.objs.size + 1) s1.heap.objs.size, ⟨⟨.none, he⟩, hit, Nat.succ_ne_self _⟩, fun b hb => ?_, q⟩
      have e' : b = s1.heap.objs.size + 1 ∨ b = s1.heap.objs.size := by simpa using hb
      have hle : s1.heap.objs.size ≤ b := by
        rcases e' with z | z
        · rw [z]; exact Nat.le_add_right _ _
        · rw [z]; exact Nat.le_refl _
      exact I1.fpOk hle (I1.hok.fresh hle)
    · obtain ⟨its, rv, p', hz⟩ := I1.tuple hq
      have p' : s1.heap.IsTuple a its.toArray := p'
      refine enum_begins1 (begins_tuple a its.toArray) p' fun h' he ho hsz hk => wpAny_pyIter_enum he ?_
      have I2 : Inv X pins σ H1 { s1 with heap := h' } := I1.kept (t' := s1.toks) hk
      have hit : h'.IsTupleIter s1.heap.objs.size a 0 := ⟨_, ho, rfl, rfl⟩
      refine ⟨s1.heap.objs.size + 1, [s1.heap.objs.size + 1, s1.heap.objs.size], _, _, H1, rfl, I2, turn_enumT a (s1.heap.objs.size + 1) s1.heap.objs.size, ⟨⟨.none, he⟩, hit, Nat.succ_ne_self _⟩, fun b hb => ?_, q⟩
      have e' : b = s1.heap.objs.size + 1 ∨ b = s1.heap.objs.size := by simpa using hb
      have hle : s1.heap.objs.size ≤ b := by
        rcases e' with z | z
        · rw [z]; exact Nat.le_add_right _ _
        · rw [z]; exact Nat.le_refl _
      exact I1.fpOk hle (I1.hok.fresh hle)
def tRevB (K : PySem.W.Frag) (te : TE) : TE := fun σ H Q => te σ H fun x H1 => ∃ a xs, x = .ref a ∧ ((SqL K H1 a xs ∧ ∀ p, H1 p = none → Q (.ref p) (upd H1 p (.lst xs.reverse))) ∨ (SqT K H1 a xs ∧ ∀ p, H1 p = none → Q (.ref p) (upd H1 p (.tup xs.reverse))))
end PD
namespace PD
open PySem PySem.Spec PyProof.Rows L2
theorem pe_revB {X : Cx} {e : Expr} {te : TE} {k : Nat} {p1 p2 p3 pos : Pos} (he : PE X e te) : PE X (.Subscript e (.Slice none none (some (.UnaryOp .USub (.Constant (.int 1) k p1) p2)) p3) pos) (tRevB X.K te) := by
  refine ⟨fun pins s σ H Q I h => ?_⟩
  refine Subscript_ (thn (he.run pins s σ H _ I h) fun v s1 ⟨x, H1, I1, r1, q1⟩ => ?_)
  obtain ⟨a, xs, ex, q⟩ := q1
  subst ex
  cases r1
  have hst : PO X (some (.UnaryOp .USub (.Constant (.int 1) k p1) p2)) (tPart (tUn (rU fun i => .int (-i)) (tC (.int 1)))) := po_some (pe_un un_neg pe_int)
  refine wpAny_Slice (thn (po_none.run pins s1 σ H1 (fun o H2 => o = none ∧ H2 = H1) I1 ⟨rfl, rfl⟩) fun vl s2 ⟨l, H2, I2, pl, el, e2⟩ => ?_)
  subst el e2
  refine thn (po_none.run pins s2 σ H2 (fun o H3 => o = none ∧ H3 = H2) I2 ⟨rfl, rfl⟩) fun vu s3 ⟨u, H3, I3, pu, eu, e3⟩ => ?_
  subst eu e3
  refine thn (hst.run pins s3 σ H3 (fun o H4 => o = some (-1) ∧ H4 = H3) I3 ⟨1, rfl, -1, rfl, rfl, rfl⟩) fun vs s4 ⟨o, H4, I4, ps, eo, e4⟩ => ?_
  subst eo e4
  have I5 : Inv X pins σ H4 { s4 with heap := s4.heap.push { cls := .type "slice", data := .fields #[vl, vu, vs] } } := I4.kept (t' := s4.toks) fun b ob q => Heap.get?_push_of_some _ q
  show wpAny (model X.prog X.w) X.A (subscriptTail e (.Slice none none (some (.UnaryOp .USub (.Constant (.int 1) k p1) p2)) p3) (.ref a) (.ref s4.heap.objs.size)) (EP X pins σ Q) X.xe { s4 with heap := s4.heap.push { cls := .type "slice", data := .fields #[vl, vu, vs] } }
  rcases q with ⟨hx, q⟩ | ⟨hx, q⟩
  · obtain ⟨its, r, ht, hz⟩ := I5.list hx
    have hlen := r.length
    refine tail_any (ops := [.ref a, .ref s4.heap.objs.size]) ht.isList.typeIs (PySem.slot_list_getitem.lookup) ?_ (by with_unfolding_all rfl)
    refine wpAny_getItem_list_slice ht.isList (Heap.IsSliceOf.new _ vl vu vs) pl pu ps (by decide) ?_ (by rw [List.size_toArray]; omega)
    rw [PySem.W.krv_pick]
    refine ⟨.ref _, _, I5.laid (t' := s4.toks) (o := .lst xs.reverse) (fun b ob q => Heap.get?_push_of_some _ q) (Nat.le_refl _) ?_, rfl, q _ (I5.hok.fresh (Nat.le_refl _))⟩
    exact ⟨by rw [List.length_reverse]; exact hz, _, 0, r.reverse, Heap.get?_push_size _ rfl⟩
  · obtain ⟨its, r, ht, hz⟩ := I5.tuple hx
    have hlen := r.length
    refine tail_any (ops := [.ref a, .ref s4.heap.objs.size]) ht.typeIs (PyProof.Rows.slot_tuple_getitem.lookup) ?_ (by with_unfolding_all rfl)
    refine getItem_tuple_rev ht (Heap.IsSliceOf.new _ vl vu vs) pl pu ps ?_ (by rw [List.size_toArray]; omega)
    refine ⟨.ref _, _, I5.laid (t' := s4.toks) (o := .tup xs.reverse) (fun b ob q => Heap.get?_push_of_some _ q) (Nat.le_refl _) ?_, rfl, q _ (I5.hok.fresh (Nat.le_refl _))⟩
    exact ⟨by rw [List.length_reverse]; exact hz, _, r.reverse, ⟨_, Heap.get?_push_size _ rfl, rfl, _, rfl⟩⟩
end PD

set_option Elab.async false
set_option linter.all false
set_option maxRecDepth 100000
set_option maxHeartbeats 2000000
/-! P6: subscripts, slices, calls. -/
namespace PD
open PySem PySem.Spec PyProof.Rows L2
section
variable {c : Ctx} {e a b : Expr} {f g k : PEnv → HS → Res D} {m : Md}
theorem atI_eq {α : Type} (xs : List α) (i : Int) : PD.atI xs i = L2.atI xs i := rfl
theorem Rep.tup_ {G : Cfg} {ha : Addr} {B : Addr → Prop} {H : Hp} {ds : List D} {v : V} (h : Rep G ha B H (.tup ds) v) : ∃ a vs, v = .ref a ∧ SqT G.K H a vs ∧ Reps G ha B H ds vs := by
  simp only [Rep] at h
  exact h
theorem Reps.atI {G : Cfg} {ha : Addr} {B : Addr → Prop} {H : Hp} {ds : List D} {vs : List V} {i : Int} {d : D} (r : Reps G ha B H ds vs) (h : PD.atI ds i = some d) : ∃ v, L2.atI vs i = some v ∧ Rep G ha B H d v := by
  unfold PD.atI at h
  rw [Option.bind_eq_some_iff] at h
  obtain ⟨j, h1, h2⟩ := h
  obtain ⟨v, e1, e2⟩ := r.get h2
  refine ⟨v, ?_, e2⟩
  unfold L2.atI
  rw [← r.length]
  show (PD.ixN ds.length i).bind _ = _
  rw [h1]
  exact e1
def plainIx : Expr → Bool
  | .Slice _ _ _ _ => false
  | _ => true
theorem plainIx_of {b : Expr} (h : plainIx b = true) : PlainIx b := by
  intro o i
  cases b <;> first | rfl | cases h
theorem WRep.dct_ {G : Cfg} {ha : Addr} {B : Addr → Prop} {H : Hp} {ks xs : List D} {v : V} (h : WRep G ha B H (.dct ks xs) v) : ∃ a kvs, v = .ref a ∧ H a = some (.dK kvs) ∧ ks = kvs.map (fun p => kD p.1) ∧ Reps G ha B H xs (kvs.map (·.2)) := by
  simp only [WRep] at h
  obtain ⟨a, vs, e, _, s, k, r⟩ := h
  exact ⟨a, vs, e, s, k, r⟩
/-- d[k], an int key -/
def rIxD : R2 := fun x y H Q => ∃ a kvs z v, x = .ref a ∧ y = kV z ∧ H a = some (.dK kvs) ∧ valV kvs z = some v ∧ Q v H
theorem ix_dict {X : Cx} (hu : X.A.units + 1 < cLine) : IxR X rIxD := by
  intro value slice pins s σ H x y v u Q I rx ry h hs
  obtain ⟨a, kvs, z, w, rfl, rfl, hd, hv, q⟩ := h
  obtain rfl : v = Value.ref a := rx
  have g : DGet H a (kV z) (some w) := by
    have g := DGet.k (k := z) hd
    rw [hv] at g
    exact g
  exact tail_any (dict_typeIs I g) PySem.F.slot_dict_getitem.lookup (d_getItem hu I g ry fun w' s' I' rw' => ⟨w, H, I', rw', q⟩) hs
/-- x[i] -/
theorem es_ix {pos : Pos} (h1 : ES .wk c a f) (h2 : ES .wk c b g) (hp : plainIx b = true) : ES .st c (.Subscript a b pos) (fun ρ h => (f ρ h).bind fun x h => (g ρ h).bind fun y h => ofO (ixD h x y) h) :=
  es_op2 (z := fun x y h => ofO (ixD h x y) h) (r := fun x y H Q => (rIxL c.G.K x y H Q ∨ rIxT c.G.K x y H Q) ∨ rIxD x y H Q) h1 h2 (fun X ta tb hx p1 p2 => pe_ix (by rw [← hx.eK]; exact (ix_list.or ix_tup).or (ix_dict (by have := hx.hu; omega))) p1 p2 (plainIx_of hp)) fun ha B H hs x y vx vy Q hh rx ry p => by
    obtain ⟨d, e, p2⟩ := ofO_ok p
    unfold ixD at e
    split at e
    · obtain ⟨l, vs, rfl, s, r⟩ := rx.lst_
      obtain ⟨v, e1, r1⟩ := r.atI e
      exact .inl (.inl ⟨l, vs, _, v, rfl, ry.int_, .inl (.inl s), e1, p2 v H .refl hh r1⟩)
    · obtain ⟨l, vs, rfl, s, r⟩ := rx.tup_
      obtain ⟨v, e1, r1⟩ := r.atI e
      exact .inl (.inr ⟨l, vs, _, v, rfl, ry.int_, s, e1, p2 v H .refl hh r1⟩)
    · simp only [WRep, Rep] at rx
      subst rx
      obtain ⟨vs, s, r⟩ := hh.at_
      obtain ⟨v, e1, r1⟩ := r.atI e
      exact .inl (.inl ⟨ha, vs, _, v, rfl, ry.int_, .inl (.inl s), e1, p2 v H .refl hh r1⟩)
    · rw [Option.bind_eq_some_iff] at e
      obtain ⟨z, ez, e⟩ := e
      obtain ⟨l, kvs, rfl, hd, ek, r⟩ := WRep.dct_ rx
      subst ek
      obtain ⟨v, e1, r1⟩ := dget_ok r e
      exact .inr ⟨l, kvs, z, v, rfl, ry.key_ ez, hd, e1, p2 v H .refl hh r1⟩
    · cases e
/-! ### slices -/
def OS (c : Ctx) (e : Option Expr) (f : PEnv → HS → Res (Option Int)) : Prop :=
  ∃ t : TO, (∀ X, XOk c X → PO X e t) ∧ ∀ ha B ρ hs σ H Q, ESim c.G ha B ρ hs σ H → RPost c.G ha B H (fun _ o o' _ _ => o' = o) Q c.E (f ρ hs) → t σ H Q
theorem os_none : OS c none (fun _ h => .ok none h) := ⟨tNoPart, fun X _ => po_none, fun ha B ρ hs σ H Q S p => p none H .refl S.hnd rfl⟩
theorem os_some (h1 : ES .wk c a f) : OS c (some a) (fun ρ h => (f ρ h).bind fun x h => ofO ((intOf x).map some) h) := by
  obtain ⟨ta, p1, q1⟩ := h1
  refine ⟨tPart ta, fun X hx => po_some (p1 X hx), fun ha B ρ hs σ H Q S p => ?_⟩
  refine q1 ha B ρ hs σ H _ S (RPost.first (fun _ _ _ _ _ _ _ _ _ h => h) p fun x hs1 _ v H1 k1 h1 r1 p' => ?_)
  obtain ⟨d, e, p'⟩ := ofO_ok p'
  cases x with
  | int i =>
    cases e
    exact ⟨i, (re_w r1).int_, p' _ H1 .refl h1 rfl⟩
  | _ => cases e
theorem cut_eq {α : Type} (xs : List α) (lo hi : Option Int) : cutL xs lo hi = (xs.drop (HT.sIx xs.length 0 lo)).take (HT.sIx xs.length xs.length hi - HT.sIx xs.length 0 lo) := rfl
theorem Reps.cut {G : Cfg} {ha : Addr} {B : Addr → Prop} {H : Hp} {ds : List D} {vs : List V} (r : Reps G ha B H ds vs) (lo hi : Option Int) : Reps G ha B H (cutL ds lo hi) (cutV vs lo hi) := by
  rw [cut_eq, r.length]
  exact (r.drop _).take _
theorem cut_whole {α : Type} {xs : List α} {lo hi : Option Int} (h : HT.sIx xs.length 0 lo = 0 ∧ HT.sIx xs.length xs.length hi = xs.length) : cutL xs lo hi = xs := by
  rw [cut_eq, h.1, h.2]
  simp
theorem es_slc {lo hi : Option Expr} {fl fh : PEnv → HS → Res (Option Int)} {p2 pos : Pos} (h1 : ES .wk c a f) (h2 : OS c lo fl) (h3 : OS c hi fh) :
    ES .fr c (.Subscript a (.Slice lo hi none p2) pos) (fun ρ h => (f ρ h).bind fun x h => (fl ρ h).bind fun l h => (fh ρ h).bind fun u h => ofO (slcD x l u) h) := by
  obtain ⟨ta, p1, q1⟩ := h1
  obtain ⟨tl, p2', q2⟩ := h2
  obtain ⟨th, p3, q3⟩ := h3
  refine ⟨tSl (fun x lo hi H Q => rSlL c.G.K x lo hi H Q ∨ rSlA c.G.K x lo hi H Q) ta tl th, fun X hx => pe_slice (by rw [← hx.eK]; exact sl_list.or sl_tupA) (p1 X hx) (p2' X hx) (p3 X hx), fun ha B ρ hs σ H Q S p => ?_⟩
  refine q1 ha B ρ hs σ H _ S (RPost.first lifts_E p fun x hs1 _ v H1 k1 h1 r1 p' => ?_)
  refine q2 ha B ρ hs1 σ H1 _ (S.ext k1 h1) (RPost.first lifts_E p' fun l hs2 _ l' H2 k2 h2 r2 p3 => ?_)
  refine q3 ha B ρ hs2 σ H2 _ ((S.ext k1 h1).ext k2 h2) (RPost.first lifts_E p3 fun u hs3 _ u' H3 k3 h3 r3 p4 => ?_)
  have r2 : l' = l := r2
  have r3 : u' = u := r3
  subst r2 r3
  have rx := WRep.keep h3.hB (k2.trans k3) r1
  obtain ⟨d, e, p4⟩ := ofO_ok p4
  cases x with
  | lst xs =>
    cases e
    obtain ⟨q, vs, rfl, s, r⟩ := rx.lst_
    exact .inl ⟨q, vs, rfl, .inl (.inl s), EPost.lst p4 h3 (r.cut _ _)⟩
  | tup xs =>
    cases e
    obtain ⟨q, vs, rfl, s, r⟩ := rx.tup_
    refine .inr ⟨q, vs, rfl, s, fun z => ?_, fun _ => EPost.tup p4 h3 (r.cut _ _)⟩
    rw [← r.length] at z
    rw [cut_whole z] at p4
    refine EPost.atom p4 h3 ?_ rfl
    simp only [Rep]
    exact ⟨q, vs, rfl, s, r⟩
  | _ => cases e
theorem es_rev {j : Nat} {p1 p2 p3 pos : Pos} (h1 : ES .wk c a f) : ES .fr c (.Subscript a (.Slice none none (some (.UnaryOp .USub (.Constant (.int 1) j p1) p2)) p3) pos) (fun ρ h => (f ρ h).bind fun x h => ofO (revD x) h) := by
  obtain ⟨ta, p1, q1⟩ := h1
  refine ⟨tRevB c.G.K ta, fun X hx => by rw [← hx.eK]; exact pe_revB (p1 X hx), fun ha B ρ hs σ H Q S p => ?_⟩
  refine q1 ha B ρ hs σ H _ S (RPost.first lifts_E p fun x hs1 _ v H1 k1 h1 r1 p' => ?_)
  obtain ⟨d, e, p'⟩ := ofO_ok p'
  cases x with
  | lst xs =>
    cases e
    obtain ⟨q, vs, rfl, s, r⟩ := (re_w r1).lst_
    exact ⟨q, vs, rfl, .inl ⟨.inl (.inl s), EPost.lst p' h1 r.reverse⟩⟩
  | tup xs =>
    cases e
    obtain ⟨q, vs, rfl, s, r⟩ := (re_w r1).tup_
    exact ⟨q, vs, rfl, .inr ⟨s, EPost.tup p' h1 r.reverse⟩⟩
  | _ => cases e

/-! ### calls -/
/-- φ takes as many as the def has parameters -/
def Arity (c : Ctx) : Prop := ∀ f ds h, c.Φ f ds h ≠ .stuck → ds.length = (c.G.ps f).length
theorem call_sem {fn : Nat} {ha : Addr} {B : Addr → Prop} {H : Hp} {Q : VK} {hs : HS} {ds : List D} {vs : List V} (ar : Arity c) (r : Reps c.G ha B H ds vs) (hh : Hnd c.G ha B H hs) (p : EPost c.G .st ha B H Q c.E (c.Φ fn ds hs)) :
    spD c.G (c.Φ fn) (c.G.ps fn).length vs H Q c.E := by
  refine ⟨?_, ha, B, ds, hs, r, hh, p⟩
  rw [← r.length]
  refine ar fn ds hs fun z => ?_
  rw [z] at p
  exact p
theorem es_call {x : Str} {p pos : Pos} {es : List Expr} {fs : PEnv → HS → Res (List D)} {fn : Nat} (st : Stat c.G) (ar : Arity c) (hf : c.G.nm[fn]? = some x) (hg : c.sc.names.lookup x = some .globalImplicit) (hk : c.calm = true)
    (h : AS false c (a :: es) fs) (hp : (a :: es).all plainE = true) (hd : (x == ("__debug__" : Str)) = false) : ES .st c (.Call (.Name x p) (a :: es) [] pos) (fun ρ h => (fs ρ h).bind fun ds h => c.Φ fn ds h) := by
  obtain ⟨t, p1, q1⟩ := h
  obtain ⟨e1, e2, e3⟩ := st.fn fn x hf
  rw [List.all_cons, Bool.and_eq_true] at hp
  refine ⟨tCall (spD c.G (c.Φ fn) (c.G.ps fn).length) [] c.E t, fun X hx => pe_call (hx.fns fn) (hx.room hk) (hx.gl hg) (by rw [hx.eM]; exact e1) (by rw [hx.eK]; exact e2) (by rw [hx.eK]; exact e3) .nil hx.px (p1 X hx) hd (star_of hp.1) (nostar hp.2), fun ha B ρ hs σ H Q S p => ?_⟩
  refine q1 ha B ρ hs σ H _ S (RPost.first lifts_E p fun ds hs1 _ vs H1 k1 h1 r1 p' => ?_)
  show spD c.G (c.Φ fn) (c.G.ps fn).length (vs ++ []) H1 Q c.E
  rw [List.append_nil]
  exact call_sem ar r1 h1 p'
/-- a call of what a name holds -/
theorem es_callv {x : Str} {p pos : Pos} {es : List Expr} {fs : PEnv → HS → Res (List D)} {i : Nat} (st : Stat c.G) (ar : Arity c) (hN : c.N[i]? = some x) (hv : Vis c.sc x) (hk : c.calm = true)
    (h : AS false c (a :: es) fs) (hp : (a :: es).all plainE = true) (hd : (x == ("__debug__" : Str)) = false) (hcd : (x == ("__classdict__" : Str)) = false) : ES .st c (.Call (.Name x p) (a :: es) [] pos) (fun ρ h => match ρ[i]? with
      | some (.val (.fn f)) => (fs ρ h).bind fun ds h => c.Φ f ds h
      | _ => .stuck) := by
  obtain ⟨t, p1, q1⟩ := h
  rw [List.all_cons, Bool.and_eq_true] at hp
  refine ⟨fun σ H Q => ∃ (fn : Nat) (y : Str), c.G.nm[fn]? = some y ∧ tCallL i (c.G.fa fn) (spD c.G (c.Φ fn) (c.G.ps fn).length) [] c.E t σ H Q, fun X hx => ⟨fun pins s σ H Q I q => ?_⟩, fun ha B ρ hs σ H Q S p => ?_⟩
  · obtain ⟨fn, y, hy, q⟩ := q
    obtain ⟨e1, e2, e3⟩ := st.fn fn y hy
    exact (pe_callL (hx.fns fn) (hx.room hk) (by rw [hx.eN]; exact hN) (hx.vis hv) (by rw [hx.eK]; exact e2) (by rw [hx.eK]; exact e3) .nil hx.px (p1 X hx) hd hcd (star_of hp.1) (nostar hp.2)).run pins s σ H Q I q
  · dsimp only at p
    split at p
    · rename_i fn e
      obtain ⟨v, e1, r⟩ := S.at_ i _ e
      simp only [Rep] at r
      obtain ⟨rfl, r2⟩ := r
      obtain ⟨y, hy⟩ := Option.isSome_iff_exists.mp r2
      refine ⟨fn, y, hy, e1, ?_⟩
      refine q1 ha B ρ hs σ H _ S (RPost.first lifts_E p fun ds hs1 _ vs H1 k1 h1 r1 p' => ?_)
      show spD c.G (c.Φ fn) (c.G.ps fn).length (vs ++ []) H1 Q c.E
      rw [List.append_nil]
      exact call_sem ar r1 h1 p'
    · exact p.elim
end
end PD

set_option Elab.async false
set_option linter.all false
set_option maxRecDepth 100000
set_option maxHeartbeats 2000000
/-! P7: built-ins over data. -/
/-! sorted(t) for a tuple t -/
namespace PySem.W
open PySem PySem.Calls PyProof.Rows
section
variable {prog : Program} {w : World} {A : Around} {E : Value → Shared → Prop} {s : Shared}
theorem collect_tup {l : Addr} {vs : List Value} {Q : List Value → Shared → Prop} (hl : PyProof.Rows.IsTup s.heap l vs.toArray)
    (h : Q vs { s with heap := (s.heap.push (seqObj "list" #[] 0)).update s.heap.objs.size (Obj.mapSeq (· ++ vs.toArray)) }) (hsz : vs.length ≤ sizeLine) :
    wpAny (model prog w) A (collect (.ref l)) Q E s := by
  obtain ⟨o, ho, hc, n, hd⟩ := id hl
  unfold collect
  refine wpAny_bind (wpAny_runValue (codeAny_builtin entry_proto_collect' ?_))
  show wpAny _ _ (do again (.builtin "list.__iadd__" ⟨[← newList [], .ref l], []⟩)) _ _ s
  refine wpAny_bind (wpAny_newList (wpAny_pure ⟨Code.quiet_builtin _ (by decide +kernel), codeAny_builtin entry_list_iadd' ?_⟩))
  show wpAny _ _ (Builtin.List.listExtendWith (.ref s.heap.objs.size) (.ref l) (.ref s.heap.objs.size)) _ _ { s with heap := s.heap.push (seqObj "list" #[] 0) }
  unfold Builtin.List.listExtendWith
  have ho' : (s.heap.push (seqObj "list" #[] 0)).get? l = some o := Heap.get?_push_of_some _ ho
  refine wpAny_bind (wpAny_typeOf (T := "tuple") ⟨o, ho', hc⟩ ?_)
  have ht : (Value.type "tuple" == Value.type "tuple") = true := by rfl
  rw [if_pos (by rw [ht]; simp)]
  refine wpAny_bind (listItems_at ho' hd ?_)
  refine wpAny_bind (listItems_at (xs := #[]) (n := 0) (Heap.get?_push_size _ rfl) rfl ?_)
  rw [if_neg (by simp)]
  refine wpAny_bind (listUpdate_at (xs := #[]) (n := 0) (Heap.get?_push_size _ rfl) rfl ?_ (Nat.zero_le _) (by show (#[] ++ vs.toArray).size ≤ sizeLine + 1; simp only [Array.size_append, List.size_toArray, List.length_nil]; omega))
  refine wpAny_pure ?_
  show wpAny (model prog w) A (do
      let o ← load s.heap.objs.size
      match o.data with
      | .seq xs _ => pure xs.toList
      | _ => unsupported "internal:collect") Q E { s with heap := (s.heap.push (seqObj "list" #[] 0)).update s.heap.objs.size (Obj.mapSeq (· ++ vs.toArray)) }
  refine wpAny_bind (wpAny_load (get?_update_seq (Heap.get?_push_size _ rfl) _) ?_)
  show wpAny _ _ (pure ((#[] : Array Value) ++ vs.toArray).toList) Q E _
  rw [show ((#[] : Array Value) ++ vs.toArray).toList = vs by simp]
  exact wpAny_pure h
theorem sorted_of_sort_tup {l : Addr} {vs : List Value} {kw : List (Str × Value)} {Q : Value → Shared → Prop} (hl : PyProof.Rows.IsTup s.heap l vs.toArray) (hL : vs.length ≤ sizeLine) (ha1 : argsOk "sorted" ⟨[.ref l], kw⟩) (ha2 : ∀ x, argsOk "list.sort" ⟨[.ref x], kw⟩)
    (body : ∀ E' : Value → Shared → Prop, wpAny (model prog w) A.in1.in1 (Builtin.«list.sort» ⟨[.ref (s.heap.objs.size + 1)], kw⟩) (fun f s' => f = .done (.ret .none) ∧ Q (.ref (s.heap.objs.size + 1)) s') E' { s with heap := copyHeap s.heap vs }) :
    wpAny (model prog w) A (call (.builtin "sorted") [.ref l] kw) Q E s := by
  refine call_function_entry_kw kind_sorted plain_sorted entry_sorted ha1 ?_
  unfold Builtin.«sorted»
  refine wpAny_bind (m := checkCount "sorted" 1 1 _) (wpAny_pure ?_)
  refine wpAny_bind (collect_tup hl ?_ hL)
  refine wpAny_bind (wpAny_newList ?_ hL)
  have hsz : ((s.heap.push (seqObj "list" #[] 0)).update s.heap.objs.size (Obj.mapSeq (· ++ vs.toArray))).objs.size = s.heap.objs.size + 1 := by
    rw [Heap.size_update, size_push']
  show wpAny _ _ _ _ _ { s with heap := copyHeap s.heap vs }
  rw [hsz]
  refine wpAny_bind (wpAny_holding (wpAny_call_entry_kw slot_list_sort ⟨_, copyHeap_at s.heap vs, rfl⟩ entry_list_sort ?body (ha2 _)))
  case body =>
    show wpAny (model prog w) A.in1.in1 (Builtin.«list.sort» ⟨[.ref (s.heap.objs.size + 1)], kw⟩) _ _ _
    refine wpAny_mono (body _) (fun f s' hf => ?_) fun _ _ e => e
    obtain ⟨rfl, hq⟩ := hf
    exact ⟨_, rfl, wpAny_pure ⟨_, rfl, hq⟩⟩
theorem sorted_data_tup {β : Type} {vs : List Value} {bs : List β} {enc : β → PyData} {R : Value → β → Prop} {l : Addr} {Q : Value → Shared → Prop} (hl : PyProof.Rows.IsTup s.heap l vs.toArray) (e : EachIs R vs bs) (er : EachIs (fun v b => ∃ as, Reads s.heap v (enc b) as) vs bs) (hal : AllAlike (bs.map enc)) (hk : Sortable (bs.map enc)) (hL : bs.length ≤ sizeLine)
    (hu : ∀ b, b ∈ bs → A.units + 2 + (enc b).depth < cLine) (h : ∀ out, out.length = bs.length → EachIs R out (bs.mergeSort (dataLe false enc)) → Q (.ref (s.heap.objs.size + 1)) { s with heap := sortedAll s.heap vs (List.toArray out) }) :
    wpAny (model prog w) A (call (.builtin "sorted") [.ref l]) Q E s := by
  have er' : EachIs (fun v b => ∃ as, Reads (sortingHeap (copyHeap s.heap vs) (s.heap.objs.size + 1) vs) v (enc b) as) vs bs := er.mono fun _ _ ⟨as, r⟩ => ⟨as, PyProof.Rows.Reads.keeps (fun _ _ => sorting_copy_old) r⟩
  have S := SortsAt.data (prog := prog) (w := w) (A := A.in1.in1) (s := { s with heap := sortingHeap (copyHeap s.heap vs) (s.heap.objs.size + 1) vs }) (each_map (R := fun v d => ∃ as, Reads (sortingHeap (copyHeap s.heap vs) (s.heap.objs.size + 1) vs) v d as) enc er') hal hk (bound_map hu)
  have hLv : vs.length ≤ sizeLine := by rw [e.length]; exact hL
  exact sorted_of_sort_tup hl hLv (args_sorted1 _) (fun _ => args_list_sort _) fun _ => list_sort_vals (s := { s with heap := copyHeap s.heap vs }) (copyHeap_at s.heap vs) S hLv ⟨rfl, h _ (by rw [sortVals_length false rfl]; exact e.length) (sortVals_data false e er' hal)⟩
end
end PySem.W
namespace PD
open PySem PySem.Spec PyProof.Rows L2
section
variable {X : Cx}
theorem alikeB_all {ps : List PyData} (h : alikeB ps = true) : W.AlikeAll ps ∧ W.AllAlike ps := by
  unfold alikeB at h
  rw [List.all_eq_true] at h
  have h1 : ∀ x ∈ ps, ∀ y ∈ ps, W.alike x y = true := fun x hx y hy => by
    have q := h x hx
    rw [Bool.and_eq_true] at q
    exact List.all_eq_true.mp q.2 y hy
  refine ⟨⟨h1, fun x hx z => ?_⟩, h1⟩
  have q := h x hx
  rw [z] at q
  cases q
theorem sortB_all {ps : List PyData} (h : sortB ps = true) : W.Sortable ps := by
  unfold sortB at h
  rw [Bool.or_eq_true] at h
  rcases h with h | h
  · rw [List.all_eq_true] at h
    refine .inl fun d hd => ?_
    have q := h d hd
    unfold isTup1 at q
    split at q
    · exact ⟨_, _, rfl⟩
    · cases q
  · rw [List.all_eq_true] at h
    refine .inr fun d hd => ?_
    have q := h d hd
    unfold notTup at q
    split at q
    · cases q
    · cases q
    · rename_i n1 n2
      exact ⟨fun z => n1 z, fun xs z => n2 xs z⟩
theorem depthB_le {ps : List PyData} (h : depthB ps = true) : PyData.depthAll ps ≤ 40 := of_decide_eq_true h
/-- min (max) of a list of alike data: one of its items, that reads as it -/
def rBest (K : PySem.W.Frag) (best : PyData → List PyData → PyData) : List V → Hp → VK → Prop := fun vs H Q => ∃ (a : Addr) (ys : List V) (p : PyData) (ps : List PyData), vs = [.ref a] ∧ SqL K H a ys ∧ DpAll K H ys (p :: ps) ∧
  alikeB (p :: ps) = true ∧ depthB (p :: ps) = true ∧ PyData.plainAll (p :: ps) = true ∧ ∀ (i : Nat) (v : V), ys[i]? = some v → (p :: ps)[i]? = some (best p ps) → Q v H
theorem plain_of_all : ∀ {xs : List PyData} {x : PyData}, PyData.plainAll xs = true → x ∈ xs → x.plain = true
  | y :: ys, x, h, hx => by
    rw [PyData.plainAll, Bool.and_eq_true] at h
    rcases List.mem_cons.mp hx with rfl | hx
    · exact h.1
    · exact plain_of_all h.2 hx
theorem best_end {pins : List (Addr × Obj)} {σ : St} {H : Hp} {s : Shared} {ys : List V} {p : PyData} {ps : List PyData} {its : List Value} {as : List Addr} {Q : VK} {best : PyData}
    (I : Inv X pins σ H s) (rv : Vals ys its) (hr : ReadsAll s.heap its (p :: ps) as) (hp : PyData.plainAll (p :: ps) = true) (q : ∀ (i : Nat) (v : V), ys[i]? = some v → (p :: ps)[i]? = some best → Q v H)
    {i : Nat} {v : Value} {h' : Heap} {tk : Nat} {bs : List Addr} (hv : its.toArray[i]? = some v) (hb : Reads h' v best bs) (hk : ∀ b o, s.heap.get? b = some o → h'.get? b = some o) :
    EP X pins σ Q v { s with heap := h', toks := tk } := by
  have hv' : its[i]? = some v := by simpa using hv
  obtain ⟨hi, e⟩ := List.getElem?_eq_some_iff.mp hv'
  have hl := rv.length
  have hy : ys[i]? = some ys[i] := List.getElem?_eq_getElem (by omega)
  obtain ⟨u, hu, ru⟩ := rv.get hy
  have eu : u = v := Option.some.inj (hu.symm.trans hv')
  subst eu
  obtain ⟨cs, r, hlt, hmem, _⟩ := PySem.W.readsAll_at hr i u hv'
  have e1 := PySem.SeqAt.plain_unique _ _ _ _ _ (plain_of_all hp hmem) (PySem.W.reads_keeps hk r) hb
  refine ⟨ys[i], H, I.kept hk, ru, q i _ hy ?_⟩
  rw [← e1, List.getD_eq_getElem?_getD, List.getElem?_eq_getElem hlt]
  rfl
theorem cr_minD (hc : X.calm = true) (hu : X.A.units + 80 < cLine) : CallR X (.builtin "min") (rBest X.K W.minD) := by
  intro pins s σ H vs us Q I r h
  obtain ⟨a, ys, p, ps, rfl, hs, hd, ha, hz, hp, q⟩ := h
  obtain ⟨its, rv, hl, _⟩ := I.list hs
  rw [Vals.ref1 r]
  obtain ⟨as, hr⟩ := Dp.readsAll I (p :: ps) ys its hd rv
  have hz := depthB_le hz
  exact PySem.W.min_list_data (I.ok.hd hc) hl.isList hr (alikeB_all ha).1 (by omega) fun i v h' tk bs hv hb hk => best_end I rv hr hp q hv hb hk
theorem cr_maxD (hc : X.calm = true) (hu : X.A.units + 80 < cLine) : CallR X (.builtin "max") (rBest X.K W.maxD) := by
  intro pins s σ H vs us Q I r h
  obtain ⟨a, ys, p, ps, rfl, hs, hd, ha, hz, hp, q⟩ := h
  obtain ⟨its, rv, hl, _⟩ := I.list hs
  rw [Vals.ref1 r]
  obtain ⟨as, hr⟩ := Dp.readsAll I (p :: ps) ys its hd rv
  have hz := depthB_le hz
  exact PySem.W.max_list_data (I.ok.hd hc) hl.isList hr (alikeB_all ha).1 (by omega) fun i v h' tk bs hv hb hk => best_end I rv hr hp q hv hb hk
/-- sorted: the pairs of values and data in the data's order -/
def rSortD (K : PySem.W.Frag) : List V → Hp → VK → Prop := fun vs H Q => ∃ (a : Addr) (bs : List (V × D)) (ps : List PyData), vs = [.ref a] ∧ (SqL K H a (bs.map (·.1)) ∨ SqT K H a (bs.map (·.1))) ∧ D.pys (bs.map (·.2)) = some ps ∧ DpAll K H (bs.map (·.1)) ps ∧
  alikeB ps = true ∧ sortB ps = true ∧ depthB ps = true ∧ bs.length ≤ sizeLine ∧ ∀ q, H q = none → Q (.ref q) (upd H q (.lst ((bs.mergeSort (W.dataLe false fun b => b.2.pyD)).map (·.1))))
theorem each_vals : ∀ {us : List Value} {bs : List (V × D)}, Vals (bs.map (·.1)) us → W.EachIs (fun u (b : V × D) => RelV b.1 u) us bs
  | _, [], h => by
    cases h
    exact .nil
  | _, b :: bs, h => by
    rw [List.map_cons] at h
    cases h with
    | cons r t => exact .cons r (each_vals t)
theorem vals_each : ∀ {us : List Value} {bs : List (V × D)}, W.EachIs (fun u (b : V × D) => RelV b.1 u) us bs → Vals (bs.map (·.1)) us
  | _, _, .nil => .nil
  | _, _, .cons r t => .cons r (vals_each t)
theorem each_reads {h : Heap} : ∀ {us : List Value} {bs : List (V × D)} {as : List Addr}, ReadsAll h us (bs.map fun b => b.2.pyD) as → W.EachIs (fun u (b : V × D) => ∃ as, Reads h u b.2.pyD as) us bs
  | _, [], _, h => by
    cases h
    exact .nil
  | _, b :: bs, _, h => by
    rw [List.map_cons] at h
    cases h with
    | cons r t => exact .cons ⟨_, r⟩ (each_reads t)
theorem depth_mem {ps : List PyData} {x : PyData} (h : x ∈ ps) : x.depth ≤ PyData.depthAll ps := by
  induction ps with
  | nil => cases h
  | cons p ps ih =>
    simp only [PyData.depthAll]
    rcases List.mem_cons.mp h with rfl | h
    · exact Nat.le_max_left _ _
    · exact Nat.le_trans (ih h) (Nat.le_max_right _ _)
theorem cr_sortD (hu : X.A.units + 80 < cLine) : CallR X (.builtin "sorted") (rSortD X.K) := by
  intro pins s σ H vs us Q I r h
  obtain ⟨a, bs, ps, rfl, hs, hps, hd, ha, hso, hz, hlen, q⟩ := h
  have hz := depthB_le hz
  obtain ⟨eps, _⟩ := pys_get hps
  have em : ps = bs.map fun b => b.2.pyD := by
    rw [eps, List.map_map]
    rfl
  have key : ∀ its : List Value, Vals (bs.map (·.1)) its → ∀ out : List Value, out.length = bs.length → W.EachIs (fun u (b : V × D) => RelV b.1 u) out (bs.mergeSort (W.dataLe false fun b => b.2.pyD)) → EP X pins σ Q (.ref (s.heap.objs.size + 1)) { s with heap := PyProof.Rows.sortedAll s.heap its (List.toArray out) } := by
    intro its rv out ho he
    obtain ⟨ep, he'⟩ := PyProof.Rows.sortedAll_at s.heap its out.toArray
    have rv2 := vals_each he
    refine ⟨.ref _, upd H (s.heap.objs.size + 1) (.lst ((bs.mergeSort (W.dataLe false fun b => b.2.pyD)).map (·.1))), I.laid (t' := s.toks) (fun _ _ => PyProof.Rows.sortedAll_old) (Nat.le_succ _) ⟨?_, out, ep, rv2, he'⟩, rfl, q _ (I.hok.fresh (Nat.le_succ _))⟩
    rw [List.length_map, List.length_mergeSort]
    exact hlen
  have dep : ∀ b ∈ bs, X.A.units + 2 + b.2.pyD.depth < cLine := fun b hb => by
    have := depth_mem (ps := ps) (x := b.2.pyD) (by rw [em]; exact List.mem_map.mpr ⟨b, hb, rfl⟩)
    omega
  rcases hs with hs | hs
  · obtain ⟨its, rv, hl, _⟩ := I.list hs
    rw [Vals.ref1 r]
    obtain ⟨as, hr⟩ := Dp.readsAll I ps _ its hd rv
    rw [em] at hr ha hso
    exact PySem.W.sorted_data hl.isList (each_vals rv) (each_reads hr) (alikeB_all ha).2 (sortB_all hso) hlen dep (key its rv)
  · obtain ⟨its, rv, hl, _⟩ := I.tuple hs
    rw [Vals.ref1 r]
    obtain ⟨as, hr⟩ := Dp.readsAll I ps _ its hd rv
    rw [em] at hr ha hso
    exact PySem.W.sorted_data_tup hl (each_vals rv) (each_reads hr) (alikeB_all ha).2 (sortB_all hso) hlen dep (key its rv)
/-- l.count(x) over data -/
def rCountD (K : PySem.W.Frag) : V → List V → Hp → VK → Prop := fun x xs H Q => ∃ (a : Addr) (y : V) (d : PyData) (ds : List PyData), x = V.ref a ∧ xs = [y] ∧ Dp K H (V.ref a) (.list ds) ∧ Dp K H y d ∧
  SeqAt.shaped (.list ds) = true ∧ SeqAt.shaped d = true ∧ Q (.int ((ds.countP fun z => PyData.eqv z d : Nat) : Int)) H
theorem mt_countD (hu : X.A.units + 80 < cLine) : MtR X "list.count" (rCountD X.K) := by
  intro pins s σ H x xs v us Q I rx rxs h
  obtain ⟨a, y, d, ds, rfl, rfl, hl, hy, sl, sd, q⟩ := h
  cases rx
  cases rxs with
  | cons ry rt =>
    rename_i uy ut
    cases rt
    obtain ⟨cs, r1⟩ := Dp.reads I d y uy hy ry
    cases hl with
    | lst hs hda =>
      obtain ⟨its, rv, hpl, _⟩ := I.list hs
      obtain ⟨as, r2⟩ := Dp.readsAll I ds _ its hda rv
      have h1 := SeqAt.canLay_of_shaped sl
      have h2 := SeqAt.canLay_of_shaped sd
      have h3 := SeqAt.depth_of_shaped sd
      have h4 : min (PyData.depthAll ds) d.depth ≤ d.depth := Nat.min_le_right _ _
      refine PySem.SeqAt.count_list_data hpl.isList r2 r1 (PyData.plainAll_of_canLay0 ds (by simpa only [PyData.canLay0] using h1)) (PyData.plain_of_canLay0 d h2) (by omega) ?_
      exact ⟨.int _, H, I.tok _, ⟨_, rfl⟩, q⟩
end
end PD

set_option Elab.async false
set_option linter.all false
set_option maxRecDepth 100000
set_option maxHeartbeats 2000000
/-! P8: built-ins as expressions. -/
namespace PD
open PySem PySem.Spec PyProof.Rows L2
def biNm : BI → Str
  | .len => "len" | .abs => "abs" | .int => "int" | .max => "max" | .min => "min" | .sum => "sum" | .sorted => "sorted" | .any => "any" | .all => "all" | .list => "list" | .tuple => "tuple" | .repr => "repr"
def biV : BI → Value
  | .len => .builtin "len" | .abs => .builtin "abs" | .int => .type "int" | .max => .builtin "max" | .min => .builtin "min" | .sum => .builtin "sum" | .sorted => .builtin "sorted" | .any => .builtin "any" | .all => .builtin "all"
  | .list => .type "list" | .tuple => .type "tuple" | .repr => .builtin "repr"
def biFr : BI → Bool
  | .max => false
  | .min => false
  | _ => true
abbrev RV := List V → Hp → VK → Prop
def rNo : RV := fun _ _ _ => False
/-- sorted of a dict with int keys -/
def rSortDI : RV := fun xs H Q => ∃ (a : Addr) (kvs : List (Key × V)) (ks : List Int), xs = [.ref a] ∧ Rd H a (.dK kvs) ∧ kvs.map (·.1) = ks.map Sum.inl ∧ ks.length < 64 ∧ ∀ (ys : List Int) (p : Addr), ys.Perm ks → ys.Pairwise (· ≤ ·) → H p = none → Q (.ref p) (upd H p (.lst (ys.map V.int)))
theorem call_lenDK {X : Cx} : CallR X (.builtin "len") (fun xs H Q => ∃ a kvs, xs = [.ref a] ∧ H a = some (.dK kvs) ∧ Q (.int kvs.length) H) := by
  intro pins s σ H xs us Q I r ⟨a, kvs, e, hd, q⟩
  subst e
  obtain ⟨u, eu, ru⟩ := r.one
  subst eu
  obtain rfl : u = Value.ref a := ru
  exact d_len I (.inl hd) fun t s' I' => ⟨.int kvs.length, H, I', ⟨t, rfl⟩, q⟩
theorem perm_srt {ys ks : List Int} (p : ys.Perm ks) (s : ys.Pairwise (· ≤ ·)) : ys = sortI ks := by
  have tr : ∀ a b c : Int, decide (a ≤ b) = true → decide (b ≤ c) = true → decide (a ≤ c) = true := fun a b c h1 h2 => by
    rw [decide_eq_true_eq] at h1 h2 ⊢
    omega
  have to : ∀ a b : Int, (decide (a ≤ b) || decide (b ≤ a)) = true := fun a b => by
    rw [Bool.or_eq_true, decide_eq_true_eq, decide_eq_true_eq]
    omega
  have e := isrt_eq tr to ks
  have q := List.pairwise_mergeSort tr to ks
  have q2 := List.mergeSort_perm ks fun a b => decide (a ≤ b)
  unfold sortI
  rw [e]
  refine List.Perm.eq_of_pairwise (le := (· ≤ ·)) (fun a b _ _ h1 h2 => Int.le_antisymm h1 h2) s (q.imp fun h => of_decide_eq_true h) (p.trans q2.symm)
def rBi (K : PySem.W.Frag) : BI → RV
  | .len => fun xs H Q => (∃ p ys, xs = [.ref p] ∧ (SqL K H p ys ∨ SqT K H p ys) ∧ Q (.int ys.length) H) ∨ ∃ a kvs, xs = [.ref a] ∧ H a = some (.dK kvs) ∧ Q (.int kvs.length) H
  | .abs => fun xs H Q => ∃ i, xs = [.int i] ∧ Q (.int (if i < 0 then -i else i)) H
  | .int => fun xs H Q => (∃ i, xs = [.int i] ∧ Q (.int i) H) ∨ ∃ k, xs = [.bl k] ∧ Q (.int (if k then 1 else 0)) H
  | .max => fun xs H Q => (∃ i j, xs = [.int i, .int j] ∧ Q (.int (if j > i then j else i)) H) ∨ rBest K W.maxD xs H Q
  | .min => fun xs H Q => (∃ i j, xs = [.int i, .int j] ∧ Q (.int (if j < i then j else i)) H) ∨ rBest K W.minD xs H Q
  | .sum => rSum K
  | .sorted => fun xs H Q => rSortD K xs H Q ∨ rSortDI xs H Q
  | .any => rAny K
  | .all => rAll K
  | .list => fun xs H Q => ∃ p ys, xs = [.ref p] ∧ (SqL K H p ys ∨ SqT K H p ys) ∧ ∀ l, H l = none → Q (.ref l) (upd H l (.lst ys))
  | .tuple => fun xs H Q => ∃ p ys, xs = [.ref p] ∧ ((SqL K H p ys ∧ ∀ l, H l = none → Q (.ref l) (upd H l (.tup ys))) ∨ (SqT K H p ys ∧ Q (.ref p) H))
  | .repr => fun xs H Q => ∃ k, xs = [.bl k] ∧ Q (.str (if k then "True" else "False")) H
theorem rNo_ok {X : Cx} {f : Value} : CallR X f rNo := fun _ _ _ _ _ _ _ _ _ h => h.elim
theorem rBi_ok {X : Cx} (hc : X.calm = true) (hu : X.A.units + 80 < cLine) : ∀ b : BI, CallR X (biV b) (rBi X.K b)
  | .len => call_len_seq.or call_lenDK
  | .abs => call_abs
  | .int => call_int1
  | .max => (call_max2 hc).or (cr_maxD hc hu)
  | .min => (call_min2 hc).or (cr_minD hc hu)
  | .sum => cr_sum hc
  | .sorted => (cr_sortD hu).or (call_sortedDI hc)
  | .any => cr_any hc
  | .all => cr_all hc
  | .list => call_list_of
  | .tuple => call_tuple_of
  | .repr => call_repr_bl
theorem pe_bi {X : Cx} {b : BI} {r : RV} {p pos : Pos} {e : Expr} {es : List Expr} {t : TA} (hc : CallR X (biV b) r) (hg : Gl X (biNm b)) (hm : X.mg (biNm b) = none) (ha : PA X (e :: es) t)
    (he : starEach (e :: es) X.env = (false, eval e X.env) :: starEach es X.env) (hpl : (backTo pos (starEach es X.env)).any (·.1) = false) : PE X (.Call (.Name (biNm b) p) (e :: es) [] pos) (tCB r t) := by
  cases b with
  | len => exact pe_callB hc hg hm (by decide +kernel) ha (by decide) (by decide) he hpl
  | abs => exact pe_callB hc hg hm PyProof.Rows.boot_abs ha (by decide) (by decide) he hpl
  | int => exact pe_callTy hc hg hm PyProof.Rows.boot_int ha (by decide) (by decide) he hpl
  | max => exact pe_callB hc hg hm PyProof.Rows.boot_max ha (by decide) (by decide) he hpl
  | min => exact pe_callB hc hg hm PyProof.Rows.boot_min ha (by decide) (by decide) he hpl
  | sum => exact pe_callB hc hg hm PyProof.Rows.boot_sum ha (by decide) (by decide) he hpl
  | sorted => exact pe_callB hc hg hm PyProof.Rows.boot_sorted ha (by decide) (by decide) he hpl
  | any => exact pe_callB hc hg hm PyProof.Rows.boot_any ha (by decide) (by decide) he hpl
  | all => exact pe_callB hc hg hm PyProof.Rows.boot_all ha (by decide) (by decide) he hpl
  | list => exact pe_callTy hc hg hm PyProof.Rows.boot_list ha (by decide) (by decide) he hpl
  | tuple => exact pe_callTy hc hg hm PyProof.Rows.boot_tuple ha (by decide) (by decide) he hpl
  | repr => exact pe_callB hc hg hm (by decide +kernel) ha (by decide) (by decide) he hpl
section
variable {G : Cfg} {ha : Addr} {B : Addr → Prop} {H : Hp} {hs : HS} {Q : VK} {E : XK}
theorem WReps.one {d : D} {vs : List V} (h : WReps G ha B H [d] vs) : ∃ v, vs = [v] ∧ WRep G ha B H d v := by
  obtain ⟨v, r, rfl, h1, h2⟩ := h
  have h2 : r = [] := h2
  subst h2
  exact ⟨v, rfl, h1⟩
theorem WReps.two {d e : D} {vs : List V} (h : WReps G ha B H [d, e] vs) : ∃ v w, vs = [v, w] ∧ WRep G ha B H d v ∧ WRep G ha B H e w := by
  obtain ⟨v, r, rfl, h1, h2⟩ := h
  obtain ⟨w, rfl, h3⟩ := WReps.one h2
  exact ⟨v, w, rfl, h1, h3⟩
theorem Reps.ints : ∀ {ds : List D} {vs : List V} {ns : List Int}, Reps G ha B H ds vs → dInts ds = some ns → vs = ns.map V.int
  | [], vs, ns, r, e => by
    simp only [Reps] at r
    simp only [dInts, Option.some.injEq] at e
    subst r e
    rfl
  | .int i :: ds, vs, ns, r, e => by
    simp only [Reps] at r
    obtain ⟨v, us, rfl, r1, r2⟩ := r
    simp only [dInts, Option.map_eq_some_iff] at e
    obtain ⟨ms, e, rfl⟩ := e
    simp only [Rep] at r1
    rw [r1, Reps.ints r2 e]
    rfl
  | .non :: _, _, _, _, e => by simp [dInts] at e
  | .bl _ :: _, _, _, _, e => by simp [dInts] at e
  | .str _ :: _, _, _, _, e => by simp [dInts] at e
  | .tup _ :: _, _, _, _, e => by simp [dInts] at e
  | .lst _ :: _, _, _, _, e => by simp [dInts] at e
  | .dct _ _ :: _, _, _, _, e => by simp [dInts] at e
  | .fn _ :: _, _, _, _, e => by simp [dInts] at e
  | .hnd :: _, _, _, _, e => by simp [dInts] at e
theorem Reps.bls : ∀ {ds : List D} {vs : List V} {ns : List Bool}, Reps G ha B H ds vs → dBls ds = some ns → vs = ns.map V.bl
  | [], vs, ns, r, e => by
    simp only [Reps] at r
    simp only [dBls, Option.some.injEq] at e
    subst r e
    rfl
  | .bl i :: ds, vs, ns, r, e => by
    simp only [Reps] at r
    obtain ⟨v, us, rfl, r1, r2⟩ := r
    simp only [dBls, Option.map_eq_some_iff] at e
    obtain ⟨ms, e, rfl⟩ := e
    simp only [Rep] at r1
    rw [r1, Reps.bls r2 e]
    rfl
  | .non :: _, _, _, _, e => by simp [dBls] at e
  | .int _ :: _, _, _, _, e => by simp [dBls] at e
  | .str _ :: _, _, _, _, e => by simp [dBls] at e
  | .tup _ :: _, _, _, _, e => by simp [dBls] at e
  | .lst _ :: _, _, _, _, e => by simp [dBls] at e
  | .dct _ _ :: _, _, _, _, e => by simp [dBls] at e
  | .fn _ :: _, _, _, _, e => by simp [dBls] at e
  | .hnd :: _, _, _, _, e => by simp [dBls] at e
theorem pys_cons {x : D} {r : List D} {ps : List PyData} (h : D.pys (x :: r) = some ps) : ∃ p qs, ps = p :: qs ∧ x.py = some p ∧ D.pys r = some qs := by
  simp only [D.pys] at h
  split at h
  · rename_i p q e1 e2
    cases h
    exact ⟨p, q, rfl, e1, e2⟩
  · cases h
theorem pyD_of {x : D} {p : PyData} (h : x.py = some p) : x.pyD = p := by
  unfold D.pyD
  rw [h]
  rfl
/-- the least of the data is the least's data -/
theorem minD_pyD : ∀ (r : List D) (x : D), (minF x r).pyD = W.minD x.pyD (r.map D.pyD)
  | [], _ => rfl
  | y :: r, x => by
    unfold minF W.minD
    rw [List.foldl_cons, List.map_cons, List.foldl_cons]
    have ih := minD_pyD r (if W.dataLt y.pyD x.pyD then y else x)
    unfold minF W.minD at ih
    rw [ih]
    congr 1
    split <;> rfl
theorem maxD_pyD : ∀ (r : List D) (x : D), (maxF x r).pyD = W.maxD x.pyD (r.map D.pyD)
  | [], _ => rfl
  | y :: r, x => by
    unfold maxF W.maxD
    rw [List.foldl_cons, List.map_cons, List.foldl_cons]
    have ih := maxD_pyD r (if W.dataLt x.pyD y.pyD then y else x)
    unfold maxF W.maxD at ih
    rw [ih]
    congr 1
    split <;> rfl
theorem minF_mem : ∀ (r : List D) (x : D), minF x r ∈ x :: r
  | [], x => List.mem_cons_self
  | y :: r, x => by
    have ih := minF_mem r (if W.dataLt y.pyD x.pyD then y else x)
    unfold minF at ih ⊢
    rw [List.foldl_cons]
    rcases List.mem_cons.mp ih with h | h
    · rw [h]
      split <;> simp
    · exact List.mem_cons_of_mem _ (List.mem_cons_of_mem _ h)
theorem maxF_mem : ∀ (r : List D) (x : D), maxF x r ∈ x :: r
  | [], x => List.mem_cons_self
  | y :: r, x => by
    have ih := maxF_mem r (if W.dataLt x.pyD y.pyD then y else x)
    unfold maxF at ih ⊢
    rw [List.foldl_cons]
    rcases List.mem_cons.mp ih with h | h
    · rw [h]
      split <;> simp
    · exact List.mem_cons_of_mem _ (List.mem_cons_of_mem _ h)
theorem best_sem {best : PyData → List PyData → PyData} {bd : D → List D → D} {x : D} {r : List D} {ps : List PyData} {v : V} (hb : (bd x r).pyD = best x.pyD (r.map D.pyD)) (hm : bd x r ∈ x :: r) (e1 : D.pys (x :: r) = some ps) (e2 : alikeB ps = true) (e3 : depthB ps = true)
    (hh : Hnd G ha B H hs) (rx : WRep G ha B H (.lst (x :: r)) v) (p : EPost G .st ha B H Q E (.ok (bd x r) hs)) : rBest G.K best [v] H Q := by
  obtain ⟨a, vs, rfl, s, rv⟩ := rx.lst_
  obtain ⟨p0, qs, rfl, h1, h2⟩ := pys_cons e1
  obtain ⟨m1, m2⟩ := pys_get e1
  refine ⟨a, vs, p0, qs, rfl, .inl (.inl s), Reps.dp rv e1, e2, e3, pys_plain e1, fun i v hv he => ?_⟩
  obtain ⟨d, hd, rd⟩ := rv.get' hv
  have ed : d.pyD = best p0 qs := by
    rw [m1, List.getElem?_map, hd] at he
    exact Option.some.inj he
  have edb : d = bd x r := by
    have q1 := m2 d (List.mem_of_getElem? hd)
    have q2 := m2 _ hm
    rw [← ofPy_py q1, ← ofPy_py q2, ed, hb]
    rw [List.map_cons] at m1
    cases m1
    rfl
  subst edb
  exact p v H .refl hh rd
theorem minL_ok {xs : List D} {d : D} (h : minL xs = some d) : ∃ x r ps, xs = x :: r ∧ D.pys (x :: r) = some ps ∧ alikeB ps = true ∧ depthB ps = true ∧ d = minF x r := by
  unfold minL at h
  split at h
  · rename_i x r ps e
    split at h
    · rename_i c
      rw [Bool.and_eq_true] at c
      cases h
      exact ⟨x, r, ps, rfl, e, c.1, c.2, rfl⟩
    · cases h
  · cases h
theorem maxL_ok {xs : List D} {d : D} (h : maxL xs = some d) : ∃ x r ps, xs = x :: r ∧ D.pys (x :: r) = some ps ∧ alikeB ps = true ∧ depthB ps = true ∧ d = maxF x r := by
  unfold maxL at h
  split at h
  · rename_i x r ps e
    split at h
    · rename_i c
      rw [Bool.and_eq_true] at c
      cases h
      exact ⟨x, r, ps, rfl, e, c.1, c.2, rfl⟩
    · cases h
  · cases h
theorem Reps.zip1 : ∀ {ds : List D} {vs : List V}, Reps G ha B H ds vs → (vs.zip ds).map (·.1) = vs ∧ (vs.zip ds).map (·.2) = ds ∧ ∀ b ∈ vs.zip ds, Rep G ha B H b.2 b.1
  | [], vs, h => by
    simp only [Reps] at h
    subst h
    exact ⟨rfl, rfl, fun _ z => nomatch z⟩
  | d :: ds, vs, h => by
    simp only [Reps] at h
    obtain ⟨v, r, rfl, h1, h2⟩ := h
    obtain ⟨i1, i2, i3⟩ := Reps.zip1 h2
    refine ⟨by rw [List.zip_cons_cons, List.map_cons, i1], by rw [List.zip_cons_cons, List.map_cons, i2], fun b hb => ?_⟩
    rw [List.zip_cons_cons] at hb
    rcases List.mem_cons.mp hb with rfl | hb
    · exact h1
    · exact i3 b hb
theorem Reps.of_all : ∀ {bs : List (V × D)}, (∀ b ∈ bs, Rep G ha B H b.2 b.1) → Reps G ha B H (bs.map (·.2)) (bs.map (·.1))
  | [], _ => .nil
  | b :: bs, h => .cons (h b List.mem_cons_self) (Reps.of_all fun c hc => h c (List.mem_cons_of_mem _ hc))
theorem ef_st {d : D} (p : EPost G .st ha B H Q E (.ok d hs)) : EPost G .fr ha B H Q E (.ok d hs) := p.rel fun a v H' hs' k hh r => Fresh.rep r
theorem keys_ints : ∀ {kvs : List (Key × V)} {ns : List Int}, dInts (kvs.map fun p => kD p.1) = some ns → kvs.map (·.1) = ns.map Sum.inl
  | [], ns, h => by
    simp only [List.map_nil, dInts, Option.some.injEq] at h
    subst h
    rfl
  | (k, v) :: kvs, ns, h => by
    cases k with
    | inl i =>
      simp only [List.map_cons, kD, dInts, Option.map_eq_some_iff] at h
      obtain ⟨ms, h, rfl⟩ := h
      rw [List.map_cons, List.map_cons, keys_ints h]
    | inr x => simp only [List.map_cons, kD, dInts] at h; cases h
theorem bi_sem {b : BI} {ds : List D} {d : D} {vs : List V} (e : biD b ds = some d) (hh : Hnd G ha B H hs) (r : WReps G ha B H ds vs) (p : EPost G (if biFr b = true then .fr else .st) ha B H Q E (.ok d hs)) : rBi G.K b vs H Q := by
  unfold biD at e
  split at e
  · cases e
    obtain ⟨v, rfl, rv⟩ := r.one
    obtain ⟨a, us, rfl, s, ru⟩ := rv.lst_
    refine .inl ⟨a, us, rfl, .inl (.inl (.inl s)), ?_⟩
    rw [← ru.length]
    exact EPost.int p hh
  · cases e
    obtain ⟨v, rfl, rv⟩ := r.one
    obtain ⟨a, us, rfl, s, ru⟩ := rv.tup_
    refine .inl ⟨a, us, rfl, .inr s, ?_⟩
    rw [← ru.length]
    exact EPost.int p hh
  · cases e
    obtain ⟨v, rfl, rv⟩ := r.one
    exact ⟨_, by rw [rv.int_], EPost.int p hh⟩
  · cases e
    obtain ⟨v, rfl, rv⟩ := r.one
    exact .inl ⟨_, by rw [rv.int_], EPost.int p hh⟩
  · cases e
    obtain ⟨v, rfl, rv⟩ := r.one
    exact .inr ⟨_, by rw [rv.bl_], EPost.int p hh⟩
  · cases e
    obtain ⟨v, w, rfl, rv, rw_⟩ := r.two
    exact .inl ⟨_, _, by rw [rv.int_, rw_.int_], EPost.int (ef_st p) hh⟩
  · obtain ⟨v, rfl, rv⟩ := r.one
    obtain ⟨x, zs, ps, rfl, e1, e2, e3, rfl⟩ := maxL_ok e
    exact .inr (best_sem (maxD_pyD zs x) (maxF_mem zs x) e1 e2 e3 hh rv p)
  · cases e
    obtain ⟨v, w, rfl, rv, rw_⟩ := r.two
    exact .inl ⟨_, _, by rw [rv.int_, rw_.int_], EPost.int (ef_st p) hh⟩
  · obtain ⟨v, rfl, rv⟩ := r.one
    obtain ⟨x, zs, ps, rfl, e1, e2, e3, rfl⟩ := minL_ok e
    exact .inr (best_sem (minD_pyD zs x) (minF_mem zs x) e1 e2 e3 hh rv p)
  · rw [Option.map_eq_some_iff] at e
    obtain ⟨ns, e, rfl⟩ := e
    obtain ⟨v, rfl, rv⟩ := r.one
    obtain ⟨a, us, rfl, s, ru⟩ := rv.lst_
    have := ru.ints e
    subst this
    exact ⟨a, ns, rfl, .inl (.inl s), EPost.int p hh⟩
  · rw [Option.map_eq_some_iff] at e
    obtain ⟨ns, e, rfl⟩ := e
    obtain ⟨v, rfl, rv⟩ := r.one
    obtain ⟨a, us, rfl, s, ru⟩ := rv.lst_
    have := ru.bls e
    subst this
    exact ⟨a, ns, rfl, .inl (.inl s), EPost.bl p hh⟩
  · rw [Option.map_eq_some_iff] at e
    obtain ⟨ns, e, rfl⟩ := e
    obtain ⟨v, rfl, rv⟩ := r.one
    obtain ⟨a, us, rfl, s, ru⟩ := rv.lst_
    have := ru.bls e
    subst this
    exact ⟨a, ns, rfl, .inl (.inl s), EPost.bl p hh⟩
  · rename_i xs
    rw [Option.map_eq_some_iff] at e
    obtain ⟨ys, e, rfl⟩ := e
    obtain ⟨v, rfl, rv⟩ := r.one
    obtain ⟨a, us, rfl, s, ru⟩ := rv.lst_
    unfold sortL at e
    split at e
    · rename_i ps e1
      split at e
      · rename_i c
        rw [Bool.and_eq_true, Bool.and_eq_true, Bool.and_eq_true, decide_eq_true_eq] at c
        cases e
        rw [dataLe_srt] at p
        obtain ⟨z1, z2, z3⟩ := ru.zip1
        have hl := ru.length
        refine .inl ⟨a, us.zip xs, ps, rfl, by rw [z1]; exact .inl (.inl (.inl s)), by rw [z2]; exact e1, by rw [z1]; exact Reps.dp ru e1, c.1.1.1, c.1.1.2, c.1.2, ?_, ?_⟩
        · rw [List.length_zip, line_eq]
          omega
        · refine EPost.lst p hh ?_
          have m := Reps.of_all (G := G) (ha := ha) (B := B) (H := H) (bs := (us.zip xs).mergeSort (W.dataLe false fun b => b.2.pyD)) fun b hb => z3 b (List.mem_mergeSort.mp hb)
          rw [List.map_mergeSort (r := W.dataLe false fun b : V × D => b.2.pyD) (s := W.dataLe false D.pyD) (f := (·.2)) (fun a _ b _ => rfl), z2] at m
          exact m
      · cases e
    · cases e
  · rename_i xs
    rw [Option.map_eq_some_iff] at e
    obtain ⟨ys, e, rfl⟩ := e
    obtain ⟨v, rfl, rv⟩ := r.one
    obtain ⟨a, us, rfl, s, ru⟩ := rv.tup_
    unfold sortL at e
    split at e
    · rename_i ps e1
      split at e
      · rename_i c
        rw [Bool.and_eq_true, Bool.and_eq_true, Bool.and_eq_true, decide_eq_true_eq] at c
        cases e
        rw [dataLe_srt] at p
        obtain ⟨z1, z2, z3⟩ := ru.zip1
        have hl := ru.length
        refine .inl ⟨a, us.zip xs, ps, rfl, by rw [z1]; exact .inr s, by rw [z2]; exact e1, by rw [z1]; exact Reps.dp ru e1, c.1.1.1, c.1.1.2, c.1.2, ?_, ?_⟩
        · rw [List.length_zip, line_eq]
          omega
        · refine EPost.lst p hh ?_
          have m := Reps.of_all (G := G) (ha := ha) (B := B) (H := H) (bs := (us.zip xs).mergeSort (W.dataLe false fun b => b.2.pyD)) fun b hb => z3 b (List.mem_mergeSort.mp hb)
          rw [List.map_mergeSort (r := W.dataLe false fun b : V × D => b.2.pyD) (s := W.dataLe false D.pyD) (f := (·.2)) (fun a _ b _ => rfl), z2] at m
          exact m
      · cases e
    · cases e
  · rw [Option.bind_eq_some_iff] at e
    obtain ⟨ns, e1, e⟩ := e
    split at e
    · rename_i hl
      cases e
      obtain ⟨v, rfl, rv⟩ := r.one
      obtain ⟨a, kvs, rfl, s, ek, ru⟩ := rv.dK_
      subst ek
      refine .inr ⟨a, kvs, ns, rfl, .inl s, keys_ints e1, hl, fun ys q py sy nq => ?_⟩
      rw [perm_srt py sy]
      have rr : Reps G ha B H ((sortI ns).map D.int) ((sortI ns).map V.int) := by
        generalize sortI ns = zs
        induction zs with
        | nil => exact .nil
        | cons z zs ih => exact .cons (by simp only [Rep]) ih
      exact EPost.lst p hh rr q nq
    · cases e
  · cases e
    obtain ⟨v, rfl, rv⟩ := r.one
    obtain ⟨a, kvs, rfl, s, ek, ru⟩ := rv.dK_
    subst ek
    refine .inr ⟨a, kvs, rfl, s, ?_⟩
    have := EPost.int p hh
    rwa [List.length_map] at this
  · cases e
    obtain ⟨v, rfl, rv⟩ := r.one
    obtain ⟨a, us, rfl, s, ru⟩ := rv.lst_
    exact ⟨a, us, rfl, .inl (.inl (.inl s)), EPost.lst p hh ru⟩
  · cases e
    obtain ⟨v, rfl, rv⟩ := r.one
    obtain ⟨a, us, rfl, s, ru⟩ := rv.tup_
    exact ⟨a, us, rfl, .inr s, EPost.lst p hh ru⟩
  · cases e
    obtain ⟨v, rfl, rv⟩ := r.one
    obtain ⟨a, us, rfl, s, ru⟩ := rv.lst_
    exact ⟨a, us, rfl, .inl ⟨.inl (.inl s), EPost.tup p hh ru⟩⟩
  · cases e
    obtain ⟨v, rfl, rv⟩ := r.one
    obtain ⟨a, us, rfl, s, ru⟩ := rv.tup_
    refine ⟨a, us, rfl, .inr ⟨s, EPost.atom p hh ?_ rfl⟩⟩
    simp only [Rep]
    exact ⟨a, us, rfl, s, ru⟩
  · cases e
    obtain ⟨v, rfl, rv⟩ := r.one
    refine ⟨_, by rw [rv.bl_], EPost.atom p hh ?_ rfl⟩
    simp only [Rep]
  · cases e
end
section
variable {c : Ctx} {e a b : Expr} {f g k : PEnv → HS → Res D} {m : Md}
theorem XOk.mg0 {X : Cx} (st : Stat c.G) (hx : XOk c X) {y : Str} (h : c.G.fr.contains y = true) : X.mg y = none := by
  rw [hx.eM]
  exact st.fr y h
theorem es_bi {b : BI} {p pos : Pos} {es : List Expr} {fs : PEnv → HS → Res (List D)} (st : Stat c.G) (hc : c.calm = true) (hg : c.sc.names.lookup (biNm b) = some .globalImplicit) (hf : c.G.fr.contains (biNm b) = true)
    (h : AS true c (a :: es) fs) (hp : (a :: es).all plainE = true) : ES (if biFr b = true then .fr else .st) c (.Call (.Name (biNm b) p) (a :: es) [] pos) (fun ρ h => (fs ρ h).bind fun ds h => ofO (biD b ds) h) := by
  obtain ⟨t, p1, q1⟩ := h
  rw [List.all_cons, Bool.and_eq_true] at hp
  refine ⟨tCB (rBi c.G.K b) t, fun X hx => pe_bi (by rw [← hx.eK]; exact rBi_ok (hx.eC hc) hx.hu b) (hx.gl hg) (hx.mg0 st hf) (p1 X hx) (star_of hp.1) (nostar hp.2), fun ha B ρ hs σ H Q S p => ?_⟩
  refine q1 ha B ρ hs σ H _ S (RPost.first lifts_E p fun ds hs1 _ vs H1 k1 h1 r1 p' => ?_)
  obtain ⟨d, e, p'⟩ := ofO_ok p'
  exact bi_sem e h1 r1 p'
end
end PD

set_option Elab.async false
set_option linter.all false
set_option maxRecDepth 100000
set_option maxHeartbeats 2000000
/-! P9: ranges as lists, isinstance, a list's methods. -/
namespace PD
open PySem PySem.Spec PyProof.Rows L2
section
variable {c : Ctx} {e a b : Expr} {f g k : PEnv → HS → Res D} {m : Md}
theorem inR_ok {i : Int} (h : inR i = true) : -(2 ^ 62) ≤ i ∧ i < 2 ^ 62 := by
  unfold inR at h
  rw [Bool.and_eq_true, decide_eq_true_eq, decide_eq_true_eq] at h
  exact h
theorem reps_range {G : Cfg} {ha : Addr} {B : Addr → Prop} {H : Hp} (lo : Int) (n : Nat) : Reps G ha B H (rangeD lo n) ((List.range n).map fun i => V.int (lo + (i : Nat))) := by
  unfold rangeD
  generalize List.range n = l
  induction l with
  | nil => exact .nil
  | cons x r ih => exact .cons (by simp only [Rep]) ih
theorem rg_sem {m : Md} {t : Bool} {G : Cfg} {ha : Addr} {B : Addr → Prop} {H : Hp} {hs : HS} {Q : VK} {E : XK} {x y : D} {v w : V} (hh : Hnd G ha B H hs) (rx : WRep G ha B H x v) (ry : WRep G ha B H y w)
    (p : EPost G .fr ha B H Q E (ofO (rngD t x y) hs)) : ∃ i j, v = .int i ∧ w = .int j ∧ RgOk i j ∧ ∀ q, H q = none → Q (.ref q) (upd H q (if t then .tup (rgV i j) else .lst (rgV i j))) := by
  obtain ⟨d, e, p⟩ := ofO_ok p
  unfold rngD at e
  split at e
  · rename_i lo hi
    split at e
    · rename_i z
      cases e
      rw [Bool.and_eq_true, Bool.and_eq_true, decide_eq_true_eq] at z
      obtain ⟨z1, z2⟩ := inR_ok z.1.1
      obtain ⟨z3, z4⟩ := inR_ok z.1.2
      refine ⟨lo, hi, rx.int_, ry.int_, ⟨z1, z2, z3, z4, ?_⟩, ?_⟩
      · have := z.2
        unfold line at this
        omega
      · cases t with
        | false =>
          rw [if_neg Bool.false_ne_true] at p
          exact EPost.lst p hh (reps_range lo _)
        | true =>
          rw [if_pos rfl] at p
          exact EPost.tup p hh (reps_range lo _)
    · cases e
  · cases e
def rgNm (t : Bool) : Str := if t then "tuple" else "list"
theorem pe_rg {X : Cx} {t : Bool} {e : Expr} {te : St → Hp → (Int → Int → Hp → Prop) → Prop} {p pos : Pos} (hc : X.calm = true) (hg : Gl X (rgNm t)) (hm : X.mg (rgNm t) = none) (he : PRg X e te) (na : starEach [e] X.env = (false, eval e X.env) :: starEach [] X.env) :
    PE X (.Call (.Name (rgNm t) p) [e] [] pos) (fun σ H Q => te σ H fun i j H1 => RgOk i j ∧ ∀ q, H1 q = none → Q (.ref q) (upd H1 q (if t then .tup (rgV i j) else .lst (rgV i j)))) := by
  cases t with
  | false => exact pe_listRg hc hg hm he na
  | true => exact pe_tupRg hc hg hm he na
theorem es_rg2 {t : Bool} {p p2 pos pos2 : Pos} (st : Stat c.G) (hc : c.calm = true) (hg : c.sc.names.lookup (rgNm t) = some .globalImplicit) (hf : c.G.fr.contains (rgNm t) = true)
    (hg2 : c.sc.names.lookup ("range" : Str) = some .globalImplicit) (hf2 : c.G.fr.contains "range" = true) (h1 : ES .wk c a f) (h2 : ES .wk c b g) (hp : plainE a = true) (hq : plainE b = true) :
    ES .fr c (.Call (.Name (rgNm t) p) [.Call (.Name "range" p2) [a, b] [] pos2] [] pos) (fun ρ h => (f ρ h).bind fun x h => (g ρ h).bind fun y h => ofO (rngD t x y) h) := by
  obtain ⟨ta, p1, q1⟩ := h1
  obtain ⟨tb, p2', q2⟩ := h2
  refine ⟨_, fun X hx => pe_rg (hx.eC hc) (hx.gl hg) (hx.mg0 st hf) (prg_2 (hx.gl hg2) (hx.mg0 st hf2) (p1 X hx) (p2' X hx) (star_of hp) (star_of hq) (nostar (by rw [List.all_cons, hq]; rfl))) rfl, fun ha B ρ hs σ H Q S p => ?_⟩
  refine q1 ha B ρ hs σ H _ S (RPost.first lifts_E p fun x hs1 _ v H1 k1 h1 r1 p' => ?_)
  refine q2 ha B ρ hs1 σ H1 _ (S.ext k1 h1) (RPost.first lifts_E p' fun y hs2 _ w H2 k2 h2 r2 p3 => ?_)
  exact rg_sem (m := .fr) h2 (WRep.keep h2.hB k2 r1) r2 p3
theorem es_rg1 {t : Bool} {p p2 pos pos2 : Pos} (st : Stat c.G) (hc : c.calm = true) (hg : c.sc.names.lookup (rgNm t) = some .globalImplicit) (hf : c.G.fr.contains (rgNm t) = true)
    (hg2 : c.sc.names.lookup ("range" : Str) = some .globalImplicit) (hf2 : c.G.fr.contains "range" = true) (h2 : ES .wk c b g) (hq : plainE b = true) :
    ES .fr c (.Call (.Name (rgNm t) p) [.Call (.Name "range" p2) [b] [] pos2] [] pos) (fun ρ h => (Res.ok (D.int 0) h).bind fun x h => (g ρ h).bind fun y h => ofO (rngD t x y) h) := by
  obtain ⟨tb, p2', q2⟩ := h2
  refine ⟨_, fun X hx => pe_rg (hx.eC hc) (hx.gl hg) (hx.mg0 st hf) (prg_1 (hx.gl hg2) (hx.mg0 st hf2) (p2' X hx) (star_of hq)) rfl, fun ha B ρ hs σ H Q S p => ?_⟩
  refine q2 ha B ρ hs σ H _ S (RPost.first lifts_E p fun y hs2 _ w H2 k2 h2 r2 p3 => ?_)
  obtain ⟨i, j, e1, e2, ok, q⟩ := rg_sem (m := .fr) h2 (x := .int 0) (v := .int 0) (by simp only [WRep, Rep]) r2 p3
  cases e1
  exact ⟨j, e2, ok, q⟩

/-! ### isinstance -/
def tyS : Ty → String
  | .int => "int" | .bool => "bool" | .str => "str" | .tuple => "tuple" | .list => "list" | .dict => "dict"
def tyN : Ty → Str
  | .int => "int" | .bool => "bool" | .str => "str" | .tuple => "tuple" | .list => "list" | .dict => "dict"
theorem tyN_boot : ∀ t : Ty, bootBuiltins (tyN t) = some (.type (tyS t))
  | .int => by decide +kernel
  | .bool => by decide +kernel
  | .str => by decide +kernel
  | .tuple => by decide +kernel
  | .list => by decide +kernel
  | .dict => by decide +kernel
theorem pe_tyN {X : Cx} {t : Ty} {p : Pos} (hg : Gl X (tyN t)) (hm : X.mg (tyN t) = none) : PE X (.Name (tyN t) p) (tC (.ty (tyS t))) :=
  ⟨fun _ _ _ H _ I h => ld_blt I hg hm (tyN_boot t) ⟨.ty (tyS t), H, I, rfl, h⟩ (by cases t <;> decide) (by cases t <;> decide)⟩
def tyD : D → Option String
  | .non => some "NoneType" | .bl _ => some "bool" | .int _ => some "int" | .str _ => some "str" | .tup _ => some "tuple" | .lst _ => some "list" | .dct _ _ => some "dict" | .fn _ => none | .hnd => some "list"
def tyTab : List (String × Ty × Bool) := [("NoneType", .int, false), ("NoneType", .bool, false), ("NoneType", .str, false), ("NoneType", .tuple, false), ("NoneType", .list, false), ("NoneType", .dict, false),
  ("bool", .int, true), ("bool", .bool, true), ("bool", .str, false), ("bool", .tuple, false), ("bool", .list, false), ("bool", .dict, false),
  ("int", .int, true), ("int", .bool, false), ("int", .str, false), ("int", .tuple, false), ("int", .list, false), ("int", .dict, false),
  ("str", .int, false), ("str", .bool, false), ("str", .str, true), ("str", .tuple, false), ("str", .list, false), ("str", .dict, false),
  ("tuple", .int, false), ("tuple", .bool, false), ("tuple", .str, false), ("tuple", .tuple, true), ("tuple", .list, false), ("tuple", .dict, false),
  ("list", .int, false), ("list", .bool, false), ("list", .str, false), ("list", .tuple, false), ("list", .list, true), ("list", .dict, false),
  ("dict", .int, false), ("dict", .bool, false), ("dict", .str, false), ("dict", .tuple, false), ("dict", .list, false), ("dict", .dict, true)]
theorem tyTab_ok : ∀ x ∈ tyTab, kitB x.1 (tyS x.2.1) = some x.2.2 := by
  unfold tyTab
  simp only [List.forall_mem_cons]
  refine ⟨?_, ?_, ?_, ?_, ?_, ?_, ?_, ?_, ?_, ?_, ?_, ?_, ?_, ?_, ?_, ?_, ?_, ?_, ?_, ?_, ?_, ?_, ?_, ?_, ?_, ?_, ?_, ?_, ?_, ?_, ?_, ?_, ?_, ?_, ?_, ?_, ?_, ?_, ?_, ?_, ?_, ?_, fun _ z => nomatch z⟩ <;> decide +kernel
theorem isTy_tab {d : D} {t : Ty} {b : Bool} (h : isTy d t = some b) : ∃ T, tyD d = some T ∧ kitB T (tyS t) = some b := by
  have key : ∀ {T : String}, tyD d = some T → (T, t, b) ∈ tyTab → ∃ T, tyD d = some T ∧ kitB T (tyS t) = some b := fun {T} e hm => ⟨T, e, tyTab_ok _ hm⟩
  cases d <;> cases t <;> simp only [isTy, Option.some.injEq, reduceCtorEq] at h <;> first | (subst h; exact key rfl (by simp [tyTab])) | cases h
theorem tyD_X {G : Cfg} {ha : Addr} {B : Addr → Prop} {H : Hp} {hs : HS} {d : D} {v : V} {T : String} (e : tyD d = some T) (hh : Hnd G ha B H hs) (r : WRep G ha B H d v) : TyX G.K H v (.type T) := by
  cases d with
  | non => cases e; rw [r.non_]; exact .base .non
  | bl b => cases e; rw [r.bl_]; exact .base (.bl b)
  | int i => cases e; rw [r.int_]; exact .base (.int i)
  | str x => cases e; rw [r.str_]; exact .base (.str x)
  | tup ds =>
    cases e
    obtain ⟨a, vs, rfl, s, _⟩ := r.tup_
    rcases s with (s | ⟨o, s⟩) | ⟨o, its, n, s1, s2, _⟩
    · exact .base (.tup s)
    · exact .fTuple s
    · exact .kTuple s1 s2
  | lst ds =>
    cases e
    obtain ⟨a, vs, rfl, s, _⟩ := r.lst_
    exact .base (.lst s)
  | dct ks vs =>
    cases e
    simp only [WRep] at r
    obtain ⟨a, kvs, rfl, _, s, _⟩ := r
    exact .base (.dK s)
  | fn n => cases e
  | hnd =>
    cases e
    simp only [WRep, Rep] at r
    subst r
    obtain ⟨vs, s, _⟩ := hh.at_
    exact .base (.lst s)
theorem isTys_kit {K : PySem.W.Frag} {d : D} {T : String} (eT : tyD d = some T) : ∀ {ts : List Ty} {b : Bool}, isTys d ts = some b → PySem.W.kitAny K (.type T) (ts.map fun t => Value.type (tyS t)) = some b
  | [], b, h => by
    cases h
    exact kitAny_nil
  | t :: ts, b, h => by
    simp only [isTys] at h
    split at h
    · rename_i x y e1 e2
      cases h
      obtain ⟨T', e3, e4⟩ := isTy_tab e1
      rw [eT] at e3
      cases e3
      refine kitAny_cons (kit_ty e4) (fun hx => ?_) (fun hx => by rw [hx]; rfl)
      rw [hx]
      exact isTys_kit eT e2
    · cases h
theorem isTys_ty {d : D} : ∀ {ts : List Ty} {b : Bool}, isTys d ts = some b → ts ≠ [] → ∃ T, tyD d = some T
  | t :: ts, b, h, _ => by
    simp only [isTys] at h
    split at h
    · rename_i x y e1 e2
      obtain ⟨T, e, _⟩ := isTy_tab e1
      exact ⟨T, e⟩
    · cases h
theorem es_isi1 {t : Ty} {p p2 pos : Pos} (st : Stat c.G) (hg : c.sc.names.lookup ("isinstance" : Str) = some .globalImplicit) (hf : c.G.fr.contains "isinstance" = true) (hg2 : c.sc.names.lookup (tyN t) = some .globalImplicit) (hf2 : c.G.fr.contains (tyN t) = true)
    (h1 : ES .wk c a f) (hp : plainE a = true) : ES .fr c (.Call (.Name "isinstance" p) [a, .Name (tyN t) p2] [] pos) (fun ρ h => (f ρ h).bind fun x h => ofO ((isTys x [t]).map .bl) h) := by
  obtain ⟨ta, p1, q1⟩ := h1
  refine ⟨tCB (rIsi c.G.K) (tCons ta (tCons (tC (.ty (tyS t))) tNil)), fun X hx => pe_callB (by rw [← hx.eK]; exact call_isi) (hx.gl hg) (hx.mg0 st hf) PyProof.Rows.boot_isinstance (pa_cons (p1 X hx) (pa_cons (pe_tyN (hx.gl hg2) (hx.mg0 st hf2)) pa_nil rfl) (star_of hp)) (by decide) (by decide) (star_of hp) rfl, fun ha B ρ hs σ H Q S p => ?_⟩
  refine q1 ha B ρ hs σ H _ S (RPost.first lifts_E p fun x hs1 _ v H1 k1 h1 r1 p' => ?_)
  obtain ⟨d, e, p'⟩ := ofO_ok p'
  rw [Option.map_eq_some_iff] at e
  obtain ⟨k, e, rfl⟩ := e
  obtain ⟨T, eT⟩ := isTys_ty e (by simp)
  refine ⟨v, .ty (tyS t), .type T, .type (tyS t), k, rfl, .ty _, tyD_X eT h1 r1, ?_, EPost.bl p' h1⟩
  simp only [isTys] at e
  split at e
  · rename_i x y e1 e2
    cases e
    cases e2
    obtain ⟨T', e3, e4⟩ := isTy_tab e1
    rw [eT] at e3
    cases e3
    rw [Bool.or_false]
    exact kit_ty e4
  · cases e
def tyNs (ts : List (Ty × Pos)) : List Expr := ts.map fun t => .Name (tyN t.1) t.2
theorem pa_tyNs {X : Cx} : ∀ {ts : List (Ty × Pos)}, (∀ t ∈ ts, Gl X (tyN t.1) ∧ X.mg (tyN t.1) = none) → ∃ tt : TA, PA X (tyNs ts) tt ∧ ∀ σ H Q, Q (ts.map fun t => V.ty (tyS t.1)) H → tt σ H Q
  | [], _ => ⟨tNil, pa_nil, fun _ _ _ h => h⟩
  | t :: ts, h => by
    obtain ⟨tt, p, q⟩ := pa_tyNs (X := X) (ts := ts) fun u hu => h u (List.mem_cons_of_mem _ hu)
    obtain ⟨g1, g2⟩ := h t List.mem_cons_self
    exact ⟨tCons (tC (.ty (tyS t.1))) tt, pa_cons (pe_tyN g1 g2) p rfl, fun σ H Q z => q _ _ _ z⟩
def taTys (ts : List (Ty × Pos)) : TA := fun _ H Q => Q (ts.map fun t => V.ty (tyS t.1)) H
theorem pa_tys {X : Cx} {ts : List (Ty × Pos)} (h : ∀ t ∈ ts, Gl X (tyN t.1) ∧ X.mg (tyN t.1) = none) : PA X (tyNs ts) (taTys ts) := by
  obtain ⟨tt, p, q⟩ := pa_tyNs h
  exact ⟨fun pos pins s σ H Q I z => p.run pos pins s σ H Q I (q σ H Q z)⟩
theorem clsV_tys : ∀ (ts : List Ty), Paired ClsV (ts.map fun t => V.ty (tyS t)) (ts.map fun t => Value.type (tyS t))
  | [] => .nil
  | t :: ts => .cons (.ty _) (clsV_tys ts)
theorem es_isi {ts : List (Ty × Pos)} {j : Nat} {p p2 pos : Pos} (st : Stat c.G) (hg : c.sc.names.lookup ("isinstance" : Str) = some .globalImplicit) (hf : c.G.fr.contains "isinstance" = true)
    (hg2 : ∀ t ∈ ts, c.sc.names.lookup (tyN t.1) = some .globalImplicit ∧ c.G.fr.contains (tyN t.1) = true) (hne : ts ≠ []) (hl : ts.length ≤ line)
    (h1 : ES .wk c a f) (hp : plainE a = true) : ES .fr c (.Call (.Name "isinstance" p) [a, .Tuple (tyNs ts) j p2] [] pos) (fun ρ h => (f ρ h).bind fun x h => ofO ((isTys x (ts.map (·.1))).map .bl) h) := by
  obtain ⟨ta, p1, q1⟩ := h1
  refine ⟨tCB (rIsiT c.G.K) (tCons ta (tCons (tTup (taTys ts)) tNil)), fun X hx => pe_callB (by rw [← hx.eK]; exact call_isiT) (hx.gl hg) (hx.mg0 st hf) PyProof.Rows.boot_isinstance
    (pa_cons (p1 X hx) (pa_cons (pe_tup (pa_tys fun t ht => ⟨hx.gl (hg2 t ht).1, hx.mg0 st (hg2 t ht).2⟩)) pa_nil rfl) (star_of hp)) (by decide) (by decide) (star_of hp) rfl, fun ha B ρ hs σ H Q S p => ?_⟩
  refine q1 ha B ρ hs σ H _ S (RPost.first lifts_E p fun x hs1 _ v H1 k1 h1 r1 p' => ?_)
  obtain ⟨d, e, p'⟩ := ofO_ok p'
  rw [Option.map_eq_some_iff] at e
  obtain ⟨k, e, rfl⟩ := e
  obtain ⟨T, eT⟩ := isTys_ty e (by simpa using hne)
  refine ⟨by rw [line_eq, List.length_map]; exact hl, fun q n => ?_⟩
  refine ⟨v, q, ts.map fun t => V.ty (tyS t.1), .type T, (ts.map (·.1)).map fun t => Value.type (tyS t), k, rfl, upd_same, ?_, ?_, isTys_kit eT e, ?_⟩
  · have z := clsV_tys (ts.map (·.1))
    rw [List.map_map] at z
    exact z
  · exact tyD_X eT (h1.laid n) (WRep.keep h1.hB ((Keep.new n)) r1)
  · exact EPost.bl (RPost.base lifts_E p' (Keep.new n) (h1.laid n)) (h1.laid n)

/-! ### o.index(x), o.count(x) -/
def mtN : MT → Str
  | .index => "index" | .count => "count"
def mtI : MT → String
  | .index => "list.index" | .count => "list.count"
def rMt (K : PySem.W.Frag) : MT → V → List V → Hp → VK → Prop
  | .index => rIndexD K
  | .count => rCountD K
def plainB : Expr → Bool
  | .Call _ _ _ _ => false
  | _ => true
theorem base_of {o : Expr} {x : Str} {env : PySem.Env} {w : Sem Value} (h : plainB o = true) : attributeBase o x env w = w := by
  cases o <;> first | rfl | cases h
theorem few_of {pos : Pos} {env : PySem.Env} (hp : plainE b = true) : ((backTo pos (starEach [b] env)).all (fun x => !x.1) && (backToKw pos (keywordEach [] env)).all (fun x => x.1.isSome)
      && decide ([b].length + ([] : List Keyword).length + (if ([] : List Keyword).isEmpty then 0 else 1) < 30)) = true := by
  rw [star_of hp]
  rfl
theorem mt_sem {mt : MT} {G : Cfg} {ha : Addr} {B : Addr → Prop} {H : Hp} {hs : HS} {Q : VK} {E : XK} {x d : D} {ds : List D} {v : V} {vs : List V} (e : mtD mt x ds = some d) (hh : Hnd G ha B H hs) (rx : WRep G ha B H x v) (ry : WReps G ha B H ds vs)
    (p : EPost G .fr ha B H Q E (.ok d hs)) : tyV G.K "list" v H ∧ rMt G.K mt v vs H Q := by
  unfold mtD at e
  split at e
  · rename_i xs y
    rw [Option.map_eq_some_iff] at e
    obtain ⟨j, e, rfl⟩ := e
    obtain ⟨w, rfl, rw_⟩ := ry.one
    have dx := fun {ps : List PyData} (h : D.pys xs = some ps) => WRep.dp rx (p := .list ps) (by simp only [D.py, h]; rfl)
    obtain ⟨a, us, rfl, s, r⟩ := rx.lst_
    unfold idxD at e
    split at e
    · rename_i pd qs e1 e2
      split at e
      · rename_i z
        rw [Bool.and_eq_true] at z
        rw [List.findIdx?_eq_some_iff_getElem] at e
        obtain ⟨hj, h1, h2⟩ := e
        refine ⟨.inl ⟨rfl, us, .inl (.inl s)⟩, a, w, pd, qs, j, qs[j], rfl, rfl, dx e2, WRep.dp rw_ e1, z.2, z.1, List.getElem?_eq_getElem hj, h1, fun m z' hm hz => ?_, EPost.int p hh⟩
        obtain ⟨hm', ez⟩ := List.getElem?_eq_some_iff.mp hz
        have q := h2 m hm
        rw [ez] at q
        cases q2 : PyData.eqv z' pd with
        | false => rfl
        | true => exact absurd q2 q
      · cases e
    · cases e
  · rename_i xs y
    rw [Option.map_eq_some_iff] at e
    obtain ⟨j, e, rfl⟩ := e
    obtain ⟨w, rfl, rw_⟩ := ry.one
    have dx := fun {ps : List PyData} (h : D.pys xs = some ps) => WRep.dp rx (p := .list ps) (by simp only [D.py, h]; rfl)
    obtain ⟨a, us, rfl, s, r⟩ := rx.lst_
    unfold cntD at e
    split at e
    · rename_i pd qs e1 e2
      split at e
      · rename_i z
        rw [Bool.and_eq_true] at z
        cases e
        exact ⟨.inl ⟨rfl, us, .inl (.inl s)⟩, a, w, pd, qs, rfl, rfl, dx e2, WRep.dp rw_ e1, z.2, z.1, EPost.int p hh⟩
      · cases e
    · cases e
  · cases e
theorem pe_mt {X : Cx} {mt : MT} {r : V → List V → Hp → VK → Prop} {o : Expr} {to : TE} {t : TA} {apos pos : Pos} (hm : MtR X (mtI mt) r) (ho : PE X o to) (ha : PA X [b] t) (hb : plainB o = true) (hp : plainE b = true) (hl : (apos.endLine == pos.line) = true) :
    PE X (.Call (.Attribute o (mtN mt) apos) [b] [] pos) (tBM X.K "list" r to t) := by
  cases mt with
  | index => exact pe_bm PySem.F.plainAttrs_list PySem.F.slot_list_index PySem.F.type_list_index hm ho ha (base_of hb) (few_of hp) hl (star_of hp) rfl
  | count => exact pe_bm PySem.F.plainAttrs_list PySem.F.slot_list_count PySem.F.type_list_count hm ho ha (base_of hb) (few_of hp) hl (star_of hp) rfl
theorem es_mt {mt : MT} {apos pos : Pos} {fs : PEnv → HS → Res (List D)} (h1 : ES .wk c a f) (h2 : AS true c [b] fs) (hb : plainB a = true) (hp : plainE b = true) (hl : (apos.endLine == pos.line) = true) :
    ES .fr c (.Call (.Attribute a (mtN mt) apos) [b] [] pos) (fun ρ h => (f ρ h).bind fun x h => if isLst x then (fs ρ h).bind fun ds h => ofO (mtD mt x ds) h else .stuck) := by
  obtain ⟨ta, p1, q1⟩ := h1
  obtain ⟨t, p2, q2⟩ := h2
  refine ⟨tBM c.G.K "list" (rMt c.G.K mt) ta t, fun X hx => by
    have hr : MtR X (mtI mt) (rMt c.G.K mt) := by
      rw [← hx.eK]
      have hu := hx.hu
      cases mt with
      | index => exact mt_indexD (by omega)
      | count => exact mt_countD hu
    have z := pe_mt (apos := apos) (pos := pos) hr (p1 X hx) (p2 X hx) hb hp hl
    rw [hx.eK] at z
    exact z, fun ha B ρ hs σ H Q S p => ?_⟩
  refine q1 ha B ρ hs σ H _ S (RPost.first lifts_E p fun x hs1 _ v H1 k1 h1 r1 p' => ?_)
  have ex : ∃ xs, x = .lst xs := by
    cases x <;> first | exact ⟨_, rfl⟩ | exact (p' : False).elim
  obtain ⟨xs, rfl⟩ := ex
  rw [if_pos (show isLst (.lst xs) = true from rfl)] at p'
  refine ⟨?_, q2 ha B ρ hs1 σ H1 _ (S.ext k1 h1) (RPost.first lifts_E p' fun ds hs2 _ vs H2 k2 h2 r2 p3 => ?_)⟩
  · obtain ⟨q, us, rfl, s, _⟩ := (re_w r1).lst_
    exact .inl ⟨rfl, us, .inl (.inl s)⟩
  · obtain ⟨d, e, p3⟩ := ofO_ok p3
    exact (mt_sem e h2 (WRep.keep h2.hB k2 r1) r2 p3).2
end
end PD

set_option Elab.async false
set_option linter.all false
set_option maxRecDepth 100000
set_option maxHeartbeats 2000000
/-! PZ: zip of a tuple with a list, of a list with a tuple. -/
namespace PD
open PySem PySem.Spec PyProof.Rows L2
/-- a list (false) or a tuple (true) -/
def sqK (k : Bool) (K : PySem.W.Frag) (H : Hp) (a : Addr) (xs : List V) : Prop := match k with
  | false => SqL K H a xs
  | true => SqT K H a xs
def srcK (k : Bool) (h : Heap) (a : Addr) (its : Array Value) : Prop := match k with
  | false => h.IsList a its
  | true => h.IsTuple a its
def itrK (k : Bool) (h : Heap) (i a : Addr) (n : Nat) : Prop := match k with
  | false => h.IsListIter i a n
  | true => h.IsTupleIter i a n
section
variable {X : Cx} {pins : List (Addr × Obj)} {σ : L2.St} {H : Hp} {s : Shared} {a : Addr} {xs ys : List V}
theorem srcK_of {k : Bool} (I : Inv X pins σ H s) (h : sqK k X.K H a xs) : ∃ its : List Value, Vals xs its ∧ srcK k s.heap a its.toArray ∧ a < s.heap.objs.size := by
  cases k with
  | false =>
    obtain ⟨its, r, p, _⟩ := I.list h
    exact ⟨its, r, p.isList, p.lt⟩
  | true =>
    obtain ⟨its, r, p, _⟩ := I.tuple h
    have p : s.heap.IsTuple a its.toArray := p
    obtain ⟨o, ho, _⟩ := id p
    exact ⟨its, r, p, Heap.lt_size ho⟩
theorem sqK_inj {k : Bool} (I : Inv X pins σ H s) (h : sqK k X.K H a xs) (h' : sqK k X.K H a ys) : xs = ys := by
  cases k with
  | false => exact I.list_inj h h'
  | true => exact I.tuple_inj h h'
end
theorem drawK {prog : Program} {w : World} {A : Around} (hh : A.handled = none) (k : Bool) (it l : Addr) (hne : l ≠ it) (its : Array Value) :
    Draws prog w A it [it, l] its.size (fun i v => its[i]? = some v) (fun i h => itrK k h it l i ∧ srcK k h l its) := by
  cases k with
  | false => exact Draws.list hh it l hne its
  | true => exact Draws.tuple hh it l hne its
theorem itrK_at {k : Bool} {h h' : Heap} {i a : Addr} {n : Nat} (t : itrK k h i a n) (e : ∀ o, h.get? i = some o → h'.get? i = some o) : itrK k h' i a n := by
  cases k with
  | false => exact Heap.IsListIter.at t e
  | true => exact Heap.IsTupleIter.at t e
theorem itrK_obj {k : Bool} {h : Heap} {i a : Addr} {n : Nat} (t : itrK k h i a n) : ∃ o, h.get? i = some o ∧ ∀ v, o.data ≠ .cell v := by
  cases k with
  | false =>
    obtain ⟨o, e, _, d⟩ := id (t : h.IsListIter i a n)
    exact ⟨o, e, fun v q => by rw [d] at q; cases q⟩
  | true =>
    obtain ⟨o, e, _, d⟩ := id (t : h.IsTupleIter i a n)
    exact ⟨o, e, fun v q => by rw [d] at q; cases q⟩
/-- the two as they stand at each turn, their items in new pairs -/
def ItzK (k j : Bool) (K : PySem.W.Frag) (a b : Addr) : It :=
  ⟨fun i H => ∃ (xs ys : List V) (x y : V), sqK k K H a xs ∧ sqK j K H b ys ∧ xs[i]? = some x ∧ ys[i]? = some y,
    fun i H v H' => ∃ p x y, v = .ref p ∧ H p = none ∧ H' = upd H p (.tup [x, y]) ∧ (∀ xs, sqK k K H a xs → xs[i]? = some x) ∧ ∀ ys, sqK j K H b ys → ys[i]? = some y,
    fun i H => ∃ xs ys : List V, sqK k K H a xs ∧ sqK j K H b ys ∧ i ≤ xs.length ∧ i ≤ ys.length ∧ (xs.length ≤ i ∨ ys.length ≤ i)⟩
theorem sepK {z TI TO i1 i2 a b : Addr} (D : ZipApart z TI TO i1 i2 a b) : ZipSep2 z TI TO i1 i2 [i1, a] [i2, b] where
  TIz := D.TIz
  TOz := D.TOz
  TITO := D.TITO
  TIi1 := D.TIi1
  mem1 := by simp
  zf1 := by simp only [List.mem_cons, List.not_mem_nil, or_false, not_or]; exact ⟨D.i1z.symm, D.l1z.symm⟩
  Tf1 := by simp only [List.mem_cons, List.not_mem_nil, or_false, not_or]; exact ⟨D.TOi1, D.l1TO.symm⟩
  TIi2 := D.TIi2
  mem2 := by simp
  zf2 := by simp only [List.mem_cons, List.not_mem_nil, or_false, not_or]; exact ⟨D.i2z.symm, D.l2z.symm⟩
  Tf2 := by simp only [List.mem_cons, List.not_mem_nil, or_false, not_or]; exact ⟨D.TOi2, D.l2TO.symm⟩
  sep1_2 := by simp only [List.mem_cons, List.not_mem_nil, or_false, not_or]; exact ⟨D.i12, D.l2i1.symm⟩
  sep2_1 := by simp only [List.mem_cons, List.not_mem_nil, or_false, not_or]; exact ⟨D.i12.symm, D.l1i2.symm⟩
abbrev stz (k j : Bool) (a b z TI TO i1 i2 : Addr) : Nat → Heap → Prop := fun i h => (IsZip h z TI TO .none ∧ IsPair h TI (.ref i1) (.ref i2)) ∧ (∃ x y, IsPair h TO x y) ∧ (itrK k h i1 a i ∧ itrK j h i2 b i)
theorem five {c z TI TO i1 i2 : Addr} (h : c ∈ [z, TI, TO, i1, i2]) : c = z ∨ c = TI ∨ c = TO ∨ c = i1 ∨ c = i2 := by simpa using h
theorem turn_zipK {P : Program} {w : World} {K : PySem.W.Frag} {es : List Expr} {n0 : Nat} {tp : Pos} {k j : Bool} {a b z TI TO i1 i2 : Addr} (D : ZipApart z TI TO i1 i2 a b) :
    Turn P w K (.Tuple es n0 tp) (ItzK k j K a b) [z, TI, TO, i1, i2] z (stz k j a b z TI TO i1 i2) where
  mem := List.mem_cons_self
  obj := fun i h ⟨⟨t1, t2⟩, ⟨x, y, t3⟩, t4, t5⟩ c hc => by
    rcases five hc with rfl | rfl | rfl | rfl | rfl
    · exact ⟨_, t1, fun _ q => nomatch q⟩
    · exact ⟨_, t2, fun _ q => nomatch q⟩
    · exact ⟨_, t3, fun _ q => nomatch q⟩
    · exact itrK_obj t4
    · exact itrK_obj t5
  keep := fun i h h' ⟨⟨t1, t2⟩, ⟨x, y, t3⟩, t4, t5⟩ e => ⟨⟨e z (by simp) _ t1, e TI (by simp) _ t2⟩, ⟨x, y, e TO (by simp) _ t3⟩, itrK_at t4 (e i1 (by simp)), itrK_at t5 (e i2 (by simp))⟩
  item := by
    intro X hP hw hK hc i pins s σ H E I hf ⟨⟨t1, t2⟩, ⟨x0, y0, t3⟩, t4, t5⟩ ⟨xs, ys, x, y, q1, q2, g1, g2⟩
    subst hP hw hK
    obtain ⟨us, r1, p1, lt1⟩ := srcK_of I q1
    obtain ⟨vs, r2, p2, lt2⟩ := srcK_of I q2
    obtain ⟨u, e1, ru⟩ := r1.get g1
    obtain ⟨v, e2, rv⟩ := r2.get g2
    have lz : z < s.heap.objs.size := Heap.lt_size t1
    have n1 : i < us.toArray.size := by rw [List.size_toArray]; exact (List.getElem?_eq_some_iff.mp e1).1
    have n2 : i < vs.toArray.size := by rw [List.size_toArray]; exact (List.getElem?_eq_some_iff.mp e2).1
    have hh : X.A.in1.handled = none := I.ok.hd hc
    refine wpAny_pyNext_zipD2_item (sepK D) (drawK hh k i1 a D.l1i1 us.toArray) (drawK hh j i2 b D.l2i2 vs.toArray) t1 t2 t3 ⟨t4, p1⟩ ⟨t5, p2⟩ n1 n2 fun u' v' h' tk k1 k2 z1 z3 z4 z5 zp zs zk => ?_
    have eu : u' = u := by
      have f : us.toArray[i]? = some u := by simpa using e1
      rw [f] at k1
      exact (Option.some.inj k1).symm
    have ev : v' = v := by
      have f : vs.toArray[i]? = some v := by simpa using e2
      rw [f] at k2
      exact (Option.some.inj k2).symm
    subst eu ev
    refine ⟨_, rfl, wpAny_letOwnedTupleGo_zip (s := { s with heap := h', toks := tk }) z1 fun h2 z2 sb => ?_⟩
    have np : h2.get? s.heap.objs.size = some { cls := .type "tuple", data := .seq #[u', v'] } := (sb.2 _ (Nat.ne_of_gt lz)).trans zp
    have ok : ObjOk X.prog X.w (upd H s.heap.objs.size (.tup [x, y])) h2 s.heap.objs.size (.tup [x, y]) := ⟨by show 2 ≤ sizeLine; decide, [u', v'], .cons ru (.cons rv .nil), ⟨_, np, rfl, _, rfl⟩⟩
    have keep5 : ∀ (c : Addr) (ob : Obj), c ∉ [z, TI, TO, i1, i2] → s.heap.get? c = some ob → h2.get? c = some ob := fun c ob hn q => by
      simp only [List.mem_cons, List.not_mem_nil, or_false, not_or] at hn
      exact (sb.2 c hn.1).trans (zk c ob hn.1 hn.2.2.1 hn.2.2.2.1 hn.2.2.2.2 q)
    have I2 : Inv X pins σ (upd H s.heap.objs.size (.tup [x, y])) { s with heap := h2, toks := tk } := I.turnedNew (ch := [z, TI, TO, i1, i2]) keep5 hf (Nat.le_refl _) ok
    refine ⟨.ref s.heap.objs.size, _, I2, rfl, ⟨_, x, y, rfl, I.hok.fresh (Nat.le_refl _), rfl, fun l hl => by rw [sqK_inj I hl q1]; exact g1, fun l hl => by rw [sqK_inj I hl q2]; exact g2⟩, ⟨⟨z2, ?_⟩, ⟨u', v', ?_⟩, ?_, ?_⟩, fun c hm => ?_⟩
    · exact (sb.2 _ D.TIz).trans (zk _ _ D.TIz D.TITO D.TIi1 D.TIi2 t2)
    · exact (sb.2 _ D.TOz).trans z3
    · exact itrK_at z4.1 fun o q => (sb.2 _ D.i1z).trans q
    · exact itrK_at z5.1 fun o q => (sb.2 _ D.i2z).trans q
    · have lc : c < s.heap.objs.size := by
        rcases five hm with rfl | rfl | rfl | rfl | rfl
        · exact lz
        · exact Heap.lt_size t2
        · exact Heap.lt_size t3
        · obtain ⟨_, q, _⟩ := itrK_obj t4
          exact Heap.lt_size q
        · obtain ⟨_, q, _⟩ := itrK_obj t5
          exact Heap.lt_size q
      rw [upd_ne (Nat.ne_of_lt lc)]
      exact (hf c hm).1
  done := by
    intro X hP hw hK hc i pins s σ H E I hf ⟨⟨t1, t2⟩, ⟨x0, y0, t3⟩, t4, t5⟩ ⟨xs, ys, q1, q2, m1, m2, hend⟩
    subst hP hw hK
    obtain ⟨us, r1, p1, lt1⟩ := srcK_of I q1
    obtain ⟨vs, r2, p2, lt2⟩ := srcK_of I q2
    have l1 := r1.length
    have l2 := r2.length
    have hh : X.A.in1.handled = none := I.ok.hd hc
    refine wpAny_pyNext_zipD2_end (sepK D) (drawK hh k i1 a D.l1i1 us.toArray) (drawK hh j i2 b D.l2i2 vs.toArray) t1 t2 t3 ⟨t4, p1⟩ ⟨t5, p2⟩ (by rw [List.size_toArray]; omega) (by rw [List.size_toArray]; omega) (by rw [List.size_toArray, List.size_toArray]; omega) fun h' tk zk => ⟨rfl, ?_⟩
    exact I.turnedL (ch := [z, TI, TO, i1, i2]) (fun c ob hn q => by
      simp only [List.mem_cons, List.not_mem_nil, or_false, not_or] at hn
      exact zk c ob hn.1 hn.2.2.1 hn.2.2.2.1 hn.2.2.2.2 q) hf
  self := fun A i s Q E st h => wpAny_pyIter_zip st.1.1 h
/-! making one -/
def itoK (k : Bool) (l : Addr) : Obj := { cls := .type (if k then "tuple_iterator" else "list_iterator"), data := .fields #[.ref l, .int 0 0] }
theorem iterK {prog : Program} {w : World} {A : Around} {E : Value → Shared → Prop} {s : Shared} {k : Bool} {l : Addr} {its : Array Value} {Q : Value → Shared → Prop} (h : srcK k s.heap l its) (q : Q (.ref s.heap.objs.size) { s with heap := s.heap.push (itoK k l) }) :
    wpAny (model prog w) A (pyIter (.ref l)) Q E s := by
  cases k with
  | false => exact wpAny_pyIter_list h q
  | true => exact wpAny_pyIter_tuple h q
theorem srcK_push {k : Bool} {h : Heap} {l : Addr} {its : Array Value} (x : srcK k h l its) (o : Obj) : srcK k (h.push o) l its := by
  cases k with
  | false => exact Heap.IsList.push x o
  | true => exact Heap.IsTuple.push x o
def zh1 (k : Bool) (h : Heap) (l : Addr) : Heap := h.push (itoK k l)
def zh2 (k j : Bool) (h : Heap) (l m : Addr) : Heap := (zh1 k h l).push (itoK j m)
def zh3 (k j : Bool) (h : Heap) (l m : Addr) : Heap := (zh2 k j h l m).push { cls := .type "tuple", data := .seq #[.ref h.objs.size, .ref (zh1 k h l).objs.size] }
def zh4 (k j : Bool) (h : Heap) (l m : Addr) : Heap := (zh3 k j h l m).push { cls := .type "tuple", data := .seq #[.none, .none] }
def zh5 (k j : Bool) (h : Heap) (l m : Addr) : Heap := (zh4 k j h l m).push { cls := .type "zip", data := .fields #[.none, .bool false, .bool false, .ref (zh2 k j h l m).objs.size, .ref (zh3 k j h l m).objs.size] }
theorem meets_zipK (k j : Bool) (l m : Addr) (xs ys : Array Value) : Meets (Builtin.«zip.__new__» ⟨[.type "zip", .ref l, .ref m], []⟩) (fun _ R s => (srcK k s.heap l xs ∧ srcK j s.heap m ys) ∧ R (.ok (.ret (.ref (zh4 k j s.heap l m).objs.size))) { s with heap := zh5 k j s.heap l m }) :=
  .of_wp fun prog w A R s h => by
    obtain ⟨hp, g, d, tk, os⟩ := s
    obtain ⟨⟨q1, q2⟩, h⟩ := h
    have hsub := sub_zip
    have w1 : srcK k (Shared.heap ⟨hp, g, d, tk, os⟩) l xs := q1
    have w2 : srcK j (Shared.heap ⟨hp.push (itoK k l), g, d, tk, os⟩) m ys := srcK_push q2 _
    wp_walk using iterK w1, iterK w2
    exact ⟨_, rfl, h⟩
section
variable {prog : Program} {w : World} {A : Around} {E : Value → Shared → Prop} {s : Shared}
theorem itrK_new {k : Bool} {h : Heap} {i l : Addr} (e : h.get? i = some (itoK k l)) : itrK k h i l 0 := by
  cases k with
  | false => exact ⟨_, e, rfl, rfl⟩
  | true => exact ⟨_, e, rfl, rfl⟩
theorem itoK_live {k : Bool} {l : Addr} : (itoK k l).isFreed = false := rfl
theorem call_zipK {k j : Bool} {l m : Addr} {xs ys : Array Value} {Q : Value → Shared → Prop} (q1 : srcK k s.heap l xs) (q2 : srcK j s.heap m ys)
    (h : ∀ h', stz k j l m (s.heap.objs.size + 4) (s.heap.objs.size + 2) (s.heap.objs.size + 3) s.heap.objs.size (s.heap.objs.size + 1) 0 h' → (∀ c o, s.heap.get? c = some o → h'.get? c = some o) → Q (.ref (s.heap.objs.size + 4)) { s with heap := h' }) :
    wpAny (model prog w) A (call (.type "zip") [.ref l, .ref m]) Q E s := by
  refine callType_new F.called_zip (by decide) (F.typeCall_zip_2 _ _) (F.newCall_zip_2 _ _) (fun obj => F.args_object_init_3 obj _ _) F.entry_zip_new (meets_zipK k j l m xs ys) ⟨⟨q1, q2⟩, ?_⟩
  have n1 : (zh1 k s.heap l).objs.size = s.heap.objs.size + 1 := Heap.size_push ..
  have n2 : (zh2 k j s.heap l m).objs.size = s.heap.objs.size + 2 := (Heap.size_push ..).trans (by rw [n1])
  have n3 : (zh3 k j s.heap l m).objs.size = s.heap.objs.size + 3 := (Heap.size_push ..).trans (by rw [n2])
  have n4 : (zh4 k j s.heap l m).objs.size = s.heap.objs.size + 4 := (Heap.size_push ..).trans (by rw [n3])
  have up : ∀ c o, s.heap.get? c = some o → (zh5 k j s.heap l m).get? c = some o := fun c o x => Heap.get?_push_of_some _ (Heap.get?_push_of_some _ (Heap.get?_push_of_some _ (Heap.get?_push_of_some _ (Heap.get?_push_of_some _ x))))
  have g1 : (zh5 k j s.heap l m).get? s.heap.objs.size = some (itoK k l) := Heap.get?_push_of_some _ (Heap.get?_push_of_some _ (Heap.get?_push_of_some _ (Heap.get?_push_of_some _ (Heap.get?_push_size _ rfl))))
  have g2 : (zh5 k j s.heap l m).get? (zh1 k s.heap l).objs.size = some (itoK j m) := Heap.get?_push_of_some _ (Heap.get?_push_of_some _ (Heap.get?_push_of_some _ (Heap.get?_push_size _ rfl)))
  have g3 : (zh5 k j s.heap l m).get? (zh2 k j s.heap l m).objs.size = some { cls := .type "tuple", data := .seq #[.ref s.heap.objs.size, .ref (zh1 k s.heap l).objs.size] } := Heap.get?_push_of_some _ (Heap.get?_push_of_some _ (Heap.get?_push_size _ rfl))
  have g4 : (zh5 k j s.heap l m).get? (zh3 k j s.heap l m).objs.size = some { cls := .type "tuple", data := .seq #[.none, .none] } := Heap.get?_push_of_some _ (Heap.get?_push_size _ rfl)
  have g5 : (zh5 k j s.heap l m).get? (zh4 k j s.heap l m).objs.size = some { cls := .type "zip", data := .fields #[.none, .bool false, .bool false, .ref (zh2 k j s.heap l m).objs.size, .ref (zh3 k j s.heap l m).objs.size] } := Heap.get?_push_size _ rfl
  rw [n2, n3, n4] at g5
  rw [n1, n2] at g3
  rw [n3] at g4
  rw [n1] at g2
  show _ ∧ _
  rw [n4]
  exact ⟨⟨_, g5, rfl⟩, h _ ⟨⟨g5, g3⟩, ⟨_, _, g4⟩, itrK_new g1, itrK_new g2⟩ up⟩
end
/-- zip over two, each a list or a tuple -/
def iZipB (K : PySem.W.Frag) (ta : TA) : TI := fun σ H R => ta σ H fun vs H1 => ∃ a b xs ys k j, vs = [.ref a, .ref b] ∧ (sqK k K H1 a xs ∧ sqK j K H1 b ys) ∧ R (ItzK k j K a b) H1
theorem pi_zipB {X : Cx} {e e2 : Expr} {ta : TA} {p pos tpos : Pos} {elts : List Expr} {kk : Nat} (hg : Gl X "zip") (hm : X.mg "zip" = none) (ha : PA X [e, e2] ta)
    (hs : starEach [e, e2] X.env = (false, eval e X.env) :: starEach [e2] X.env) (hpl : (backTo pos (starEach [e2] X.env)).any (·.1) = false) : PI X (.Tuple elts kk tpos) (.Call (.Name "zip" p) [e, e2] [] pos) (iZipB X.K ta) := by
  refine ⟨fun pins s σ H R I h => ?_⟩
  refine Call_ (ld_blt I hg hm PyProof.Rows.boot_zip (PyProof.Rows.callWith_type1 (thn (ha.run pos pins s σ H _ I h) fun us s1 ⟨vs, H1, I1, r1, a, b, xs, ys, k, j, ev, ⟨w1, w2⟩, q⟩ => ?_) hs hpl))
  subst ev
  obtain ⟨u, v, eu, ru, rv⟩ : ∃ u v, us = [u, v] ∧ RelV (.ref a) u ∧ RelV (.ref b) v := by
    cases r1 with
    | cons r rr =>
      cases rr with
      | cons r' rr =>
        cases rr
        exact ⟨_, _, rfl, r, r'⟩
  obtain rfl : u = Value.ref a := ru
  obtain rfl : v = Value.ref b := rv
  subst eu
  obtain ⟨us, _, p1, l1⟩ := srcK_of I1 w1
  obtain ⟨vs, _, p2, l2⟩ := srcK_of I1 w2
  refine call_zipK p1 p2 fun h' st up => wpAny_pyIter_zip st.1.1 ?_
  have I2 : Inv X pins σ H1 { s1 with heap := h' } := I1.kept (t' := s1.toks) up
  refine ⟨_, [s1.heap.objs.size + 4, s1.heap.objs.size + 2, s1.heap.objs.size + 3, s1.heap.objs.size, s1.heap.objs.size + 1], _, _, H1, rfl, I2, turn_zipK (PySem.W.ktu_apart s1.heap.objs.size a b l1 l2), st, fun c hc => ?_, q⟩
  have hle : s1.heap.objs.size ≤ c := by
    rcases five hc with h | h | h | h | h <;> rw [h] <;> first | exact Nat.le_add_right _ _ | exact Nat.le_refl _
  exact I1.fpOk hle (I1.hok.fresh hle)
end PD

set_option Elab.async false
set_option linter.all false
set_option maxRecDepth 100000
set_option maxHeartbeats 2000000
/-! P10: targets, what is walked, comprehensions. -/
namespace PD
open PySem PySem.Spec PyProof.Rows L2 RZ
mutual
def itSl : IT → List Nat
  | .nm i => [i]
  | .tp ts => itsSl ts
def itsSl : ITs → List Nat
  | .nil => []
  | .cons t ts => itSl t ++ itsSl ts
end
/-- slots in ss have new values -/
structure Stored (R : D → V → Prop) (ss : List Nat) (ρ ρ' : PEnv) (σ σ' : St) : Prop where
  l1 : ρ'.length = ρ.length
  l2 : σ'.length = σ.length
  out : ∀ i, i ∉ ss → ρ'[i]? = ρ[i]? ∧ σ'[i]? = σ[i]?
  at_ : ∀ i, i ∈ ss → i < ρ.length → ∃ d v, ρ'[i]? = some (.val d) ∧ σ'[i]? = some (some v) ∧ R d v
theorem Stored.one {R : D → V → Prop} {ρ : PEnv} {σ : St} {i : Nat} {d : D} {v : V} (r : R d v) (hl : σ.length = ρ.length) : Stored R [i] ρ (ρ.set i (.val d)) σ (σ.set i (some v)) := by
  refine ⟨List.length_set, List.length_set, fun j hj => ?_, fun j hj hl' => ?_⟩
  · have hne : i ≠ j := fun e => hj (by rw [e]; exact List.mem_singleton_self _)
    exact ⟨List.getElem?_set_ne hne, List.getElem?_set_ne hne⟩
  · have e : j = i := List.mem_singleton.mp hj
    subst e
    exact ⟨d, v, List.getElem?_set_self hl', List.getElem?_set_self (by omega), r⟩
theorem Stored.trans {R : D → V → Prop} {s t : List Nat} {ρ ρ1 ρ2 : PEnv} {σ σ1 σ2 : St} (a : Stored R s ρ ρ1 σ σ1) (b : Stored R t ρ1 ρ2 σ1 σ2) : Stored R (s ++ t) ρ ρ2 σ σ2 := by
  refine ⟨b.l1.trans a.l1, b.l2.trans a.l2, fun i hi => ?_, fun i hi hl => ?_⟩
  · rw [List.mem_append, not_or] at hi
    obtain ⟨b1, b2⟩ := b.out i hi.2
    obtain ⟨a1, a2⟩ := a.out i hi.1
    exact ⟨b1.trans a1, b2.trans a2⟩
  · by_cases ht : i ∈ t
    · exact b.at_ i ht (by rw [a.l1]; exact hl)
    · have hs : i ∈ s := (List.mem_append.mp hi).resolve_right ht
      obtain ⟨d, v, e1, e2, r⟩ := a.at_ i hs hl
      obtain ⟨b1, b2⟩ := b.out i ht
      exact ⟨d, v, b1.trans e1, b2.trans e2, r⟩
theorem Stored.nil {R : D → V → Prop} {ρ : PEnv} {σ : St} : Stored R [] ρ ρ σ σ := ⟨rfl, rfl, fun _ _ => ⟨rfl, rfl⟩, fun _ h => nomatch h⟩
def GS (c : Ctx) (t : Expr) (it : IT) : Prop :=
  ∃ g : TG, (∀ X, XOk c X → PG X t g) ∧ ∀ ha B H d v σ ρ ρ' Q, Rep c.G ha B H d v → asgT it d ρ = some ρ' → σ.length = ρ.length → (∀ σ', Stored (Rep c.G ha B H) (itSl it) ρ ρ' σ σ' → Q σ' H) → g v σ H Q
def GSs (c : Ctx) (ts : List Expr) (its : ITs) : Prop :=
  ∃ g : TGs, (∀ X, XOk c X → PGs X ts g) ∧ ∀ ha B H ds vs σ ρ ρ' Q, Reps c.G ha B H ds vs → asgTs its ds ρ = some ρ' → σ.length = ρ.length → (∀ σ', Stored (Rep c.G ha B H) (itsSl its) ρ ρ' σ σ' → Q σ' H) → g vs σ H Q
section
variable {c : Ctx}
theorem gs_name {x : Str} {p : Pos} {i : Nat} (hN : c.N[i]? = some x) (hv : Loc c.sc x) (hs : c.sto x = true) : GS c (.Name x p) (.nm i) := by
  refine ⟨gName i, fun X hx => pg_name (by rw [hx.eN]; exact hx.nd) (by rw [hx.eN]; exact hN) (by rw [hx.eS]; exact hv) (by rw [hx.eS]; exact hx.fnl x hs), fun ha B H d v σ ρ ρ' Q r e hl q => ?_⟩
  simp only [asgT, Option.some.injEq] at e
  subst e
  exact q _ (.one r hl)
theorem gss_nil : GSs c [] .nil := by
  refine ⟨gNil, fun X hx => pgs_nil, fun ha B H ds vs σ ρ ρ' Q r e hl q => ?_⟩
  cases ds with
  | nil =>
    simp only [asgTs, Option.some.injEq] at e
    simp only [Reps] at r
    subst e
    exact ⟨r, q _ .nil⟩
  | cons d ds => simp only [asgTs] at e; cases e
theorem ase_of {t : Expr} {ts : List Expr} {env : PySem.Env} (h : plainE t = true) : assignEach (t :: ts) env = (false, assign t env) :: assignEach ts env := by
  cases t <;> first | rfl | cases h
theorem gss_cons {t : Expr} {ts : List Expr} {it : IT} {its : ITs} (h1 : GS c t it) (h2 : GSs c ts its) (hp : plainE t = true) : GSs c (t :: ts) (.cons it its) := by
  obtain ⟨g1, p1, q1⟩ := h1
  obtain ⟨g2, p2, q2⟩ := h2
  refine ⟨gCons g1 g2, fun X hx => pgs_cons (p1 X hx) (p2 X hx) (by rw [ase_of hp]; rfl), fun ha B H ds vs σ ρ ρ' Q r e hl q => ?_⟩
  cases ds with
  | nil => simp only [asgTs] at e; cases e
  | cons d ds =>
    simp only [asgTs, Option.bind_eq_some_iff] at e
    obtain ⟨ρ1, e1, e2⟩ := e
    simp only [Reps] at r
    obtain ⟨v, us, rfl, r1, r2⟩ := r
    refine ⟨v, us, rfl, q1 ha B H d v σ ρ ρ1 _ r1 e1 hl fun σ1 s1 => ?_⟩
    refine q2 ha B H ds us σ1 ρ1 ρ' _ r2 e2 (by rw [s1.l1, s1.l2]; exact hl) fun σ2 s2 => ?_
    exact q _ (s1.trans s2)
theorem ase_len {env : PySem.Env} : ∀ {ts : List Expr}, (assignEach ts env).length = ts.length
  | [] => rfl
  | t :: ts => by
    have ih := ase_len (env := env) (ts := ts)
    cases t <;> exact congrArg (· + 1) ih
theorem ase_star {env : PySem.Env} : ∀ {ts : List Expr}, ts.all plainE = true → (assignEach ts env).findIdx? (·.1) = none
  | [], _ => rfl
  | t :: ts, h => by
    rw [List.all_cons, Bool.and_eq_true] at h
    rw [ase_of h.1, List.findIdx?_cons]
    show Option.map _ _ = none
    rw [ase_star h.2]
    rfl
def itsLen : ITs → Nat
  | .nil => 0
  | .cons _ ts => itsLen ts + 1
theorem asgTs_len : ∀ {its : ITs} {ds : List D} {ρ ρ' : PEnv}, asgTs its ds ρ = some ρ' → ds.length = itsLen its
  | .nil, [], _, _, _ => rfl
  | .nil, _ :: _, _, _, e => by simp only [asgTs] at e; cases e
  | .cons _ _, [], _, _, e => by simp only [asgTs] at e; cases e
  | .cons t ts, d :: ds, ρ, ρ', e => by
    simp only [asgTs, Option.bind_eq_some_iff] at e
    obtain ⟨ρ1, _, e2⟩ := e
    rw [List.length_cons, asgTs_len e2]
    rfl
theorem gs_tup {ts : List Expr} {its : ITs} {j : Nat} {p : Pos} (hc : c.calm = true) (h : GSs c ts its) (hp : ts.all plainE = true) (hl : ts.length = itsLen its) : GS c (.Tuple ts j p) (.tp its) := by
  obtain ⟨g, p1, q1⟩ := h
  refine ⟨gTup c.G.K ts.length g, fun X hx => by rw [← hx.eK]; exact pg_tup (hx.eC hc) (p1 X hx) ase_len (ase_star hp), fun ha B H d v σ ρ ρ' Q r e hls q => ?_⟩
  simp only [asgT] at e
  split at e
  · rename_i xs
    obtain ⟨a, vs, rfl, s, rv⟩ := r.tup_
    refine ⟨a, vs, rfl, s, ?_, q1 ha B H _ vs σ ρ ρ' Q rv e hls fun σ' st => q σ' (by simp only [itSl]; exact st)⟩
    rw [← rv.length, asgTs_len e, hl]
  · cases e
theorem ESim.stored {G : Cfg} {ha : Addr} {B : Addr → Prop} {ρ ρ' : PEnv} {hs : HS} {σ σ' : St} {H : Hp} {ss : List Nat} (S : ESim G ha B ρ hs σ H) (t : Stored (Rep G ha B H) ss ρ ρ' σ σ') : ESim G ha B ρ' hs σ' H := by
  refine ⟨by rw [t.l2, t.l1]; exact S.len, fun i s e => ?_, S.hnd⟩
  by_cases hi : i ∈ ss
  · have hl : i < ρ.length := by
      rw [← t.l1]
      exact (List.getElem?_eq_some_iff.mp e).1
    obtain ⟨d, v, e1, e2, r⟩ := t.at_ i hi hl
    rw [e1] at e
    cases e
    exact ⟨v, e2, r⟩
  · obtain ⟨e1, e2⟩ := t.out i hi
    rw [e1] at e
    rw [e2]
    exact S.at_ i s e
/-- a slot is forgotten -/
theorem ESim.no {G : Cfg} {ha : Addr} {B : Addr → Prop} {ρ : PEnv} {hs : HS} {σ : St} {H : Hp} (S : ESim G ha B ρ hs σ H) (i : Nat) (o : Option V) : ESim G ha B (ρ.set i .no) hs (σ.set i o) H := by
  refine ⟨by rw [List.length_set, List.length_set]; exact S.len, fun j s e => ?_, S.hnd⟩
  by_cases h : i = j
  · subst h
    have hl : i < ρ.length := by
      have z := (List.getElem?_eq_some_iff.mp e).1
      rwa [List.length_set] at z
    rw [List.getElem?_set_self hl] at e
    cases e
    trivial
  · rw [List.getElem?_set_ne h] at e ⊢
    exact S.at_ j s e
theorem ESim.wipe {G : Cfg} {ha : Addr} {B : Addr → Prop} {ρ : PEnv} {hs : HS} {σ : St} {H : Hp} (S : ESim G ha B ρ hs σ H) : ∀ vs : List Nat, ESim G ha B (wipeP ρ vs) hs (wipe σ vs) H
  | [] => S
  | v :: vs => (ESim.wipe S vs).no v none
theorem wipe_at (σ : St) (i : Nat) : ∀ vs : List Nat, (i ∉ vs → (wipe σ vs)[i]? = σ[i]?) ∧ (i ∈ vs → i < σ.length → (wipe σ vs)[i]? = some none)
  | [] => ⟨fun _ => rfl, fun h => nomatch h⟩
  | v :: vs => by
    obtain ⟨i1, i2⟩ := wipe_at σ i vs
    show (_ → ((wipe σ vs).set v none)[i]? = _) ∧ (_ → _ → ((wipe σ vs).set v none)[i]? = _)
    by_cases h : v = i
    · subst h
      refine ⟨fun n => absurd List.mem_cons_self n, fun _ hl => ?_⟩
      rw [List.getElem?_set_self (by rw [wipe_length]; exact hl)]
    · rw [List.getElem?_set_ne h]
      refine ⟨fun n => i1 fun z => n (List.mem_cons_of_mem _ z), fun m hl => i2 ?_ hl⟩
      rcases List.mem_cons.mp m with z | z
      · exact absurd z.symm h
      · exact z
theorem wipe_same {σ σ' : St} {vs : List Nat} (hl : σ'.length = σ.length) (h : ∀ i, i ∉ vs → σ'[i]? = σ[i]?) : wipe σ' vs = wipe σ vs := by
  refine List.ext_getElem? fun i => ?_
  by_cases hi : i ∈ vs
  · by_cases hlt : i < σ.length
    · rw [(wipe_at σ i vs).2 hi hlt, (wipe_at σ' i vs).2 hi (by omega)]
    · rw [List.getElem?_eq_none (by rw [wipe_length]; omega), List.getElem?_eq_none (by rw [wipe_length]; omega)]
  · rw [(wipe_at σ i vs).1 hi, (wipe_at σ' i vs).1 hi, h i hi]
theorem wipe_twice {σ : St} {vs : List Nat} : wipe (wipe σ vs) vs = wipe σ vs := wipe_same (wipe_length _ _) fun i hi => (wipe_at σ i vs).1 hi

/-! ### what is walked -/
def BOk (ha : Addr) (B B' : Addr → Prop) (H1 : Hp) : Prop := B' ha ∧ ∀ b, B' b → B b ∨ FreshAt H1 b
def KS (wk : Bool) (ha : Addr) (B' : Addr → Prop) : Addr → Prop := if wk = true then fun b => b = ha else B'
def Std (wk : Bool) (ha : Addr) (B : Addr → Prop) (H1 H : Hp) : Prop := ∃ B', BOk ha B B' H1 ∧ Keep (KS wk ha B') H1 H
def YW (G : Cfg) (wk : Bool) (ha : Addr) (B : Addr → Prop) (H1 : Hp) (its : List D) : Nat → Hp → V → Hp → Prop := fun i H x H' => Same H H' ∧ ∃ d, its[i]? = some d ∧ ∀ B', BOk ha B B' H1 → Keep (KS wk ha B') H1 H → Rep G ha B' H' d x
def RW (G : Cfg) (wk : Bool) (ha : Addr) (B : Addr → Prop) : Rl (List D) It := fun _ its J _ H1 => Walk J its.length (Std wk ha B H1) (YW G wk ha B H1 its)
theorem lifts_W {G : Cfg} {wk : Bool} {ha : Addr} {B : Addr → Prop} : Lifts G ha B (RW G wk ha B) := fun _ _ _ _ _ _ _ _ _ h => h
def WS (c : Ctx) (tg iter : Expr) (wk : Bool) (f : PEnv → HS → Res (List D)) : Prop :=
  ∃ wi : TI, (∀ X, XOk c X → PI X tg iter wi) ∧ ∀ ha B ρ hs σ H (R : It → Hp → Prop), ESim c.G ha B ρ hs σ H → RPost c.G ha B H (RW c.G wk ha B) R c.E (f ρ hs) → wi σ H R
section
variable {G : Cfg} {ha : Addr} {B B' : Addr → Prop} {H H1 : Hp} {wk : Bool}
theorem KS.keepB (hb : B' ha) (k : Keep (KS wk ha B') H1 H) : Keep B' H1 H := by
  cases wk with
  | false => exact k
  | true =>
    refine k.imp fun b z => ?_
    have z : b = ha := z
    rw [z]
    exact hb
theorem items_std {ds : List D} {vs : List V} (r : Reps G ha B H1 ds vs) (b : BOk ha B B' H1) (k : Keep (KS wk ha B') H1 H) : Reps G ha B' H ds vs := Reps.keep (KS.keepB b.1 k) (Reps.chg b.2 r)
theorem Std.refl (hb : B ha) : Std wk ha B H1 H1 := ⟨B, ⟨hb, fun b z => .inl z⟩, .refl⟩
/-- a list that is walked, as it stands -/
theorem lst_std {H0 : Hp} {ds : List D} {v : V} {hs : HS} (hh : Hnd G ha B H1 hs) {hs0 : HS} (r : RepM G (mdOf wk) ha B H0 H1 (.lst ds) v hs0) : ∃ a vs, v = .ref a ∧ H1 a = some (.lst vs) ∧ Reps G ha B H1 ds vs ∧ ∀ H, Std wk ha B H1 H → H a = some (.lst vs) := by
  cases wk with
  | true =>
    have r : WRep G ha B H1 (.lst ds) v := r
    simp only [WRep] at r
    obtain ⟨a, vs, e, n, s, r⟩ := r
    refine ⟨a, vs, e, s, r, fun H st => ?_⟩
    obtain ⟨B', b, k⟩ := st
    exact k.at_ a _ n s nt_lst
  | false =>
    have r : Rep G ha B H1 (.lst ds) v := r
    simp only [Rep] at r
    obtain ⟨a, vs, e, n, s, r⟩ := r
    refine ⟨a, vs, e, s, r, fun H st => ?_⟩
    obtain ⟨B', b, k⟩ := st
    exact k.at_ a _ (fun z => (b.2 a z).elim n fun y => y _ s nt_lst) s nt_lst
theorem tup_std {H0 : Hp} {ds : List D} {v : V} {hs : HS} (hh : Hnd G ha B H1 hs) {hs0 : HS} (r : RepM G (mdOf wk) ha B H0 H1 (.tup ds) v hs0) : ∃ a vs, v = .ref a ∧ SqT G.K H1 a vs ∧ Reps G ha B H1 ds vs ∧ ∀ H, Std wk ha B H1 H → SqT G.K H a vs := by
  have r : Rep G ha B H1 (.tup ds) v := by cases wk <;> exact r
  obtain ⟨a, vs, e, s, r⟩ := r.tup_
  refine ⟨a, vs, e, s, r, fun H st => ?_⟩
  obtain ⟨B', b, k⟩ := st
  exact k.sqT s
theorem yw_at {ds : List D} {vs : List V} (r : Reps G ha B H1 ds vs) {i : Nat} {x : V} {H' : Hp} (y : YAt vs i H x H') : YW G wk ha B H1 ds i H x H' := by
  obtain ⟨rfl, e⟩ := y
  obtain ⟨d, hd, _⟩ := r.get' e
  refine ⟨fun _ _ z => z, d, hd, fun B' b k => ?_⟩
  obtain ⟨d', hd', r'⟩ := (items_std r b k).get' e
  rw [hd] at hd'
  cases hd'
  exact r'
end
theorem walk_l {G : Cfg} {ha : Addr} {B : Addr → Prop} {H0 H1 : Hp} {wk : Bool} {ds : List D} {v : V} {hs : HS} (hh : Hnd G ha B H1 hs) {hs0 : HS} (r : RepM G (mdOf wk) ha B H0 H1 (.lst ds) v hs0) :
    ∃ a, v = .ref a ∧ (∃ xs, SqL G.K H1 a xs) ∧ Walk (Itl G.K a) ds.length (Std wk ha B H1) (YW G wk ha B H1 ds) := by
  obtain ⟨a, vs, e, s, rs, st⟩ := lst_std hh r
  refine ⟨a, e, ⟨vs, .inl (.inl s)⟩, ?_⟩
  rw [rs.length]
  exact walk_list.mono (fun H z => .inl (.inl (st H z))) fun i H x H' _ _ y => yw_at rs y
theorem walk_t {G : Cfg} {ha : Addr} {B : Addr → Prop} {H0 H1 : Hp} {wk : Bool} {ds : List D} {v : V} {hs : HS} (hh : Hnd G ha B H1 hs) {hs0 : HS} (r : RepM G (mdOf wk) ha B H0 H1 (.tup ds) v hs0) :
    ∃ a, v = .ref a ∧ (∃ xs, SqT G.K H1 a xs) ∧ Walk (Itt G.K a) ds.length (Std wk ha B H1) (YW G wk ha B H1 ds) := by
  obtain ⟨a, vs, e, s, rs, st⟩ := tup_std hh r
  refine ⟨a, e, ⟨vs, s⟩, ?_⟩
  rw [rs.length]
  exact walk_tup.mono (fun H z => st H z) fun i H x H' _ _ y => yw_at rs y
def iSeq (K : PySem.W.Frag) (te : TE) : TI := fun σ H R => te σ H fun x H1 => ∃ a, x = .ref a ∧ (((∃ xs, SqL K H1 a xs) ∧ R (Itl K a) H1) ∨ ((∃ xs, SqT K H1 a xs) ∧ R (Itt K a) H1))
/-- a list or a tuple, walked -/
theorem pi_seq {X : Cx} {tg l : Expr} {te : TE} (hl : PE X l te) : PI X tg l (iSeq X.K te) := by
  refine ⟨fun pins s0 σ H R I z => thn (hl.run pins s0 σ H _ I z) fun u s1 ⟨y, H1, I1, ry, qy⟩ => ?_⟩
  obtain ⟨a, rfl, qy⟩ := qy
  cases ry
  have new : ∀ b o, s1.heap.get? b = some o → ∀ x : Obj, (s1.heap.push x).get? b = some o := fun b o e x => Heap.get?_push_of_some _ e
  have nf : ∀ b ∈ [s1.heap.objs.size], FpOk X pins H1 b := fun b hb => by
    obtain rfl : b = s1.heap.objs.size := List.mem_singleton.mp hb
    exact I1.fpOk (Nat.le_refl _) (I1.hok.fresh (Nat.le_refl _))
  rcases qy with ⟨⟨xs, hq⟩, q⟩ | ⟨⟨xs, hq⟩, q⟩
  · obtain ⟨us, ru, pu, hu⟩ := I1.list hq
    exact wpAny_pyIter_list pu.isList ⟨s1.heap.objs.size, [s1.heap.objs.size], _, _, H1, rfl, I1.kept (t' := s1.toks) (fun b o e => new b o e _), turn_list a _, ⟨_, Heap.get?_push_size _ rfl, rfl, rfl⟩, nf, q⟩
  · obtain ⟨us, ru, pu, hu⟩ := I1.tuple hq
    exact wpAny_pyIter_tuple (show s1.heap.IsTuple a us.toArray from pu) ⟨s1.heap.objs.size, [s1.heap.objs.size], _, _, H1, rfl, I1.kept (t' := s1.toks) (fun b o e => new b o e _), turn_tuple a _, ⟨_, Heap.get?_push_size _ rfl, rfl, rfl⟩, nf, q⟩
section
variable {tg a b : Expr} {f g : PEnv → HS → Res D} {wk : Bool}
theorem ws_val (h : ES (mdOf wk) c a f) : WS c tg a wk (fun ρ h => (f ρ h).bind fun x h => ofO (seqOf x) h) := by
  obtain ⟨ta, p1, q1⟩ := h
  refine ⟨iSeq c.G.K ta, fun X hx => by rw [← hx.eK]; exact pi_seq (p1 X hx), fun ha B ρ hs σ H R S p => ?_⟩
  refine q1 ha B ρ hs σ H _ S (RPost.first lifts_W p fun x hs1 _ v H1 k1 h1 r1 p' => ?_)
  obtain ⟨its, e, p'⟩ := ofO_ok p'
  cases x with
  | lst ds =>
    cases e
    obtain ⟨q, rfl, s, w⟩ := walk_l h1 r1
    exact ⟨q, rfl, .inl ⟨s, p' _ H1 .refl h1 w⟩⟩
  | tup ds =>
    cases e
    obtain ⟨q, rfl, s, w⟩ := walk_t h1 r1
    exact ⟨q, rfl, .inr ⟨s, p' _ H1 .refl h1 w⟩⟩
  | _ => cases e
theorem walk_r {G : Cfg} {ha : Addr} {B : Addr → Prop} {H1 : Hp} {lo : Int} {n : Nat} : Walk (Itr lo n) (rangeD lo n).length (Std wk ha B H1) (YW G wk ha B H1 (rangeD lo n)) := by
  have hl : (rangeD lo n).length = n := by
    unfold rangeD
    rw [List.length_map, List.length_range]
  rw [hl]
  refine walk_range.mono (fun _ _ => trivial) fun i H x H' hi _ y => ?_
  obtain ⟨rfl, rfl⟩ := y
  refine ⟨fun _ _ z => z, .int (lo + i), ?_, fun B' _ _ => by simp only [Rep]⟩
  unfold rangeD
  rw [List.getElem?_map, List.getElem?_range hi]
  rfl
theorem ws_rng1 {p pos : Pos} (st : Stat c.G) (hg : c.sc.names.lookup ("range" : Str) = some .globalImplicit) (hf : c.G.fr.contains ("range" : Str) = true) (h : ES .wk c a f) (hp : plainE a = true) :
    WS c tg (.Call (.Name "range" p) [a] [] pos) wk (fun ρ h => (f ρ h).bind fun x h => match x with
    | .int n => if inR n then .ok (rangeD 0 n.toNat) h else .stuck
    | _ => .stuck) := by
  obtain ⟨ta, p1, q1⟩ := h
  refine ⟨iRng1 (tCons ta tNil), fun X hx => pi_range1 (hx.gl hg) (hx.mg0 st hf) (pa_cons (p1 X hx) pa_nil (star_of hp)) (star_of hp), fun ha B ρ hs σ H R S p => ?_⟩
  refine q1 ha B ρ hs σ H _ S (RPost.first lifts_W p fun x hs1 _ v H1 k1 h1 r1 p' => ?_)
  cases x with
  | int n =>
    dsimp only at p'
    split at p'
    · rename_i z
      obtain ⟨z1, z2⟩ := inR_ok z
      exact ⟨n, by rw [(re_w r1).int_], z1, z2, p' _ H1 .refl h1 walk_r⟩
    · exact p'.elim
  | _ => exact (p' : False).elim
theorem ws_rng2 {p pos : Pos} (st : Stat c.G) (hg : c.sc.names.lookup ("range" : Str) = some .globalImplicit) (hf : c.G.fr.contains ("range" : Str) = true) (h : ES .wk c a f) (h2 : ES .wk c b g) (hp : plainE a = true) (hq : plainE b = true) :
    WS c tg (.Call (.Name "range" p) [a, b] [] pos) wk (fun ρ h => (f ρ h).bind fun x h => (g ρ h).bind fun y h => match x, y with
    | .int lo, .int hi => if inR lo && inR hi then .ok (rangeD lo (hi - lo).toNat) h else .stuck
    | _, _ => .stuck) := by
  obtain ⟨ta, p1, q1⟩ := h
  obtain ⟨tb, p2, q2⟩ := h2
  refine ⟨iRng2 (tCons ta (tCons tb tNil)), fun X hx => pi_range2 (hx.gl hg) (hx.mg0 st hf) (pa_cons (p1 X hx) (pa_cons (p2 X hx) pa_nil (star_of hq)) (star_of hp)) (by rw [star_of hp, star_of hq]; rfl) (star_of hq), fun ha B ρ hs σ H R S p => ?_⟩
  refine q1 ha B ρ hs σ H _ S (RPost.first lifts_W p fun x hs1 _ v H1 k1 h1 r1 p' => ?_)
  refine q2 ha B ρ hs1 σ H1 _ (S.ext k1 h1) (RPost.first lifts_W p' fun y hs2 _ w H2 k2 h2 r2 p3 => ?_)
  have rx := WRep.keep h2.hB k2 r1
  have ry := re_w r2
  cases x with
  | int lo =>
    cases y with
    | int hi =>
      dsimp only at p3
      split at p3
      · rename_i z
        rw [Bool.and_eq_true] at z
        obtain ⟨z1, z2⟩ := inR_ok z.1
        obtain ⟨z3, z4⟩ := inR_ok z.2
        exact ⟨lo, hi, by rw [rx.int_, ry.int_], ⟨z1, z2, z3, z4⟩, p3 _ H2 .refl h2 walk_r⟩
      · exact p3.elim
    | _ => exact (p3 : False).elim
  | _ => exact (p3 : False).elim
/-- new pairs -/
theorem yw_pair {G : Cfg} {ha : Addr} {B : Addr → Prop} {H1 : Hp} {fx fy : Nat → Option V} {dx dy : Nat → Option D} {its : List D} {i : Nat} {H H' : Hp} {v : V} (y : YPair fx fy i H v H')
    (hi : ∀ x y, fx i = some x → fy i = some y → ∃ d e, its[i]? = some (.tup [d, e]) ∧ ∀ B', BOk ha B B' H1 → Keep (KS wk ha B') H1 H → Rep G ha B' H d x ∧ Rep G ha B' H e y) : YW G wk ha B H1 its i H v H' := by
  obtain ⟨T, x, y, rfl, n, rfl, e1, e2⟩ := y
  obtain ⟨d, e, hd, r⟩ := hi x y e1 e2
  refine ⟨same_new n, _, hd, fun B' b k => ?_⟩
  obtain ⟨r1, r2⟩ := r B' b k
  exact rep_tup n (.cons r1 (.cons r2 .nil))
theorem get_pair {G : Cfg} {ha : Addr} {B : Addr → Prop} {H H1 : Hp} {ds : List D} {vs : List V} {i : Nat} {x : V} (r : Reps G ha B H1 ds vs) (e : vs[i]? = some x) : ∃ d, ds[i]? = some d ∧ ∀ B', BOk ha B B' H1 → Keep (KS wk ha B') H1 H → Rep G ha B' H d x := by
  obtain ⟨d, hd, _⟩ := r.get' e
  refine ⟨d, hd, fun B' b k => ?_⟩
  obtain ⟨d', hd', r'⟩ := (items_std r b k).get' e
  rw [hd] at hd'
  cases hd'
  exact r'
theorem zip_at {xs ys : List D} {i : Nat} {d e : D} (h1 : xs[i]? = some d) (h2 : ys[i]? = some e) : ((xs.zip ys).map fun p => D.tup [p.1, p.2])[i]? = some (.tup [d, e]) := by
  have z : (xs.zip ys)[i]? = some (d, e) := List.getElem?_zip_eq_some.mpr ⟨h1, h2⟩
  rw [List.getElem?_map, z]
  rfl
theorem walk_zipK {k j : Bool} {K : PySem.W.Frag} {a b : Addr} {xs ys : List V} {n : Nat} (hn : n = min xs.length ys.length) : Walk (ItzK k j K a b) n (fun H => sqK k K H a xs ∧ sqK j K H b ys) (YPair (fun i => xs[i]?) (fun i => ys[i]?)) where
  goes := fun i H hi q => ⟨xs, ys, xs[i]'(by omega), ys[i]'(by omega), q.1, q.2, List.getElem?_eq_getElem _, List.getElem?_eq_getElem _⟩
  stops := fun H q => ⟨xs, ys, q.1, q.2, by omega, by omega, by omega⟩
  yields := fun i H v H' _ q ⟨T, x, z, e1, e2, e3, e4, e5⟩ => ⟨T, x, z, e1, e2, e3, e4 xs q.1, e5 ys q.2⟩
/-- a list or a tuple, walked -/
theorem seq_std {H0 : Hp} {d : D} {ds : List D} (e : seqOf d = some ds) {v : V} {hs : HS} (hh : Hnd G ha B H1 hs) {hs0 : HS} (r : RepM G (mdOf wk) ha B H0 H1 d v hs0) : ∃ a vs k, v = .ref a ∧ sqK k G.K H1 a vs ∧ Reps G ha B H1 ds vs ∧ ∀ H, Std wk ha B H1 H → sqK k G.K H a vs := by
  cases d with
  | lst xs =>
    cases e
    obtain ⟨q, us, rfl, s, rs, sd⟩ := lst_std hh r
    exact ⟨q, us, false, rfl, .inl (.inl s), rs, fun H z => .inl (.inl (sd H z))⟩
  | tup xs =>
    cases e
    obtain ⟨q, us, rfl, s, rs, sd⟩ := tup_std hh r
    exact ⟨q, us, true, rfl, s, rs, fun H z => sd H z⟩
  | _ => cases e
theorem ws_zip {p pos tp : Pos} {elts : List Expr} {kk : Nat} (st : Stat c.G) (hg : c.sc.names.lookup ("zip" : Str) = some .globalImplicit) (hf : c.G.fr.contains ("zip" : Str) = true) (h : ES (mdOf wk) c a f) (h2 : ES (mdOf wk) c b g) (hp : plainE a = true) (hq : plainE b = true) :
    WS c (.Tuple elts kk tp) (.Call (.Name "zip" p) [a, b] [] pos) wk (fun ρ h => (f ρ h).bind fun x h => (g ρ h).bind fun y h => match x, y with
    | .lst xs, .lst ys => .ok ((xs.zip ys).map fun p => .tup [p.1, p.2]) h
    | .tup xs, .tup ys => .ok ((xs.zip ys).map fun p => .tup [p.1, p.2]) h
    | .tup xs, .lst ys => .ok ((xs.zip ys).map fun p => .tup [p.1, p.2]) h
    | .lst xs, .tup ys => .ok ((xs.zip ys).map fun p => .tup [p.1, p.2]) h
    | _, _ => .stuck) := by
  obtain ⟨ta, p1, q1⟩ := h
  obtain ⟨tb, p2, q2⟩ := h2
  refine ⟨iZipB c.G.K (tCons ta (tCons tb tNil)), fun X hx => by
    rw [← hx.eK]
    exact pi_zipB (hx.gl hg) (hx.mg0 st hf) (pa_cons (p1 X hx) (pa_cons (p2 X hx) pa_nil (star_of hq)) (star_of hp)) (star_of hp) (nostar (by rw [List.all_cons, hq]; rfl)), fun ha B ρ hs σ H R S p => ?_⟩
  refine q1 ha B ρ hs σ H _ S (RPost.first lifts_W p fun x hs1 _ v H1 k1 h1 r1 p' => ?_)
  refine q2 ha B ρ hs1 σ H1 _ (S.ext k1 h1) (RPost.first lifts_W p' fun y hs2 _ w H2 k2 h2 r2 p3 => ?_)
  have rx : RepM c.G (mdOf wk) ha B H2 H2 x v hs2 := by
    cases wk with
    | true => exact WRep.keep h2.hB k2 r1
    | false => exact Rep.keep (k2.imp fun b z => z ▸ h2.hB) r1
  obtain ⟨xs, ys, ex, ey, p4⟩ : ∃ xs ys, seqOf x = some xs ∧ seqOf y = some ys ∧ RPost c.G ha B H2 (RW c.G wk ha B) R c.E (.ok ((xs.zip ys).map fun p => .tup [p.1, p.2]) hs2) := by
    split at p3
    · exact ⟨_, _, rfl, rfl, p3⟩
    · exact ⟨_, _, rfl, rfl, p3⟩
    · exact ⟨_, _, rfl, rfl, p3⟩
    · exact ⟨_, _, rfl, rfl, p3⟩
    · exact (p3 : False).elim
  obtain ⟨q, us, k, rfl, s, rs, sd⟩ := seq_std ex h2 rx
  obtain ⟨q', us', j, rfl, s', rs', sd'⟩ := seq_std ey h2 r2
  refine ⟨q, q', us, us', k, j, rfl, ⟨s, s'⟩, p4 _ H2 .refl h2 ?_⟩
  refine (walk_zipK (n := ((xs.zip ys).map fun p => D.tup [p.1, p.2]).length) (by rw [List.length_map, List.length_zip, rs.length, rs'.length])).mono (fun H z => ⟨sd H z, sd' H z⟩) fun i H x H' _ _ y => ?_
  refine yw_pair (dx := fun _ => none) (dy := fun _ => none) y fun x y e1 e2 => ?_
  obtain ⟨d, hd, r1⟩ := get_pair (wk := wk) (H := H) rs e1
  obtain ⟨e, he, r2⟩ := get_pair (wk := wk) (H := H) rs' e2
  exact ⟨d, e, zip_at hd he, fun B' b k => ⟨r1 B' b k, r2 B' b k⟩⟩
theorem rangeN_len (lo : Int) (n : Nat) : (rangeN lo n).length = n := by
  unfold rangeN
  rw [List.length_map, List.length_range]
theorem walk_rn {G : Cfg} {ha : Addr} {B : Addr → Prop} {H1 : Hp} {lo : Int} {n : Nat} : Walk (Itc lo (-1) n) (rangeN lo n).length (Std wk ha B H1) (YW G wk ha B H1 (rangeN lo n)) where
  goes := fun i H hi q => by
    rw [rangeN_len] at hi
    exact hi
  stops := fun H q => by
    rw [rangeN_len]
    exact Nat.le_refl n
  yields := fun i H v H' hi q y => by
    rw [rangeN_len] at hi
    obtain ⟨rfl, rfl⟩ := y
    refine ⟨fun _ _ z => z, .int (lo + (i : Nat) * (-1)), ?_, fun B' _ _ => by simp only [Rep]⟩
    unfold rangeN
    rw [List.getElem?_map, List.getElem?_range hi]
    rfl
theorem ws_rng3 {m : Expr} {z : Int} {p pos : Pos} (st : Stat c.G) (hg : c.sc.names.lookup ("range" : Str) = some .globalImplicit) (hf : c.G.fr.contains ("range" : Str) = true) (h : ES .wk c a f) (h2 : ES .wk c b g) (h3 : ES .wk c m (fun _ h => .ok (.int z) h)) (hp : plainE a = true) (hq : plainE b = true) (hm : plainE m = true) :
    WS c tg (.Call (.Name "range" p) [a, b, m] [] pos) wk (fun ρ h => (f ρ h).bind fun x h => (g ρ h).bind fun y h => match x, y with
    | .int lo, .int hi => if (inR lo && inR hi) && decide (z = -1) then .ok (rangeN lo (lo - hi).toNat) h else .stuck
    | _, _ => .stuck) := by
  obtain ⟨ta, p1, q1⟩ := h
  obtain ⟨tb, p2, q2⟩ := h2
  obtain ⟨tm, p3, q3⟩ := h3
  refine ⟨iRng3 (tCons ta (tCons tb (tCons tm tNil))), fun X hx => pi_range3 (hx.gl hg) (hx.mg0 st hf) (pa_cons (p1 X hx) (pa_cons (p2 X hx) (pa_cons (p3 X hx) pa_nil (star_of hm)) (star_of hq)) (star_of hp)) (by rw [star_of hp, star_of hq, star_of hm]) (nostar (by rw [List.all_cons, List.all_cons, hq, hm]; rfl)), fun ha B ρ hs σ H R S p => ?_⟩
  refine q1 ha B ρ hs σ H _ S (RPost.first lifts_W p fun x hs1 _ v H1 k1 h1 r1 p' => ?_)
  refine q2 ha B ρ hs1 σ H1 _ (S.ext k1 h1) (RPost.first lifts_W p' fun y hs2 _ w H2 k2 h2 r2 p3 => ?_)
  have rx := WRep.keep h2.hB k2 r1
  have ry := re_w r2
  cases x with
  | int lo =>
    cases y with
    | int hi =>
      dsimp only at p3
      split at p3
      · rename_i zz
        rw [Bool.and_eq_true, Bool.and_eq_true, decide_eq_true_eq] at zz
        obtain ⟨⟨za, zb⟩, rfl⟩ := zz
        obtain ⟨z1, z2⟩ := inR_ok za
        obtain ⟨z3, z4⟩ := inR_ok zb
        refine q3 ha B ρ hs2 σ H2 _ ((S.ext k1 h1).ext k2 h2) fun u H3 k3 h3 r3 => ?_
        have eu : u = .int (-1) := (re_w r3).int_
        subst eu
        exact ⟨lo, hi, -1, (lo - hi).toNat, by rw [rx.int_, ry.int_], RgC.neg z1 z2 z3 z4, p3 _ H3 k3 h3 walk_rn⟩
      · exact p3.elim
    | _ => exact (p3 : False).elim
  | _ => exact (p3 : False).elim
theorem walk_enumT {K : PySem.W.Frag} {a : Addr} {xs : List V} : Walk (IteT K a) xs.length (fun H => SqT K H a xs) (YPair (fun i => some (.int (i : Nat))) (fun i => xs[i]?)) := by
  refine ⟨fun i _ hi q => ⟨xs, xs[i], q, by simp [hi]⟩, fun _ q => ⟨xs, q, Nat.le_refl _⟩, fun i H v H' _ q y => ?_⟩
  obtain ⟨T, x, h1, h2, h3, h4⟩ := y
  exact ⟨T, .int (i : Nat), x, h1, h2, h3, rfl, h4 xs q⟩
theorem ws_enum {p pos tp : Pos} {elts : List Expr} {kk : Nat} (st : Stat c.G) (hg : c.sc.names.lookup ("enumerate" : Str) = some .globalImplicit) (hf : c.G.fr.contains ("enumerate" : Str) = true) (h : ES (mdOf wk) c a f) (hp : plainE a = true) :
    WS c (.Tuple elts kk tp) (.Call (.Name "enumerate" p) [a] [] pos) wk (fun ρ h => (f ρ h).bind fun x h => match x with
    | .lst xs => .ok (xs.zipIdx.map fun p => .tup [.int (p.2 : Nat), p.1]) h
    | .tup xs => .ok (xs.zipIdx.map fun p => .tup [.int (p.2 : Nat), p.1]) h
    | _ => .stuck) := by
  obtain ⟨ta, p1, q1⟩ := h
  refine ⟨iEnumB c.G.K (tCons ta tNil), fun X hx => by rw [← hx.eK]; exact pi_enumB (hx.gl hg) (hx.mg0 st hf) (pa_cons (p1 X hx) pa_nil (star_of hp)) (star_of hp), fun ha B ρ hs σ H R S p => ?_⟩
  refine q1 ha B ρ hs σ H _ S (RPost.first lifts_W p fun x hs1 _ v H1 k1 h1 r1 p' => ?_)
  cases x with
  | lst xs =>
    obtain ⟨q, us, rfl, s, rs, sd⟩ := lst_std h1 r1
    refine ⟨q, us, rfl, .inl ⟨.inl (.inl s), p' _ H1 .refl h1 ?_⟩⟩
    have hl : (xs.zipIdx.map fun p => D.tup [.int (p.2 : Nat), p.1]).length = us.length := by rw [List.length_map, List.length_zipIdx, rs.length]
    show Walk _ (xs.zipIdx.map fun p => D.tup [.int (p.2 : Nat), p.1]).length _ _
    rw [hl]
    refine walk_enum.mono (fun H z => .inl (.inl (sd H z))) fun i H x H' _ _ y => ?_
    refine yw_pair (dx := fun _ => none) (dy := fun _ => none) y fun x y e1 e2 => ?_
    obtain ⟨d, hd, r1⟩ := get_pair (wk := wk) (H := H) rs e2
    cases e1
    refine ⟨.int (i : Nat), d, ?_, fun B' b k => ⟨by simp only [Rep], r1 B' b k⟩⟩
    rw [List.getElem?_map, List.getElem?_zipIdx, hd]
    simp
  | tup xs =>
    obtain ⟨q, us, rfl, s, rs, sd⟩ := tup_std h1 r1
    refine ⟨q, us, rfl, .inr ⟨s, p' _ H1 .refl h1 ?_⟩⟩
    have hl : (xs.zipIdx.map fun p => D.tup [.int (p.2 : Nat), p.1]).length = us.length := by rw [List.length_map, List.length_zipIdx, rs.length]
    show Walk _ (xs.zipIdx.map fun p => D.tup [.int (p.2 : Nat), p.1]).length _ _
    rw [hl]
    refine walk_enumT.mono (fun H z => sd H z) fun i H x H' _ _ y => ?_
    refine yw_pair (dx := fun _ => none) (dy := fun _ => none) y fun x y e1 e2 => ?_
    obtain ⟨d, hd, r1⟩ := get_pair (wk := wk) (H := H) rs e2
    cases e1
    refine ⟨.int (i : Nat), d, ?_, fun B' b k => ⟨by simp only [Rep], r1 B' b k⟩⟩
    rw [List.getElem?_map, List.getElem?_zipIdx, hd]
    simp
  | _ => exact (p' : False).elim
end
end
end PD

set_option Elab.async false
set_option linter.all false
set_option maxRecDepth 100000
set_option maxHeartbeats 2000000
/-! P11: list comprehensions. -/
namespace PD
open PySem PySem.Spec PyProof.Rows L2 RZ
/-- a comprehension's block -/
def Ctx.inn (c : Ctx) (scope : Scope) : Ctx := { c with sc := relS scope c.sc, sto := fun x => scope.names.lookup x == some .cell || (relS scope c.sc).names.lookup x == some .local, E := fun _ _ _ => False, xh := false }
theorem XOk.inn {c : Ctx} {X : Cx} (hx : XOk c X) (scope : Scope) (s : Shared) (H : Hp) (C : Addr) (cl : List (Str × Addr)) (fp : List Addr) : XOk (c.inn scope) (X.blk s H scope (compEnvC scope cl C X.env) fp) where
  eN := hx.eN
  eS := by
    show relS scope X.env.scope = relS scope c.sc
    rw [hx.eS]
  eC := hx.eC
  eK := hx.eK
  eM := hx.eM
  fns := hx.fns
  eP := hx.eP
  eW := hx.eW
  eB := hx.eB
  tk := fun _ _ x => by
    obtain ⟨_, _, _, _, _, _, _, _, _, _, _, _, _, _, _, _, z⟩ := x
    exact z.elim
  hr := hx.hr
  hu := hx.hu
  nd := hx.nd
  fnl := fun x h => by
    have h : (scope.names.lookup x == some .cell || (relS scope c.sc).names.lookup x == some .local) = true := h
    rw [Bool.or_eq_true] at h
    rcases h with h | h
    · exact .inl h
    · exact .inr (eq_of_beq (α := Option NameKind) h)
  own := fun _ _ h => h.elim
  lam := hx.lam
  xis := fun h => by cases h
section
variable {c : Ctx}
def TSs (c : Ctx) (ifs : List Expr) (f : PEnv → HS → Res Bool) : Prop :=
  ∃ t : TT, (∀ X, XOk c X → PTs X ifs t) ∧ ∀ ha B ρ hs σ H Q, ESim c.G ha B ρ hs σ H → TPost c.G ha B H Q c.E (f ρ hs) → t σ H Q
theorem tss_nil : TSs c [] (fun _ h => .ok true h) := ⟨tYes, fun X _ => pts_nil, fun ha B ρ hs σ H Q S p => p true H .refl S.hnd rfl⟩
theorem tss_one {e : Expr} {f : PEnv → HS → Res Bool} (h : CS c e f) : TSs c [e] f := by
  obtain ⟨t, p, q⟩ := h
  exact ⟨t, fun X hx => pts_one (p X hx), q⟩
section
variable {G : Cfg} {ha : Addr} {B : Addr → Prop} {H : Hp} {hs : HS}
abbrev addB (B : Addr → Prop) (D : Addr) : Addr → Prop := fun b => B b ∨ b = D
theorem WRep.chg {B' : Addr → Prop} (k : ∀ b, B' b → B b ∨ FreshAt H b) {d : D} {v : V} (h : WRep G ha B H d v) : WRep G ha B' H d v := by
  cases d with
  | lst ds =>
    simp only [WRep] at h ⊢
    obtain ⟨a, vs, e, na, s, r⟩ := h
    exact ⟨a, vs, e, na, s, Reps.chg k r⟩
  | dct ks ys =>
    simp only [WRep] at h ⊢
    obtain ⟨a, vs, e, na, s, q, r⟩ := h
    exact ⟨a, vs, e, na, s, q, Reps.chg k r⟩
  | _ => exact Rep.chg k h
/-- the slots as they stood, seen from later -/
theorem ESim.later {H' : Hp} {B' : Addr → Prop} {hs' : HS} {ρ : PEnv} {σ : St} (S : ESim G ha B ρ hs σ H) (ch : ∀ b, B' b → B b ∨ FreshAt H b) (k : Ext ha H H') (h : Hnd G ha B' H' hs') : ESim G ha B' ρ hs' σ H' := by
  refine ⟨S.len, fun i s e => ?_, h⟩
  have kB : Keep B' H H' := k.imp fun b z => by rw [z]; exact h.hB
  have q := S.at_ i s e
  cases s with
  | no => trivial
  | exn _ => exact XSl.keep q k S.hnd.ls
  | val d =>
    obtain ⟨v, e1, r⟩ := q
    exact ⟨v, e1, Rep.keep kB (Rep.chg ch r)⟩
  | own d =>
    obtain ⟨v, e1, r⟩ := q
    exact ⟨v, e1, WRep.keep h.hB k (WRep.chg ch r)⟩
theorem addB_ch {D : Addr} (n : H D = none) : ∀ b, addB B D b → B b ∨ FreshAt H b := fun b z => z.elim .inl fun y => .inr (y ▸ freshAt_none n)
theorem tabs_put {T : List (Addr × Str)} {a : Addr} {u o : HO} (t : LamX.Tabs T H) (e : H a = some u) (h1 : ∀ ps, u ≠ .tbl ps) (h2 : ∀ c q, u ≠ LamX.CodeO c q) : LamX.Tabs T (upd H a o) := fun p hp => by
  obtain ⟨ps, q1, q2, q3⟩ := t p hp
  refine ⟨ps, ?_, q2, fun pos cv z => ?_⟩
  · rw [upd_ne fun y => h1 ps (by rw [y, e] at q1; exact Option.some.inj q1)]
    exact q1
  · obtain ⟨c, ec, q4⟩ := q3 pos cv z
    refine ⟨c, ec, ?_⟩
    have hne : c ≠ a := fun y => by
      rw [y, e] at q4
      exact h2 a p.2 (Option.some.inj q4)
    rw [upd_ne hne]
    exact q4
/-- a tracked list is written -/
theorem Hnd.wrl {a : Addr} {xs ys : List V} (h : Hnd G ha B H hs) (hb : B a) (hne : a ≠ ha) (e : H a = some (.lst xs)) : Hnd G ha B (upd H a (.lst ys)) hs := by
  obtain ⟨vs, e1, r⟩ := h.at_
  have kp : Keep B H (upd H a (.lst ys)) := Keep.wr hb e (fun _ z => nomatch z) (fun _ _ z => nomatch z)
  refine ⟨h.hB, ⟨vs, by rw [upd_ne (Ne.symm hne)]; exact e1, Reps.keep kp r⟩, fun b z => ?_, ?_⟩
  · by_cases hba : b = a
    · rw [hba, upd_same]
      exact ⟨_, rfl, nt_lst⟩
    · rw [upd_ne hba]
      exact h.trk b z
  · exact tabs_put h.tab e (fun _ z => nomatch z) (fun _ _ z => nomatch z)
theorem Hnd.wrk {a : Addr} {xs ys : List (Key × V)} (h : Hnd G ha B H hs) (hb : B a) (hne : a ≠ ha) (e : H a = some (.dK xs)) : Hnd G ha B (upd H a (.dK ys)) hs := by
  obtain ⟨vs, e1, r⟩ := h.at_
  have kp : Keep B H (upd H a (.dK ys)) := Keep.wr hb e (fun _ z => nomatch z) (fun _ _ z => nomatch z)
  refine ⟨h.hB, ⟨vs, by rw [upd_ne (Ne.symm hne)]; exact e1, Reps.keep kp r⟩, fun b z => ?_, ?_⟩
  · by_cases hba : b = a
    · rw [hba, upd_same]
      exact ⟨_, rfl, nt_dK⟩
    · rw [upd_ne hba]
      exact h.trk b z
  · exact tabs_put h.tab e (fun _ z => nomatch z) (fun _ _ z => nomatch z)
end
theorem lcL_ok {f : D → HS → Res (Option D)} {d : D} {r : List D} {h hE : HS} {ds : List D} (e : lcL f (d :: r) h = .ok ds hE) : ∃ o h1 ds', f d h = .ok o h1 ∧ lcL f r h1 = .ok ds' hE ∧ ds = (match o with
    | some x => x :: ds'
    | none => ds') := by
  simp only [lcL] at e
  cases e1 : f d h with
  | stuck => rw [e1] at e; cases e
  | exc _ _ => rw [e1] at e; cases e
  | ok o h1 =>
    rw [e1] at e
    simp only [Res.bind] at e
    cases e2 : lcL f r h1 with
    | stuck => rw [e2] at e; cases e
    | exc _ _ => rw [e2] at e; cases e
    | ok ds' h2 =>
      rw [e2] at e
      cases e
      exact ⟨o, h1, ds', rfl, e2, rfl⟩
theorem calmR_ok {α β : Type} {G : Cfg} {ha : Addr} {B : Addr → Prop} {H : Hp} {R : Rl α β} {Q : β → Hp → Prop} {E : XK} {γ : Type} {r : Res γ} {g : γ → HS → Res α} (p : RPost G ha B H R Q E ((calmR r).bind g)) : ∃ a h, r = .ok a h ∧ RPost G ha B H R Q E (g a h) := by
  cases r with
  | ok a h => exact ⟨a, h, rfl, p⟩
  | exc _ _ => exact p.elim
  | stuck => exact p.elim
def plainS : Expr → Bool
  | .Set _ _ _ => false
  | _ => true
theorem set_of {e : Expr} {env : PySem.Env} (h : plainS e = true) : ∀ x, foldedSetIterable e env x = pure x := by
  intro x
  cases e <;> first | rfl | cases h
/-- a turn's meaning -/
def lcF (it : IT) (vs : List Nat) (fc : PEnv → HS → Res Bool) (fe : PEnv → HS → Res D) (ρ : PEnv) : D → HS → Res (Option D) := fun d h => match asgT it d (wipeP ρ vs) with
  | some ρ' => (fc ρ' h).bind fun k h => if k then (fe ρ' h).bind fun x h => .ok (some x) h else .ok none h
  | none => .stuck
theorem tLc_ok {tg iter elt : Expr} {it : IT} {ifs : List Expr} {fs : PEnv → HS → Res (List D)} {fc : PEnv → HS → Res Bool} {fe : PEnv → HS → Res D} {own : List (Str × Nat)} {scope : Scope}
    {wi : TI} {g : TG} {tt : TT} {te : TE} (hsl : ∀ i ∈ itSl it, i ∈ own.map (·.2))
    (qw : ∀ ha B ρ hs σ H (R : It → Hp → Prop), ESim c.G ha B ρ hs σ H → RPost c.G ha B H (RW c.G true ha B) R c.E (fs ρ hs) → wi σ H R)
    (qg : ∀ ha B H d v σ ρ ρ' Q, Rep c.G ha B H d v → asgT it d ρ = some ρ' → σ.length = ρ.length → (∀ σ', Stored (Rep c.G ha B H) (itSl it) ρ ρ' σ σ' → Q σ' H) → g v σ H Q)
    (qt : ∀ ha B ρ hs σ H Q, ESim c.G ha B ρ hs σ H → TPost c.G ha B H Q (fun _ _ _ => False) (fc ρ hs) → tt σ H Q)
    (qe : ∀ ha B ρ hs σ H Q, ESim c.G ha B ρ hs σ H → EPost c.G .st ha B H Q (fun _ _ _ => False) (fe ρ hs) → te σ H Q)
    (ha : Addr) (B : Addr → Prop) (ρ : PEnv) (hs : HS) (σ : St) (H : Hp) (Q : VK) (S : ESim c.G ha B ρ hs σ H)
    (p : EPost c.G .fr ha B H Q c.E ((fs ρ hs).bind fun its h => (calmR (lcL (lcF it (own.map (·.2)) fc fe ρ) its h)).bind fun ds h => if its.length ≤ line then .ok (.lst ds) h else .stuck)) : tLc wi g tt te (own.map (·.2)) σ H Q := by
  refine qw ha B ρ hs σ H _ S (RPost.first lifts_E p fun its hs1 _ J H1 k1 h1 w p' => ?_)
  intro D nD
  obtain ⟨ds, hE, eL, p'⟩ := calmR_ok p'
  split at p'
  case isFalse => exact p'.elim
  rename_i hlen
  have S1 := S.ext k1 h1
  have tha : ∃ vs, H1 ha = some (.lst vs) := by
    obtain ⟨vs, e, _⟩ := h1.at_
    exact ⟨vs, e⟩
  have hDha : D ≠ ha := fun z => by
    obtain ⟨vs, e⟩ := tha
    rw [← z, nD] at e
    cases e
  have w : Walk J its.length (Std true ha B H1) (YW c.G true ha B H1 its) := w
  have bD : BOk ha B (addB B D) H1 := ⟨.inl h1.hB, fun b z => z.elim .inl fun y => .inr (y ▸ freshAt_none nD)⟩
  refine lc_it w (fun i Hi => ∃ (acc : List PD.D) (av : List V) (hi : HS) (rest : List PD.D), Ext ha H1 Hi ∧ Hi D = some (.lst av) ∧ Reps c.G ha (addB B D) Hi acc av ∧ Hnd c.G ha (addB B D) Hi hi ∧
    lcL (lcF it (own.map (·.2)) fc fe ρ) (its.drop i) hi = .ok rest hE ∧ acc ++ rest = ds ∧ acc.length ≤ i) ?_ ?_ ?_ ?_
  · exact ⟨[], [], hs1, ds, Keep.new nD, upd_same, .nil, h1.plus nD, by rw [List.drop_zero]; exact eL, rfl, Nat.le_refl _⟩
  · rintro i Hi _ ⟨acc, av, hi, rest, kx, _⟩
    exact ⟨addB B D, bD, kx⟩
  · rintro i x Hi Hi' hlt ⟨acc, av, hi, rest, kx, eD, ra, Si, el, ed, hal⟩ ⟨sm, d, hd, hr⟩
    have hlt' : i < its.length := hlt
    have ed' : its.drop i = d :: its.drop (i + 1) := by
      obtain ⟨hlt2, e⟩ := List.getElem?_eq_some_iff.mp hd
      rw [List.drop_eq_getElem_cons hlt', e]
    rw [ed'] at el
    obtain ⟨o, h2, rest', ef, el', er⟩ := lcL_ok el
    have rx : Rep c.G ha (addB B D) Hi' d x := hr (addB B D) bD kx
    have Si' : ESim c.G ha (addB B D) (wipeP ρ (own.map (·.2))) hi (wipe σ (own.map (·.2))) Hi' := (S1.wipe _).later (addB_ch nD) (kx.trans (Keep.of_same sm)) (Si.same sm)
    unfold lcF at ef
    cases ea : asgT it d (wipeP ρ (own.map (·.2))) with
    | none => rw [ea] at ef; cases ef
    | some ρ' =>
      rw [ea] at ef
      dsimp only at ef
      refine qg ha (addB B D) Hi' d x _ _ ρ' _ rx ea Si'.len fun σ2 st => ⟨?_, ?_⟩
      · refine (wipe_same st.l2 fun j hj => (st.out j fun z => hj (hsl j z)).2).trans wipe_twice
      · have S2 := Si'.stored st
        cases ec : fc ρ' hi with
        | stuck => rw [ec] at ef; cases ef
        | exc _ _ => rw [ec] at ef; cases ef
        | ok kb hs3 =>
          rw [ec] at ef
          simp only [Res.bind] at ef
          refine qt ha (addB B D) ρ' hi σ2 Hi' _ S2 ?_
          rw [ec]
          intro kb' H3 k3 hh3 ek
          have ek : kb' = kb := ek
          subst ek
          have S3 := S2.ext k3 hh3
          have sD3 : H3 D = some (.lst av) := k3.at_ D _ hDha (sm _ _ eD) nt_lst
          have kB3 : Keep (addB B D) Hi H3 := (Keep.of_same sm).trans (k3.imp fun b z => by rw [z]; exact .inl h1.hB)
          cases kb' with
          | false =>
            rw [if_neg Bool.false_ne_true] at ef ⊢
            cases ef
            exact ⟨acc, av, h2, rest, kx.trans ((Keep.of_same sm).trans k3), sD3, Reps.keep kB3 ra, hh3, by rw [er]; exact el', ed, by omega⟩
          | true =>
            rw [if_pos rfl] at ef ⊢
            cases ee : fe ρ' hs3 with
            | stuck => rw [ee] at ef; cases ef
            | exc _ _ => rw [ee] at ef; cases ef
            | ok e hs4 =>
              rw [ee] at ef
              simp only at ef
              cases ef
              refine qe ha (addB B D) ρ' hs3 σ2 H3 _ S3 ?_
              rw [ee]
              intro y H4 k4 hh4 ry
              have ry : Rep c.G ha (addB B D) H4 e y := ry
              have sD4 : H4 D = some (.lst av) := k4.at_ D _ hDha sD3 nt_lst
              have kB4 : Keep (addB B D) Hi H4 := kB3.trans (k4.imp fun b z => by rw [z]; exact .inl h1.hB)
              have ra4 := Reps.keep kB4 ra
              have kw : Keep (addB B D) H4 (upd H4 D (.lst (av ++ [y]))) := Keep.wr (.inr rfl) sD4 (fun _ z => nomatch z) (fun _ _ z => nomatch z)
              refine ⟨av, sD4, ?_, acc ++ [e], av ++ [y], h2, rest', ?_, upd_same, Reps.keep kw (ra4.append (.cons ry .nil)), ?_, el', ?_, ?_⟩
              · rw [line_eq, ← ra4.length]
                omega
              · have z : Ext ha H1 H4 := kx.trans ((Keep.of_same sm).trans (k3.trans k4))
                refine ⟨fun b o n q t => ?_, fun b xs q => ?_, fun b o u q => ?_⟩
                · rw [upd_ne (fun y => by rw [y, nD] at q; cases q)]
                  exact z.at_ b o n q t
                · rw [upd_ne (fun y => by rw [y, nD] at q; cases q)]
                  exact z.tup b xs q
                · rw [upd_ne (fun y => by rw [y, nD] at q; cases q)]
                  exact z.frz b o u q
              · exact hh4.wrl (.inr rfl) hDha sD4
              · rw [← ed, er, List.append_assoc]
                rfl
              · rw [List.length_append]
                exact Nat.succ_le_succ hal
  · rintro Hn ⟨acc, av, hi, rest, kx, eD, ra, Si, el, ed, hal⟩
    rw [List.drop_length] at el
    cases el
    rw [List.append_nil] at ed
    subst ed
    refine p' _ Hn kx ?_ ⟨D, av, rfl, freshAt_none nD, ?_, eD, Si, ra⟩
    · exact Si.chg h1.hB (fun b z => .inl (.inl z)) fun b z => Si.trk b (.inl z)
    · exact h1.out nD
end
end PD

set_option Elab.async false
set_option linter.all false
set_option maxRecDepth 100000
set_option maxHeartbeats 2000000
/-! P12: comprehensions as values and stored; blocks. -/
namespace PD
open PySem PySem.Spec PyProof.Rows L2 RZ
section
variable {c : Ctx}
/-- a comprehension's parts -/
structure LcOk (c : Ctx) (elt tg iter : Expr) (ifs : List Expr) (scope : Scope) (own : List (Str × Nat)) (it : IT) (fs : PEnv → HS → Res (List D)) (fc : PEnv → HS → Res Bool) (fe : PEnv → HS → Res D) : Prop where
  calm : c.calm = true
  w : WS c tg iter true fs
  blk : blkC c.N c.sc scope own = true
  g : GS (c.inn scope) tg it
  t : TSs (c.inn scope) ifs fc
  e : ES .st (c.inn scope) elt fe
  sl : ∀ i ∈ itSl it, i ∈ own.map (·.2)
  ps : plainS iter = true
def lcM (own : List (Str × Nat)) (it : IT) (fs : PEnv → HS → Res (List D)) (fc : PEnv → HS → Res Bool) (fe : PEnv → HS → Res D) : PEnv → HS → Res D := fun ρ h =>
  (fs ρ h).bind fun its h => (calmR (lcL (lcF it (own.map (·.2)) fc fe ρ) its h)).bind fun ds h => if its.length ≤ line then .ok (.lst ds) h else .stuck
theorem es_lc {elt tg iter : Expr} {ifs : List Expr} {scope : Scope} {own : List (Str × Nat)} {it : IT} {fs : PEnv → HS → Res (List D)} {fc : PEnv → HS → Res Bool} {fe : PEnv → HS → Res D} {pos : Pos}
    (L : LcOk c elt tg iter ifs scope own it fs fc fe) : ES .fr c (.ListComp elt [⟨tg, iter, ifs, 0⟩] scope pos) (lcM own it fs fc fe) := by
  obtain ⟨wi, pw, qw⟩ := L.w
  obtain ⟨g, pg, qg⟩ := L.g
  obtain ⟨tt, pt, qt⟩ := L.t
  obtain ⟨te, pe, qe⟩ := L.e
  refine ⟨tLc wi g tt te (own.map (·.2)), fun X hx => pe_lc (hx.eC L.calm) (by rw [hx.eN]; exact hx.nd) (pw X hx) (by rw [hx.eN, hx.eS]; exact blkOk_by L.blk) (fun s H C cl fp => pg _ (hx.inn scope s H C cl fp)) (fun s H C cl fp => pt _ (hx.inn scope s H C cl fp)) (fun s H C cl fp => pe _ (hx.inn scope s H C cl fp)) (set_of L.ps), fun ha B ρ hs σ H Q S p => ?_⟩
  exact tLc_ok (tg := tg) (iter := iter) (elt := elt) (ifs := ifs) (scope := scope) (c := c) L.sl qw qg qt qe ha B ρ hs σ H Q S p

/-! ### the slots of a def at work -/
abbrev Own := Nat → Option Addr
def BB (B0 : Addr → Prop) (own : Own) : Addr → Prop := fun b => B0 b ∨ ∃ i, own i = some b
structure SSim (G : Cfg) (ha : Addr) (B0 Wr : Addr → Prop) (H0 : Hp) (own : Own) (ρ : PEnv) (hs : HS) (σ : St) (H : Hp) : Prop where
  inj : ∀ i j a, own i = some a → own j = some a → i = j
  fr : ∀ i a, own i = some a → (Wr a ∨ FreshAt H0 a) ∧ ¬ B0 a
  ext : Keep Wr H0 H
  hW : Wr ha
  hB : B0 ha
  sim : ESim G ha (BB B0 own) ρ hs σ H
  at_ : ∀ (i : Nat) d, ρ[i]? = some (.own d) → atom d = false ∧ ∃ a, own i = some a ∧ σ[i]? = some (some (.ref a))
  of : ∀ i a, own i = some a → ∃ d, ρ[i]? = some (.own d)
def NPost (G : Cfg) (ha : Addr) (B0 Wr : Addr → Prop) (H0 : Hp) (N : St → Hp → Prop) (ρ : PEnv) (hs : HS) : Prop := ∀ own σ H, SSim G ha B0 Wr H0 own ρ hs σ H → N σ H
/-- an exception leaves -/
def YPost (G : Cfg) (ha : Addr) (B0 Wr : Addr → Prop) (H0 : Hp) (E : XK) (e : Exc) (hs : HS) : Prop := ∀ dx H', Keep Wr H0 H' → Hnd G ha B0 H' hs → ExcAt e dx H' → E (G.cv e.c) dx H'
def SPost (G : Cfg) (ha : Addr) (B0 Wr : Addr → Prop) (H0 : Hp) (D : Ends) (E : XK) : Res Fl → Prop
  | .ok (.nx ρ) hs => NPost G ha B0 Wr H0 D.nx ρ hs
  | .ok (.bk ρ) hs => NPost G ha B0 Wr H0 D.bk ρ hs
  | .ok (.ct ρ) hs => NPost G ha B0 Wr H0 D.ct ρ hs
  | .ok (.rt d) hs => ∀ v H', Keep Wr H0 H' → Hnd G ha B0 H' hs → Rep G ha B0 H' d v → D.rt v H'
  | .exc e hs => YPost G ha B0 Wr H0 E e hs
  | .stuck => False
section
variable {G : Cfg} {ha : Addr} {B0 Wr : Addr → Prop} {H0 H H1 : Hp} {own : Own} {ρ : PEnv} {hs hs1 : HS} {σ : St}
theorem SSim.later (S : SSim G ha B0 Wr H0 own ρ hs σ H) (k : Ext ha H H1) (h : Hnd G ha (BB B0 own) H1 hs1) : SSim G ha B0 Wr H0 own ρ hs1 σ H1 := ⟨S.inj, S.fr, S.ext.trans (k.imp fun b z => z ▸ S.hW), S.hW, S.hB, S.sim.ext k h, S.at_, S.of⟩
theorem Hnd.sub {B B' : Addr → Prop} (h : Hnd G ha B H hs) (hb : B' ha) (k : ∀ b, B' b → B b) : Hnd G ha B' H hs := h.chg hb (fun b z => .inl (k b z)) fun b z => h.trk b (k b z)
theorem Rep.sub {B B' : Addr → Prop} {d : D} {v : V} (h : Rep G ha B H d v) (k : ∀ b, B' b → B b) : Rep G ha B' H d v := Rep.chg (fun b z => .inl (k b z)) h
theorem WRep.sub {B B' : Addr → Prop} {d : D} {v : V} (h : WRep G ha B H d v) (k : ∀ b, B' b → B b) : WRep G ha B' H d v := WRep.chg (fun b z => .inl (k b z)) h
theorem SSim.h0 (S : SSim G ha B0 Wr H0 own ρ hs σ H) : Hnd G ha B0 H hs := S.sim.hnd.sub S.hB fun b z => .inl z
theorem SPost.first {α β : Type} {R : Rl α β} {Q : β → Hp → Prop} {D : Ends} {E : XK} {r : Res α} {g : α → HS → Res Fl} (S : SSim G ha B0 Wr H0 own ρ hs σ H) (p : SPost G ha B0 Wr H0 D E (r.bind g))
    (h : ∀ a hs1, r = .ok a hs1 → ∀ v H1, Ext ha H H1 → Hnd G ha (BB B0 own) H1 hs1 → R H a v hs1 H1 → SPost G ha B0 Wr H0 D E (g a hs1) → Q v H1) : RPost G ha (BB B0 own) H R Q E r := by
  cases r with
  | ok a hs1 => exact fun v H1 k hh q => h a hs1 rfl v H1 k hh q p
  | exc e hs1 => exact fun dx H1 k hh q => (show YPost G ha B0 Wr H0 E e hs1 from p) dx H1 (S.ext.trans (k.imp fun b z => z ▸ S.hW)) (hh.sub S.hB fun b z => .inl z) q
  | stuck => exact p.elim
def unown (own : Own) (i : Nat) : Own := fun j => if j = i then none else own j
theorem unown_some {i j : Nat} {a : Addr} (h : unown own i j = some a) : own j = some a ∧ j ≠ i := by
  unfold unown at h
  split at h
  · cases h
  · exact ⟨h, by assumption⟩
theorem unown_sub {i : Nat} : ∀ b, BB B0 (unown own i) b → BB B0 own b := fun b z => z.elim .inl fun ⟨j, e⟩ => .inr ⟨j, (unown_some e).1⟩
theorem set_get {α : Type} {l : List α} {i j : Nat} {x y : α} (h : (l.set i x)[j]? = some y) : (i = j ∧ x = y ∧ i < l.length) ∨ (i ≠ j ∧ l[j]? = some y) := by
  by_cases e : i = j
  · subst e
    have hl : i < l.length := by
      have z := (List.getElem?_eq_some_iff.mp h).1
      rwa [List.length_set] at z
    rw [List.getElem?_set_self hl] at h
    exact .inl ⟨rfl, Option.some.inj h, hl⟩
  · rw [List.getElem?_set_ne e] at h
    exact .inr ⟨e, h⟩
theorem set_out {α : Type} {l : List α} {i j : Nat} {x : α} (h : i ≠ j) : (l.set i x)[j]? = l[j]? := List.getElem?_set_ne h
/-- a slot gets what is not owned -/
theorem SSim.val {i : Nat} {d : D} {v : V} (S : SSim G ha B0 Wr H0 own ρ hs σ H) (r : Rep G ha (BB B0 own) H d v) : SSim G ha B0 Wr H0 (unown own i) (ρ.set i (.val d)) hs (σ.set i (some v)) H := by
  have sub : ∀ b, BB B0 (unown own i) b → BB B0 own b := unown_sub
  refine ⟨fun j k a e1 e2 => S.inj j k a (unown_some e1).1 (unown_some e2).1, fun j a e => S.fr j a (unown_some e).1, S.ext, S.hW, S.hB, ⟨by rw [List.length_set, List.length_set]; exact S.sim.len, fun j s e => ?_, S.sim.hnd.sub (.inl S.hB) sub⟩, fun j d' e => ?_, fun j a e => ?_⟩
  · rcases set_get e with ⟨rfl, rfl, hl⟩ | ⟨hne, e⟩
    · exact ⟨v, List.getElem?_set_self (by rw [S.sim.len]; exact hl), r.sub sub⟩
    · rw [set_out hne]
      have q := S.sim.at_ j s e
      cases s with
      | no => trivial
      | exn _ => exact q
      | val d =>
        obtain ⟨v, e1, r⟩ := q
        exact ⟨v, e1, r.sub sub⟩
      | own d =>
        obtain ⟨v, e1, r⟩ := q
        exact ⟨v, e1, r.sub sub⟩
  · rcases set_get e with ⟨_, h, _⟩ | ⟨hne, e⟩
    · cases h
    · obtain ⟨h1, a, h2, h3⟩ := S.at_ j d' e
      refine ⟨h1, a, ?_, by rw [set_out hne]; exact h3⟩
      unfold unown
      rw [if_neg (Ne.symm hne)]
      exact h2
  · obtain ⟨e, hne⟩ := unown_some e
    obtain ⟨d', h⟩ := S.of j a e
    exact ⟨d', by rw [set_out (Ne.symm hne)]; exact h⟩
/-- a slot is forgotten -/
theorem SSim.no {i : Nat} {o : Option V} (S : SSim G ha B0 Wr H0 own ρ hs σ H) : SSim G ha B0 Wr H0 (unown own i) (ρ.set i .no) hs (σ.set i o) H := by
  have sub : ∀ b, BB B0 (unown own i) b → BB B0 own b := unown_sub
  refine ⟨fun j k a e1 e2 => S.inj j k a (unown_some e1).1 (unown_some e2).1, fun j a e => S.fr j a (unown_some e).1, S.ext, S.hW, S.hB, ⟨by rw [List.length_set, List.length_set]; exact S.sim.len, fun j s e => ?_, S.sim.hnd.sub (.inl S.hB) sub⟩, fun j d' e => ?_, fun j a e => ?_⟩
  · rcases set_get e with ⟨rfl, rfl, hl⟩ | ⟨hne, e⟩
    · trivial
    · rw [set_out hne]
      have q := S.sim.at_ j s e
      cases s with
      | no => trivial
      | exn _ => exact q
      | val d =>
        obtain ⟨v, e1, r⟩ := q
        exact ⟨v, e1, r.sub sub⟩
      | own d =>
        obtain ⟨v, e1, r⟩ := q
        exact ⟨v, e1, r.sub sub⟩
  · rcases set_get e with ⟨_, h, _⟩ | ⟨hne, e⟩
    · cases h
    · obtain ⟨h1, a, h2, h3⟩ := S.at_ j d' e
      refine ⟨h1, a, ?_, by rw [set_out hne]; exact h3⟩
      unfold unown
      rw [if_neg (Ne.symm hne)]
      exact h2
  · obtain ⟨e, hne⟩ := unown_some e
    obtain ⟨d', h⟩ := S.of j a e
    exact ⟨d', by rw [set_out (Ne.symm hne)]; exact h⟩
/-- an owned one is no longer changed -/
theorem SSim.frz1 {i : Nat} (S : SSim G ha B0 Wr H0 own ρ hs σ H) : ∃ own', SSim G ha B0 Wr H0 own' (match ρ[i]? with
    | some (.own d) => ρ.set i (.val d)
    | _ => ρ) hs σ H := by
  split
  · rename_i d e
    obtain ⟨hd, a, e1, e2⟩ := S.at_ i d e
    have sub : ∀ b, BB B0 (unown own i) b → BB B0 own b := unown_sub
    have na : ¬ BB B0 (unown own i) a := fun z => by
      rcases z with z | ⟨j, z⟩
      · exact (S.fr i a e1).2 z
      · obtain ⟨z, hne⟩ := unown_some z
        exact hne (S.inj j i a z e1)
    have rv : Rep G ha (BB B0 (unown own i)) H d (.ref a) := by
      obtain ⟨v, q1, q2⟩ := S.sim.at_ i _ e
      rw [e2] at q1
      cases q1
      cases d with
      | lst ds =>
        simp only [WRep, Rep] at q2 ⊢
        obtain ⟨a', vs, h1, _, h3, h4⟩ := q2
        cases h1
        exact ⟨a, vs, rfl, na, h3, Reps.chg (fun b z => .inl (sub b z)) h4⟩
      | dct ks ys =>
        simp only [WRep, Rep] at q2 ⊢
        obtain ⟨a', vs, h1, _, h3, h4, h5⟩ := q2
        cases h1
        exact ⟨a, vs, rfl, na, h3, h4, Reps.chg (fun b z => .inl (sub b z)) h5⟩
      | _ => cases hd
    refine ⟨unown own i, fun j k a e1 e2 => S.inj j k a (unown_some e1).1 (unown_some e2).1, fun j a e => S.fr j a (unown_some e).1, S.ext, S.hW, S.hB, ⟨by rw [List.length_set]; exact S.sim.len, fun j s e => ?_, S.sim.hnd.sub (.inl S.hB) sub⟩, fun j d' e => ?_, fun j a e => ?_⟩
    · rcases set_get e with ⟨rfl, rfl, hl⟩ | ⟨hne, e⟩
      · exact ⟨_, e2, rv⟩
      · have q := S.sim.at_ j s e
        cases s with
        | no => trivial
        | exn _ => exact q
        | val d =>
          obtain ⟨v, e1, r⟩ := q
          exact ⟨v, e1, r.sub sub⟩
        | own d =>
          obtain ⟨v, e1, r⟩ := q
          exact ⟨v, e1, r.sub sub⟩
    · rcases set_get e with ⟨_, h, _⟩ | ⟨hne, e⟩
      · cases h
      · obtain ⟨h1, a, h2, h3⟩ := S.at_ j d' e
        refine ⟨h1, a, ?_, h3⟩
        unfold unown
        rw [if_neg (Ne.symm hne)]
        exact h2
    · obtain ⟨e, hne⟩ := unown_some e
      obtain ⟨d', h⟩ := S.of j a e
      exact ⟨d', by rw [set_out (Ne.symm hne)]; exact h⟩
  · exact ⟨own, S⟩
theorem SSim.frz : ∀ {is : List Nat} {own : Own} {ρ : PEnv} (S : SSim G ha B0 Wr H0 own ρ hs σ H), ∃ own', SSim G ha B0 Wr H0 own' (frzL is ρ) hs σ H
  | [], own, _, S => ⟨own, S⟩
  | i :: is, own, ρ, S => by
    obtain ⟨own1, S1⟩ := S.frz1 (i := i)
    obtain ⟨own2, S2⟩ := SSim.frz (is := is) S1
    refine ⟨own2, ?_⟩
    simp only [frzL]
    exact S2
def reown (own : Own) (i : Nat) (p : Addr) : Own := fun j => if j = i then some p else own j
theorem reown_some {i j : Nat} {p a : Addr} (h : reown own i p j = some a) : (j = i ∧ p = a) ∨ (j ≠ i ∧ own j = some a) := by
  unfold reown at h
  split at h
  · exact .inl ⟨by assumption, Option.some.inj h⟩
  · exact .inr ⟨by assumption, h⟩
/-- a slot gets a new list or dict -/
theorem SSim.new {i : Nat} {d : D} {v : V} (S : SSim G ha B0 Wr H0 own ρ hs σ H) (hi : i < ρ.length) (k : Ext ha H H1) (ht : atom d = false) (r : Fresh G ha (BB B0 own) H H1 d v hs1) :
    ∃ p, SSim G ha B0 Wr H0 (reown own i p) (ρ.set i (.own d)) hs1 (σ.set i (some v)) H1 := by
  have key : ∀ p, v = .ref p → FreshAt H p → ¬ BB B0 own p → Hnd G ha (fun b => BB B0 own b ∨ b = p) H1 hs1 → WRep G ha (fun b => BB B0 own b ∨ b = p) H1 d v → SSim G ha B0 Wr H0 (reown own i p) (ρ.set i (.own d)) hs1 (σ.set i (some v)) H1 := fun p ev fp np hh rd => by
    have sub : ∀ b, BB B0 (reown own i p) b → BB B0 own b ∨ b = p := fun b z => z.elim (fun y => .inl (.inl y)) fun ⟨j, e⟩ => (reown_some e).elim (fun y => .inr y.2.symm) fun y => .inl (.inr ⟨j, y.2⟩)
    have fp0 : Wr p ∨ FreshAt H0 p := by
      by_cases hp : Wr p
      · exact .inl hp
      · exact .inr fun o e n => fp o (S.ext.at_ p o hp e n) n
    have ch : ∀ b, BB B0 (reown own i p) b → BB B0 own b ∨ FreshAt H b := fun b z => (sub b z).elim .inl fun y => .inr (by rw [y]; exact fp)
    have h1 : Hnd G ha (BB B0 (reown own i p)) H1 hs1 := hh.sub (.inl S.hB) sub
    have S1 := S.sim.later ch k h1
    refine ⟨fun j l a e1 e2 => ?_, fun j a e => ?_, S.ext.trans (k.imp fun b z => z ▸ S.hW), S.hW, S.hB, ⟨by rw [List.length_set, List.length_set]; exact S.sim.len, fun j s e => ?_, h1⟩, fun j d' e => ?_, fun j a e => ?_⟩
    · rcases reown_some e1 with ⟨q1, q2⟩ | ⟨q1, q2⟩ <;> rcases reown_some e2 with ⟨q3, q4⟩ | ⟨q3, q4⟩
      · rw [q1, q3]
      · exact absurd (.inr ⟨l, by rw [q2]; exact q4⟩) np
      · exact absurd (.inr ⟨j, by rw [q4]; exact q2⟩) np
      · exact S.inj j l a q2 q4
    · rcases reown_some e with ⟨_, rfl⟩ | ⟨_, q⟩
      · exact ⟨fp0, fun z => np (.inl z)⟩
      · exact S.fr j a q
    · rcases set_get e with ⟨rfl, rfl, hl⟩ | ⟨hne, e⟩
      · exact ⟨v, List.getElem?_set_self (by rw [S.sim.len]; exact hl), rd.sub sub⟩
      · rw [set_out hne]
        exact S1.at_ j s e
    · rcases set_get e with ⟨rfl, h, hl⟩ | ⟨hne, e⟩
      · cases h
        refine ⟨ht, p, ?_, by rw [List.getElem?_set_self (by rw [S.sim.len]; exact hl), ev]⟩
        unfold reown
        rw [if_pos rfl]
      · obtain ⟨h1, a, h2, h3⟩ := S.at_ j d' e
        refine ⟨h1, a, ?_, by rw [set_out hne]; exact h3⟩
        unfold reown
        rw [if_neg (Ne.symm hne)]
        exact h2
    · rcases reown_some e with ⟨rfl, _⟩ | ⟨hne, e⟩
      · exact ⟨d, List.getElem?_set_self hi⟩
      · obtain ⟨d', h⟩ := S.of j a e
        exact ⟨d', by rw [set_out (Ne.symm hne)]; exact h⟩
  cases d with
  | lst ds =>
    obtain ⟨p, vs, ev, fp, np, s, hh, rs⟩ := r
    refine ⟨p, key p ev fp np hh ?_⟩
    simp only [WRep]
    exact ⟨p, vs, ev, fun z => np (.inl (z ▸ S.hB)), s, rs⟩
  | dct ks ys =>
    obtain ⟨p, vs, ev, fp, np, s, hh, q, rs⟩ := r
    refine ⟨p, key p ev fp np hh ?_⟩
    simp only [WRep]
    exact ⟨p, vs, ev, fun z => np (.inl (z ▸ S.hB)), s, q, rs⟩
  | _ => cases ht
/-- an owned list is written -/
theorem SSim.wrt {i : Nat} {ds ds' : List D} {a : Addr} {vs' : List V} (S : SSim G ha B0 Wr H0 own ρ hs σ H) (e : ρ[i]? = some (.own (.lst ds))) (ea : σ[i]? = some (some (.ref a))) (r : Reps G ha (BB B0 own) H ds' vs') :
    SSim G ha B0 Wr H0 own (ρ.set i (.own (.lst ds'))) hs σ (upd H a (.lst vs')) := by
  obtain ⟨hi, _⟩ := List.getElem?_eq_some_iff.mp e
  obtain ⟨_, a', e1, e2⟩ := S.at_ i _ e
  rw [ea] at e2
  cases e2
  obtain ⟨v, q1, q2⟩ := S.sim.at_ i _ e
  rw [ea] at q1
  cases q1
  obtain ⟨a', vs, h1, na, s, _⟩ : ∃ a' vs, V.ref a = .ref a' ∧ a' ≠ ha ∧ H a' = some (.lst vs) ∧ Reps G ha (BB B0 own) H ds vs := by
    simpa only [WRep] using q2
  cases h1
  have bA : BB B0 own a := .inr ⟨i, e1⟩
  have kp : Keep (BB B0 own) H (upd H a (.lst vs')) := Keep.wr bA s (fun _ z => nomatch z) (fun _ _ z => nomatch z)
  obtain ⟨fr0, _⟩ := S.fr i a e1
  refine ⟨S.inj, S.fr, ?_, S.hW, S.hB, ⟨by rw [List.length_set]; exact S.sim.len, fun j t ej => ?_, S.sim.hnd.wrl bA na s⟩, fun j d' ej => ?_, fun j b eb => ?_⟩
  · rcases fr0 with fr0 | fr0
    · exact S.ext.trans (Keep.wr fr0 s (fun _ z => nomatch z) (fun _ _ z => nomatch z))
    refine ⟨fun b o n q t => ?_, fun b xs q => ?_, fun b o u q => ?_⟩
    · rw [upd_ne fun y => fr0 o (by rw [← y]; exact q) t]
      exact S.ext.at_ b o n q t
    · rw [upd_ne fun y => fr0 _ (by rw [← y]; exact q) nt_tup]
      exact S.ext.tup b xs q
    · rw [upd_ne fun y => fr0 (.frz o u) (by rw [← y]; exact q) (fun _ z => nomatch z)]
      exact S.ext.frz b o u q
  · rcases set_get ej with ⟨rfl, rfl, hl⟩ | ⟨hne, ej⟩
    · refine ⟨_, ea, ?_⟩
      simp only [WRep]
      exact ⟨a, vs', rfl, na, upd_same, Reps.keep kp r⟩
    · have q := S.sim.at_ j t ej
      cases t with
      | no => trivial
      | exn _ => exact XSl.keep (S := fun b => b = a) q (Keep.wr rfl s (fun _ z => nomatch z) (fun _ _ z => nomatch z)) fun b z => by have z : b = a := z; subst z; exact ⟨_, s⟩
      | val d =>
        obtain ⟨v, e1, r⟩ := q
        exact ⟨v, e1, Rep.keep kp r⟩
      | own d =>
        obtain ⟨v, e1', r1⟩ := q
        refine ⟨v, e1', ?_⟩
        obtain ⟨hd, b, eb, eb2⟩ := S.at_ j d ej
        have hba : b ≠ a := fun z => hne (S.inj i j a e1 (z ▸ eb))
        rw [eb2] at e1'
        cases e1'
        cases d with
        | lst zs =>
          simp only [WRep] at r1 ⊢
          obtain ⟨b', us, w1, w2, w3, w4⟩ := r1
          cases w1
          exact ⟨b, us, rfl, w2, by rw [upd_ne hba]; exact w3, Reps.keep kp w4⟩
        | dct ks ys =>
          simp only [WRep] at r1 ⊢
          obtain ⟨b', us, w1, w2, w3, w4, w5⟩ := r1
          cases w1
          exact ⟨b, us, rfl, w2, by rw [upd_ne hba]; exact w3, w4, Reps.keep kp w5⟩
        | _ => cases hd
  · rcases set_get ej with ⟨rfl, h, _⟩ | ⟨hne, ej⟩
    · cases h
      exact ⟨rfl, a, e1, ea⟩
    · exact S.at_ j d' ej
  · obtain ⟨d', h⟩ := S.of j b eb
    by_cases hne : i = j
    · subst hne
      exact ⟨_, List.getElem?_set_self hi⟩
    · exact ⟨d', by rw [set_out hne]; exact h⟩
theorem SSim.wrk {i : Nat} {ks xs ks' xs' : List D} {a : Addr} {vs' : List (Key × V)} (S : SSim G ha B0 Wr H0 own ρ hs σ H) (e : ρ[i]? = some (.own (.dct ks xs))) (ea : σ[i]? = some (some (.ref a))) (ek : ks' = vs'.map (fun p => kD p.1)) (r : Reps G ha (BB B0 own) H xs' (vs'.map (·.2))) :
    SSim G ha B0 Wr H0 own (ρ.set i (.own (.dct ks' xs'))) hs σ (upd H a (.dK vs')) := by
  obtain ⟨hi, _⟩ := List.getElem?_eq_some_iff.mp e
  obtain ⟨_, a', e1, e2⟩ := S.at_ i _ e
  rw [ea] at e2
  cases e2
  obtain ⟨v, q1, q2⟩ := S.sim.at_ i _ e
  rw [ea] at q1
  cases q1
  obtain ⟨a', vs, h1, na, s, _⟩ : ∃ a' vs, V.ref a = .ref a' ∧ a' ≠ ha ∧ H a' = some (.dK vs) ∧ ks = vs.map (fun p => kD p.1) ∧ Reps G ha (BB B0 own) H xs (vs.map (·.2)) := by
    simpa only [WRep] using q2
  cases h1
  have bA : BB B0 own a := .inr ⟨i, e1⟩
  have kp : Keep (BB B0 own) H (upd H a (.dK vs')) := Keep.wr bA s (fun _ z => nomatch z) (fun _ _ z => nomatch z)
  obtain ⟨fr0, _⟩ := S.fr i a e1
  refine ⟨S.inj, S.fr, ?_, S.hW, S.hB, ⟨by rw [List.length_set]; exact S.sim.len, fun j t ej => ?_, S.sim.hnd.wrk bA na s⟩, fun j d' ej => ?_, fun j b eb => ?_⟩
  · rcases fr0 with fr0 | fr0
    · exact S.ext.trans (Keep.wr fr0 s (fun _ z => nomatch z) (fun _ _ z => nomatch z))
    refine ⟨fun b o n q t => ?_, fun b xs q => ?_, fun b o u q => ?_⟩
    · rw [upd_ne fun y => fr0 o (by rw [← y]; exact q) t]
      exact S.ext.at_ b o n q t
    · rw [upd_ne fun y => fr0 _ (by rw [← y]; exact q) nt_tup]
      exact S.ext.tup b xs q
    · rw [upd_ne fun y => fr0 (.frz o u) (by rw [← y]; exact q) (fun _ z => nomatch z)]
      exact S.ext.frz b o u q
  · rcases set_get ej with ⟨rfl, rfl, hl⟩ | ⟨hne, ej⟩
    · refine ⟨_, ea, ?_⟩
      simp only [WRep]
      exact ⟨a, vs', rfl, na, upd_same, ek, Reps.keep kp r⟩
    · have q := S.sim.at_ j t ej
      cases t with
      | no => trivial
      | exn _ => exact XSl.keepK (S := fun b => b = a) q (Keep.wr rfl s (fun _ z => nomatch z) (fun _ _ z => nomatch z)) fun b z => by have z : b = a := z; subst z; exact ⟨_, s⟩
      | val d =>
        obtain ⟨v, e1, r⟩ := q
        exact ⟨v, e1, Rep.keep kp r⟩
      | own d =>
        obtain ⟨v, e1', r1⟩ := q
        refine ⟨v, e1', ?_⟩
        obtain ⟨hd, b, eb, eb2⟩ := S.at_ j d ej
        have hba : b ≠ a := fun z => hne (S.inj i j a e1 (z ▸ eb))
        rw [eb2] at e1'
        cases e1'
        cases d with
        | lst zs =>
          simp only [WRep] at r1 ⊢
          obtain ⟨b', us, w1, w2, w3, w4⟩ := r1
          cases w1
          exact ⟨b, us, rfl, w2, by rw [upd_ne hba]; exact w3, Reps.keep kp w4⟩
        | dct ks ys =>
          simp only [WRep] at r1 ⊢
          obtain ⟨b', us, w1, w2, w3, w4, w5⟩ := r1
          cases w1
          exact ⟨b, us, rfl, w2, by rw [upd_ne hba]; exact w3, w4, Reps.keep kp w5⟩
        | _ => cases hd
  · rcases set_get ej with ⟨rfl, h, _⟩ | ⟨hne, ej⟩
    · cases h
      exact ⟨rfl, a, e1, ea⟩
    · exact S.at_ j d' ej
  · obtain ⟨d', h⟩ := S.of j b eb
    by_cases hne : i = j
    · subst hne
      exact ⟨_, List.getElem?_set_self hi⟩
    · exact ⟨d', by rw [set_out hne]; exact h⟩
/-- the hand is written -/
theorem SSim.wrh {hs' : HS} {vs' : List V} (S : SSim G ha B0 Wr H0 own ρ hs σ H) (r : Reps G ha (BB B0 own) H hs' vs') : SSim G ha B0 Wr H0 own ρ hs' σ (upd H ha (.lst vs')) := by
  obtain ⟨vs, s, _⟩ := S.sim.hnd.at_
  have kx : Ext ha H (upd H ha (.lst vs')) := Keep.wr (S := fun b => b = ha) rfl s (fun _ z => nomatch z) (fun _ _ z => nomatch z)
  have kp : Keep (BB B0 own) H (upd H ha (.lst vs')) := kx.imp fun b z => by rw [z]; exact .inl S.hB
  refine S.later kx ⟨.inl S.hB, ⟨vs', upd_same, Reps.keep kp r⟩, fun b z => ?_, tabs_put S.sim.hnd.tab s (fun _ z => nomatch z) (fun _ _ z => nomatch z)⟩
  by_cases h : b = ha
  · rw [h, upd_same]
    exact ⟨_, rfl, nt_lst⟩
  · rw [upd_ne h]
    exact S.sim.hnd.trk b z
end
end
end PD

set_option Elab.async false
set_option linter.all false
set_option maxRecDepth 100000
set_option maxHeartbeats 2000000
/-! P13: statements. -/
namespace PD
open PySem PySem.Spec PyProof.Rows L2 RZ
abbrev Mng := PEnv → HS → Res Fl
def MS (c : Ctx) (sts : List Stmt) (f : Mng) : Prop :=
  ∃ t : TS, (∀ X, XOk c X → PSs X sts t) ∧ ∀ ha B0 Wr H0 own ρ hs σ H D, SSim c.G ha B0 Wr H0 own ρ hs σ H → SPost c.G ha B0 Wr H0 D c.E (f ρ hs) → t D σ H
def MO (c : Ctx) (st : Stmt) (f : Mng) : Prop :=
  ∃ t : TS, (∀ X, XOk c X → PS X st t) ∧ ∀ ha B0 Wr H0 own ρ hs σ H D, SSim c.G ha B0 Wr H0 own ρ hs σ H → SPost c.G ha B0 Wr H0 D c.E (f ρ hs) → t D σ H
section
variable {c : Ctx}
theorem ms_nil : MS c [] (fun ρ h => .ok (.nx ρ) h) := ⟨tNext, fun X _ => pss_nil, fun ha B0 Wr H0 own ρ hs σ H D S p => p own σ H S⟩
def thenM (f g : Mng) : Mng := fun ρ h => (f ρ h).bind fun x h => match x with
  | .nx ρ' => g ρ' h
  | x => .ok x h
section
variable {G : Cfg} {ha : Addr} {B0 Wr : Addr → Prop} {H0 H H1 : Hp} {own : Own} {ρ : PEnv} {hs hs1 : HS} {σ : St} {D D' : Ends} {E : XK}
/-- the first part of a block -/
theorem SPost.seq {f : Res Fl} {g : Fl → HS → Res Fl} (p : SPost G ha B0 Wr H0 D E (f.bind g)) (hn : ∀ ρ h, f = .ok (.nx ρ) h → SPost G ha B0 Wr H0 D E (g (.nx ρ) h) → NPost G ha B0 Wr H0 D'.nx ρ h)
    (hb : ∀ ρ h, f = .ok (.bk ρ) h → SPost G ha B0 Wr H0 D E (g (.bk ρ) h) → NPost G ha B0 Wr H0 D'.bk ρ h) (hc : ∀ ρ h, f = .ok (.ct ρ) h → SPost G ha B0 Wr H0 D E (g (.ct ρ) h) → NPost G ha B0 Wr H0 D'.ct ρ h)
    (hr : ∀ d h, f = .ok (.rt d) h → SPost G ha B0 Wr H0 D E (g (.rt d) h) → SPost G ha B0 Wr H0 D' E (.ok (.rt d) h)) : SPost G ha B0 Wr H0 D' E f := by
  cases f with
  | stuck => exact p.elim
  | exc e h => exact p
  | ok x h =>
    cases x with
    | nx ρ => exact hn ρ h rfl p
    | bk ρ => exact hb ρ h rfl p
    | ct ρ => exact hc ρ h rfl p
    | rt d => exact hr d h rfl p
end
theorem ms_cons {st : Stmt} {rest : List Stmt} {f g : Mng} (h1 : MO c st f) (h2 : MS c rest g) : MS c (st :: rest) (thenM f g) := by
  obtain ⟨t1, p1, q1⟩ := h1
  obtain ⟨t2, p2, q2⟩ := h2
  refine ⟨tSeq t1 t2, fun X hx => pss_cons (p1 X hx) (p2 X hx), fun ha B0 Wr H0 own ρ hs σ H D S p => ?_⟩
  refine q1 ha B0 Wr H0 own ρ hs σ H { D with nx := t2 D } S (p.seq (fun ρ h _ p => ?_) (fun ρ h _ p => p) (fun ρ h _ p => p) (fun d h _ p => p))
  exact fun own σ H S => q2 ha B0 Wr H0 own ρ h σ H D S p
theorem ms_frz {sts : List Stmt} {f : Mng} {is : List Nat} (h : MS c sts f) : MS c sts (fun ρ h => f (frzL is ρ) h) := by
  obtain ⟨t, p, q⟩ := h
  refine ⟨t, p, fun ha B0 Wr H0 own ρ hs σ H D S p => ?_⟩
  obtain ⟨own', S'⟩ := S.frz (is := is)
  exact q ha B0 Wr H0 own' _ hs σ H D S' p
theorem mo_dead {st : Stmt} : MO c st (fun _ _ => .stuck) := ⟨tNever, fun X _ => ps_never, fun ha B0 Wr H0 own ρ hs σ H D S p => p.elim⟩
theorem ms_dead {sts : List Stmt} : MS c sts (fun _ _ => .stuck) := ⟨tNever, fun X _ => pss_never, fun ha B0 Wr H0 own ρ hs σ H D S p => p.elim⟩
theorem mo_pass {pos : Pos} : MO c (.Pass pos) (fun ρ h => .ok (.nx ρ) h) := ⟨tNext, fun X _ => ps_pass, fun ha B0 Wr H0 own ρ hs σ H D S p => p own σ H S⟩
theorem mo_doc {x : Str} {j : Nat} {pos pos' : Pos} : MO c (.Expr (.Constant (.str x) j pos) pos') (fun ρ h => .ok (.nx ρ) h) := ⟨tNext, fun X _ => ps_doc, fun ha B0 Wr H0 own ρ hs σ H D S p => p own σ H S⟩
theorem mo_brk {pos : Pos} : MO c (.Break pos) (fun ρ h => .ok (.bk ρ) h) := ⟨tBreak, fun X _ => ps_break, fun ha B0 Wr H0 own ρ hs σ H D S p => p own σ H S⟩
theorem mo_cnt {pos : Pos} : MO c (.Continue pos) (fun ρ h => .ok (.ct ρ) h) := ⟨tCont, fun X _ => ps_continue, fun ha B0 Wr H0 own ρ hs σ H D S p => p own σ H S⟩
theorem mo_retN {pos : Pos} : MO c (.Return none pos) (fun _ h => .ok (.rt .non) h) := ⟨tRetN, fun X _ => ps_retN, fun ha B0 Wr H0 own ρ hs σ H D S p => p .non H S.ext S.h0 (by simp only [Rep])⟩
theorem mo_ret {e : Expr} {f : PEnv → HS → Res D} {pos : Pos} (h : ES .st c e f) : MO c (.Return (some e) pos) (fun ρ h => (f ρ h).bind fun d h => .ok (.rt d) h) := by
  obtain ⟨t, p, q⟩ := h
  refine ⟨tRet t, fun X hx => ps_ret (p X hx), fun ha B0 Wr H0 own ρ hs σ H D S p => ?_⟩
  refine q ha _ ρ hs σ H _ S.sim (SPost.first S p fun d hs1 _ v H1 k1 h1 r1 p' => ?_)
  exact p' v H1 (S.ext.trans (k1.imp fun b z => z ▸ S.hW)) (h1.sub S.hB fun b z => .inl z) (Rep.sub r1 fun b z => .inl z)
def plainV : Expr → Bool
  | .ListComp _ _ _ _ => false
  | .SetComp _ _ _ _ => false
  | .DictComp _ _ _ _ _ => false
  | _ => true
theorem sw_of {e : Expr} {t : Option Expr} {l : Nat} {env : PySem.Env} (h : plainV e = true) : swapsWith e t l env = pure false := by
  cases e <;> first | rfl | cases h
theorem mo_expr {e : Expr} {f : PEnv → HS → Res D} {pos : Pos} {m : Md} (h : ES m c e f) (hv : plainV e = true) : MO c (.Expr e pos) (fun ρ h => (f ρ h).bind fun _ h => .ok (.nx ρ) h) := by
  obtain ⟨t, p, q⟩ := h
  refine ⟨tDrop t, fun X hx => ps_expr (p X hx) (sw_of hv), fun ha B0 Wr H0 own ρ hs σ H D S p => ?_⟩
  refine q ha _ ρ hs σ H _ S.sim (SPost.first S p fun d hs1 _ v H1 k1 h1 r1 p' => ?_)
  exact p' _ _ _ (S.later k1 h1)
theorem mo_ite {e : Expr} {a b : List Stmt} {f : PEnv → HS → Res Bool} {g k : Mng} {pos : Pos} (h : CS c e f) (ha : MS c a g) (hb : MS c b k) : MO c (.If e a b pos) (fun ρ h => (f ρ h).bind fun x h => if x then g ρ h else k ρ h) := by
  obtain ⟨t, p, q⟩ := h
  obtain ⟨ta, pa, qa⟩ := ha
  obtain ⟨tb, pb, qb⟩ := hb
  refine ⟨tIfS t ta tb, fun X hx => ps_if (p X hx) (pa X hx) (pb X hx), fun ha B0 Wr H0 own ρ hs σ H D S p => ?_⟩
  refine q ha _ ρ hs σ H _ S.sim (SPost.first S p fun x hs1 _ v H1 k1 h1 r1 p' => ?_)
  have r1 : v = x := r1
  subst r1
  cases v with
  | true =>
    rw [if_pos rfl] at p' ⊢
    exact qa ha B0 Wr H0 own ρ hs1 σ H1 D (S.later k1 h1) p'
  | false =>
    rw [if_neg Bool.false_ne_true] at p' ⊢
    exact qb ha B0 Wr H0 own ρ hs1 σ H1 D (S.later k1 h1) p'

/-! ### stores -/
theorem SSim.lt {G : Cfg} {ha : Addr} {B0 Wr : Addr → Prop} {H0 H : Hp} {own : Own} {ρ : PEnv} {hs : HS} {σ : St} (S : SSim G ha B0 Wr H0 own ρ hs σ H) {i : Nat} (h : ¬ i < ρ.length) (x : Slot) (o : Option V) : ρ.set i x = ρ ∧ σ.set i o = σ := by
  have := S.sim.len
  exact ⟨List.set_eq_of_length_le (by omega), List.set_eq_of_length_le (by omega)⟩
theorem set_sem {te : TE} {f : PEnv → HS → Res D} {i : Nat} (q : SemE .st c te f) : ∀ ha B0 Wr H0 own ρ hs σ H D, SSim c.G ha B0 Wr H0 own ρ hs σ H → SPost c.G ha B0 Wr H0 D c.E ((f ρ hs).bind fun d h => .ok (.nx (ρ.set i (.val d))) h) → tAsg te (gName i) D σ H := fun ha B0 Wr H0 own ρ hs σ H D S p => by
  refine q ha _ ρ hs σ H _ S.sim (SPost.first S p fun d hs1 _ v H1 k1 h1 r1 p' => ?_)
  exact p' _ _ _ ((S.later k1 h1).val r1)
theorem setO_sem {te : TE} {f : PEnv → HS → Res D} {i : Nat} (q : SemE .fr c te f) : ∀ ha B0 Wr H0 own ρ hs σ H D, SSim c.G ha B0 Wr H0 own ρ hs σ H → SPost c.G ha B0 Wr H0 D c.E ((f ρ hs).bind fun d h => .ok (.nx (ρ.set i (slotOf true d))) h) → tAsg te (gName i) D σ H := fun ha B0 Wr H0 own ρ hs σ H D S p => by
  refine q ha _ ρ hs σ H _ S.sim (SPost.first S p fun d hs1 _ v H1 k1 h1 r1 p' => ?_)
  have r1 : Fresh c.G ha (BB B0 own) H H1 d v hs1 := r1
  show D.nx (σ.set i (some v)) H1
  cases ht : atom d with
  | true =>
    unfold slotOf at p'
    rw [ht] at p'
    exact p' _ _ _ ((S.later k1 h1).val (Fresh.rep r1))
  | false =>
    unfold slotOf at p'
    rw [ht] at p'
    by_cases hi : i < ρ.length
    · obtain ⟨pp, S'⟩ := S.new hi k1 ht r1
      exact p' _ _ _ S'
    · obtain ⟨e1, e2⟩ := S.lt hi (.own d) (some v)
      rw [e2]
      have p2 : NPost c.G ha B0 Wr H0 D.nx (ρ.set i (.own d)) hs1 := p'
      rw [e1] at p2
      exact p2 _ _ _ (S.later k1 h1)
theorem XOk.set {X : Cx} (hx : XOk c X) {x : Str} {i : Nat} {e : Expr} {te : TE} {p pos : Pos} (hN : c.N[i]? = some x) (hv : Loc c.sc x) (hs : c.sto x = true) (he : PE X e te) (hw : plainV e = true) : PS X (.Assign [.Name x p] e pos) (tAsg te (gName i)) :=
  ps_set (by rw [hx.eN]; exact hx.nd) (by rw [hx.eN]; exact hN) (by rw [hx.eS]; exact hv) he (sw_of hw) (by rw [hx.eS]; exact hx.fnl x hs)
theorem mo_set {x : Str} {i : Nat} {e : Expr} {f : PEnv → HS → Res D} {p pos : Pos} (hN : c.N[i]? = some x) (hv : Loc c.sc x) (hs : c.sto x = true) (hw : plainV e = true) (h : ES .st c e f) :
    MO c (.Assign [.Name x p] e pos) (fun ρ h => (f ρ h).bind fun d h => .ok (.nx (ρ.set i (.val d))) h) := by
  obtain ⟨t, pt, q⟩ := h
  exact ⟨tAsg t (gName i), fun X hx => hx.set hN hv hs (pt X hx) hw, set_sem q⟩
theorem mo_setO {x : Str} {i : Nat} {e : Expr} {f : PEnv → HS → Res D} {p pos : Pos} (hN : c.N[i]? = some x) (hv : Loc c.sc x) (hs : c.sto x = true) (hw : plainV e = true) (h : ES .fr c e f) :
    MO c (.Assign [.Name x p] e pos) (fun ρ h => (f ρ h).bind fun d h => .ok (.nx (ρ.set i (slotOf true d))) h) := by
  obtain ⟨t, pt, q⟩ := h
  exact ⟨tAsg t (gName i), fun X hx => hx.set hN hv hs (pt X hx) hw, setO_sem q⟩
/-- does the value go to the name before the block's names come back -/
def swB (sc : Scope) (y : Str) (l1 l2 : Nat) (scope : Scope) : Bool := (if sc.kind.isAnnotationScope then .function else sc.kind) == ScopeKind.function && sc.names.lookup y == some .local && l1 == l2 && !(scope.names.any fun (n, k) => n == y && (k == .local || k == .cell))
theorem swB_ok {elt : Expr} {gens : List Comprehension} {scope : Scope} {pos py : Pos} {y : Str} {l : Nat} {env : PySem.Env} : swapsWith (.ListComp elt gens scope pos) (some (.Name y py)) l env = pure (swB env.scope y py.line pos.line scope) := rfl
theorem ps_lcs {X : Cx} (hx : XOk c X) {elt tg iter : Expr} {ifs : List Expr} {scope : Scope} {own : List (Str × Nat)} {it : IT} {fs : PEnv → HS → Res (List D)} {fc : PEnv → HS → Res Bool} {fe : PEnv → HS → Res D} {pos spos py : Pos} {y : Str} {i : Nat}
    {wi : TI} {g : TG} {tt : TT} {te : TE} (L : LcOk c elt tg iter ifs scope own it fs fc fe) (hN : c.N[i]? = some y) (hv : Loc c.sc y) (hs : c.sto y = true) (pw : ∀ X, XOk c X → PI X tg iter wi) (pg : ∀ X, XOk (c.inn scope) X → PG X tg g) (pt : ∀ X, XOk (c.inn scope) X → PTs X ifs tt)
    (pe : ∀ X, XOk (c.inn scope) X → PE X elt te) : PS X (.Assign [.Name y py] (.ListComp elt [⟨tg, iter, ifs, 0⟩] scope pos) spos) (tAsg (tLc wi g tt te (own.map (·.2))) (gName i)) := by
  have nd : X.N.Nodup := by rw [hx.eN]; exact hx.nd
  have bk : BlkOk X.N X.env.scope scope own := by rw [hx.eN, hx.eS]; exact blkOk_by L.blk
  cases hw : swB X.env.scope y py.line pos.line scope with
  | true =>
    have hl : X.env.scope.names.lookup y = some .local := by
      unfold swB at hw
      simp only [Bool.and_eq_true] at hw
      exact eq_of_beq (α := Option NameKind) hw.1.1.2
    exact ps_setLc (hx.eC L.calm) nd (by rw [hx.eN]; exact hN) hl (by rw [swB_ok, hw]) (pw X hx) bk (fun s H C cl fp => pg _ (hx.inn scope s H C cl fp)) (fun s H C cl fp => pt _ (hx.inn scope s H C cl fp)) (fun s H C cl fp => pe _ (hx.inn scope s H C cl fp)) (set_of L.ps)
  | false =>
    exact ps_set nd (by rw [hx.eN]; exact hN) (by rw [hx.eS]; exact hv) (pe_lc (hx.eC L.calm) nd (pw X hx) bk (fun s H C cl fp => pg _ (hx.inn scope s H C cl fp)) (fun s H C cl fp => pt _ (hx.inn scope s H C cl fp)) (fun s H C cl fp => pe _ (hx.inn scope s H C cl fp)) (set_of L.ps)) (by rw [swB_ok, hw]) (by rw [hx.eS]; exact hx.fnl y hs)
theorem mo_setLc {elt tg iter : Expr} {ifs : List Expr} {scope : Scope} {own : List (Str × Nat)} {it : IT} {fs : PEnv → HS → Res (List D)} {fc : PEnv → HS → Res Bool} {fe : PEnv → HS → Res D} {pos spos py : Pos} {y : Str} {i : Nat} (o : Bool)
    (L : LcOk c elt tg iter ifs scope own it fs fc fe) (hN : c.N[i]? = some y) (hv : Loc c.sc y) (hs : c.sto y = true) :
    MO c (.Assign [.Name y py] (.ListComp elt [⟨tg, iter, ifs, 0⟩] scope pos) spos) (fun ρ h => (lcM own it fs fc fe ρ h).bind fun d h => .ok (.nx (ρ.set i (if o then slotOf true d else .val d))) h) := by
  obtain ⟨wi, pw, qw⟩ := L.w
  obtain ⟨g, pg, qg⟩ := L.g
  obtain ⟨tt, pt, qt⟩ := L.t
  obtain ⟨te, pe, qe⟩ := L.e
  refine ⟨tAsg (tLc wi g tt te (own.map (·.2))) (gName i), fun X hx => ps_lcs hx L hN hv hs pw pg pt pe, ?_⟩
  have sem : SemE .fr c (tLc wi g tt te (own.map (·.2))) (lcM own it fs fc fe) := fun ha B ρ hs σ H Q S p => tLc_ok (tg := tg) (iter := iter) (elt := elt) (ifs := ifs) (scope := scope) (c := c) L.sl qw qg qt qe ha B ρ hs σ H Q S p
  cases o with
  | true => exact setO_sem sem
  | false => exact set_sem (fun ha B ρ hs σ H Q S p => sem ha B ρ hs σ H Q S (p.rel fun a v H' hs' k hh r => Fresh.rep r))
theorem SSim.stored {G : Cfg} {ha : Addr} {B0 Wr : Addr → Prop} {H0 H : Hp} {own : Own} {ρ ρ' : PEnv} {hs : HS} {σ σ' : St} {ss : List Nat} (S : SSim G ha B0 Wr H0 own ρ hs σ H) (t : Stored (Rep G ha (BB B0 own) H) ss ρ ρ' σ σ') : ∃ own', SSim G ha B0 Wr H0 own' ρ' hs σ' H := by
  let own' : Own := fun j => if j ∈ ss then none else own j
  have os : ∀ {j a}, own' j = some a → own j = some a ∧ j ∉ ss := fun {j a} h => by
    by_cases hj : j ∈ ss
    · simp only [own', if_pos hj] at h
      cases h
    · simp only [own', if_neg hj] at h
      exact ⟨h, hj⟩
  have sub : ∀ b, BB B0 own' b → BB B0 own b := fun b z => z.elim .inl fun ⟨j, e⟩ => .inr ⟨j, (os e).1⟩
  have S1 : ESim G ha (BB B0 own') ρ' hs σ' H := (S.sim.stored t).later (fun b z => .inl (sub b z)) .refl (S.sim.hnd.sub (.inl S.hB) sub)
  refine ⟨own', fun j k a e1 e2 => S.inj j k a (os e1).1 (os e2).1, fun j a e => S.fr j a (os e).1, S.ext, S.hW, S.hB, S1, fun j d e => ?_, fun j a e => ?_⟩
  · by_cases hj : j ∈ ss
    · have hl : j < ρ.length := by
        rw [← t.l1]
        exact (List.getElem?_eq_some_iff.mp e).1
      obtain ⟨d', v, e1, _, _⟩ := t.at_ j hj hl
      rw [e1] at e
      cases e
    · obtain ⟨e1, e2⟩ := t.out j hj
      rw [e1] at e
      obtain ⟨h1, a, h2, h3⟩ := S.at_ j d e
      exact ⟨h1, a, by simp only [own', if_neg hj]; exact h2, by rw [e2]; exact h3⟩
  · obtain ⟨e, hj⟩ := os e
    obtain ⟨d, h⟩ := S.of j a e
    exact ⟨d, by rw [(t.out j hj).1]; exact h⟩
theorem sole_of {tg e : Expr} {l : Nat} {env : PySem.Env} (hv : plainV e = true) : swapsWithSole [tg] e l env = pure false := sw_of hv
def notTupE : Expr → Bool
  | .Tuple _ _ _ => false
  | _ => true
theorem sws_of {ts : List Expr} {e : Expr} {env : PySem.Env} (hv : notTupE e = true) : swappedStores ts e env = pure none := by
  unfold swappedStores
  split
  · rename_i h
    split at h <;> first | cases hv | cases h
  · rfl
theorem mo_setT {tg e : Expr} {it : IT} {f : PEnv → HS → Res D} {pos : Pos} (hg : GS c tg it) (h : ES .st c e f) (hw : plainV e = true) (hv : notTupE e = true) (hp : plainE tg = true) :
    MO c (.Assign [tg] e pos) (fun ρ h => (f ρ h).bind fun d h => ofO ((asgT it d ρ).map .nx) h) := by
  obtain ⟨t, pt, q⟩ := h
  obtain ⟨g, pg, qg⟩ := hg
  refine ⟨tAsg t g, fun X hx => ps_asg (pt X hx) (pg X hx) (sole_of hw) (sws_of hv) (by rw [ase_of hp]; rfl), fun ha B0 Wr H0 own ρ hs σ H D S p => ?_⟩
  refine q ha _ ρ hs σ H _ S.sim (SPost.first S p fun d hs1 _ v H1 k1 h1 r1 p' => ?_)
  cases e1 : asgT it d ρ with
  | none => rw [e1] at p'; exact p'.elim
  | some ρ' =>
    rw [e1] at p'
    refine qg ha _ H1 d v σ ρ ρ' _ r1 e1 S.sim.len fun σ' st => ?_
    obtain ⟨own', S'⟩ := (S.later k1 h1).stored st
    exact p' _ _ _ S'
end
end PD

set_option Elab.async false
set_option linter.all false
set_option maxRecDepth 100000
set_option maxHeartbeats 2000000
/-! P14: statements: writes, loops. -/
namespace PD
open PySem PySem.Spec PyProof.Rows L2 RZ
section
variable {c : Ctx}
/-! ### x op= e -/
def augOp (o : BOp) : Operator := bop o
def ipB : BOp → TIp
  | .add => ipI fun i j => i + j
  | .sub => ipI fun i j => i - j
  | _ => fun _ _ _ _ => False
theorem ipB_ok {X : Cx} : ∀ o : BOp, PIp X (bop o) (ipB o)
  | .add => ip_add
  | .sub => ip_sub
  | .mul => fun _ _ _ _ _ _ _ _ _ _ _ _ h => h.elim
  | .fdiv => fun _ _ _ _ _ _ _ _ _ _ _ _ h => h.elim
  | .mod => fun _ _ _ _ _ _ _ _ _ _ _ _ h => h.elim
  | .pow => fun _ _ _ _ _ _ _ _ _ _ _ _ h => h.elim
  | .band => fun _ _ _ _ _ _ _ _ _ _ _ _ h => h.elim
  | .shl => fun _ _ _ _ _ _ _ _ _ _ _ _ h => h.elim
theorem mo_aug {x : Str} {i : Nat} {o : BOp} {e : Expr} {f : PEnv → HS → Res D} {p pos : Pos} (hN : c.N[i]? = some x) (hv : Loc c.sc x) (hs : c.sto x = true) (h : ES .wk c e f) :
    MO c (.AugAssign (.Name x p) (bop o) e pos) (fun ρ h => match ρ[i]? with
    | some (.val (.int x)) => (f ρ h).bind fun y h => (match o, y with
      | .add, .int y => .ok (.nx (ρ.set i (.val (.int (x + y))))) h
      | .sub, .int y => .ok (.nx (ρ.set i (.val (.int (x - y))))) h
      | _, _ => .stuck)
    | _ => .stuck) := by
  obtain ⟨t, pt, q⟩ := h
  refine ⟨tAug i t (ipB o), fun X hx => ps_aug (by rw [hx.eN]; exact hx.nd) (by rw [hx.eN]; exact hN) (by rw [hx.eS]; exact hv) (pt X hx) (ipB_ok o) (by rw [hx.eS]; exact hx.fnl x hs), fun ha B0 Wr H0 own ρ hs σ H D S p => ?_⟩
  dsimp only at p
  split at p
  · rename_i n e1
    obtain ⟨v, e2, r⟩ := S.sim.at_ i _ e1
    simp only [Rep] at r
    subst r
    refine ⟨_, e2, ?_⟩
    refine q ha _ ρ hs σ H _ S.sim (SPost.first S p fun y hs1 _ v H1 k1 h1 r1 p' => ?_)
    have ry := re_w r1
    split at p'
    · exact ⟨n, _, rfl, ry.int_, p' _ _ _ ((S.later k1 h1).val (by simp only [Rep]))⟩
    · exact ⟨n, _, rfl, ry.int_, p' _ _ _ ((S.later k1 h1).val (by simp only [Rep]))⟩
    · exact p'.elim
  · exact p.elim

/-! ### x.append(e), x.extend(e) -/
theorem bm_of {X : Cx} {id : String} {name : Str} {r : V → List V → Hp → VK → Prop} {o e : Expr} {to te : TE} {apos cpos : Pos} (slot : PySem.Slot "list" name id) (hty : typeOf (.builtin id) = pure (.type "method_descriptor")) (hm : MtM X id r) (ho : PE X o to) (he : PE X e te) (hb : plainB o = true) (hp : plainE e = true) (hl : (apos.endLine == cpos.line) = true) :
    PE X (.Call (.Attribute o name apos) [e] [] cpos) (tBM X.K "list" r to (tCons te tNil)) :=
  pe_bm PySem.F.plainAttrs_list slot hty hm ho (pa_cons he pa_nil (star_of hp)) (base_of hb) (few_of hp) hl (star_of hp) rfl
theorem mo_app {x : Str} {i : Nat} {e : Expr} {f : PEnv → HS → Res D} {p apos cpos pos : Pos} (hN : c.N[i]? = some x) (hv : Vis c.sc x) (hd : (x == ("__debug__" : Str)) = false) (hcd : (x == ("__classdict__" : Str)) = false) (hp : plainE e = true) (hl : (apos.endLine == cpos.line) = true) (h : ES .st c e f) :
    MO c (.Expr (.Call (.Attribute (.Name x p) "append" apos) [e] [] cpos) pos) (fun ρ h => match ρ[i]? with
    | some (.own (.lst xs)) => (f ρ h).bind fun d h => if xs.length < line then .ok (.nx (ρ.set i (.own (.lst (xs ++ [d]))))) h else .stuck
    | _ => .stuck) := by
  obtain ⟨t, pt, q⟩ := h
  refine ⟨tDrop (tBM c.G.K "list" rAppend (tVar i) (tCons t tNil)), fun X hx => ps_expr (by rw [← hx.eK]; exact bm_of PySem.F.slot_list_append PySem.F.type_list_append mt_append (pe_var (by rw [hx.eN]; exact hN) (hx.vis hv) hd hcd) (pt X hx) rfl hp hl) rfl, fun ha B0 Wr H0 own ρ hs σ H D S p => ?_⟩
  dsimp only at p
  split at p
  · rename_i xs e1
    obtain ⟨_, a, e2, e3⟩ := S.at_ i _ e1
    have at_ : ∀ {hs H}, ESim c.G ha (BB B0 own) ρ hs σ H → ∃ vs, a ≠ ha ∧ H a = some (.lst vs) ∧ Reps c.G ha (BB B0 own) H xs vs := fun {hs H} S => by
      obtain ⟨v, q1, q2⟩ := S.at_ i _ e1
      rw [e3] at q1
      cases q1
      simp only [WRep] at q2
      obtain ⟨a', vs, w1, w2, w3, w4⟩ := q2
      cases w1
      exact ⟨vs, w2, w3, w4⟩
    obtain ⟨vs, _, s, _⟩ := at_ S.sim
    refine ⟨_, e3, .inl ⟨rfl, vs, .inl (.inl s)⟩, ?_⟩
    refine q ha _ ρ hs σ H _ S.sim (SPost.first S p fun d hs1 _ v H1 k1 h1 r1 p' => ?_)
    have S1 := S.later k1 h1
    obtain ⟨us, _, s1, rs⟩ := at_ S1.sim
    split at p'
    · rename_i hl
      refine ⟨a, us, v, rfl, rfl, s1, by rw [line_eq, ← rs.length]; exact hl, ?_⟩
      exact p' _ _ _ (S1.wrt e1 e3 (rs.append (.cons r1 .nil)))
    · exact p'.elim
  · exact p.elim
theorem mo_ext {x : Str} {i : Nat} {e : Expr} {f : PEnv → HS → Res D} {p apos cpos pos : Pos} (hN : c.N[i]? = some x) (hv : Vis c.sc x) (hd : (x == ("__debug__" : Str)) = false) (hcd : (x == ("__classdict__" : Str)) = false) (hp : plainE e = true) (hl : (apos.endLine == cpos.line) = true) (h : ES .wk c e f) :
    MO c (.Expr (.Call (.Attribute (.Name x p) "extend" apos) [e] [] cpos) pos) (fun ρ h => match ρ[i]? with
    | some (.own (.lst xs)) => (f ρ h).bind fun d h => match d with
      | .lst ys => if xs.length + ys.length ≤ line then .ok (.nx (ρ.set i (.own (.lst (xs ++ ys))))) h else .stuck
      | _ => .stuck
    | _ => .stuck) := by
  obtain ⟨t, pt, q⟩ := h
  refine ⟨tDrop (tBM c.G.K "list" rExtend (tVar i) (tCons t tNil)), fun X hx => ps_expr (by rw [← hx.eK]; exact bm_of PySem.F.slot_list_extend PySem.F.type_list_extend mt_extend (pe_var (by rw [hx.eN]; exact hN) (hx.vis hv) hd hcd) (pt X hx) rfl hp hl) rfl, fun ha B0 Wr H0 own ρ hs σ H D S p => ?_⟩
  dsimp only at p
  split at p
  · rename_i xs e1
    obtain ⟨_, a, e2, e3⟩ := S.at_ i _ e1
    have at_ : ∀ {hs H}, ESim c.G ha (BB B0 own) ρ hs σ H → ∃ vs, a ≠ ha ∧ H a = some (.lst vs) ∧ Reps c.G ha (BB B0 own) H xs vs := fun {hs H} S => by
      obtain ⟨v, q1, q2⟩ := S.at_ i _ e1
      rw [e3] at q1
      cases q1
      simp only [WRep] at q2
      obtain ⟨a', vs, w1, w2, w3, w4⟩ := q2
      cases w1
      exact ⟨vs, w2, w3, w4⟩
    obtain ⟨vs, _, s, _⟩ := at_ S.sim
    refine ⟨_, e3, .inl ⟨rfl, vs, .inl (.inl s)⟩, ?_⟩
    refine q ha _ ρ hs σ H _ S.sim (SPost.first S p fun d hs1 _ v H1 k1 h1 r1 p' => ?_)
    have S1 := S.later k1 h1
    obtain ⟨us, _, s1, rs⟩ := at_ S1.sim
    split at p'
    · split at p'
      · rename_i ys hl
        obtain ⟨b, ws, rfl, s2, rs2⟩ := (re_w r1).lst_
        refine ⟨a, b, us, ws, rfl, rfl, s1, s2, by rw [line_eq, ← rs.length, ← rs2.length]; exact hl, ?_⟩
        exact p' _ _ _ (S1.wrt e1 e3 (rs.append rs2))
      · exact p'.elim
    · exact p'.elim
  · exact p.elim

/-! ### x[k] = e -/
theorem setD_ok {xs ys : List D} {z d : D} (h : setD xs z d = some ys) : ∃ k j, z = .int k ∧ PD.ixN xs.length k = some j ∧ ys = xs.set j d := by
  unfold setD at h
  cases z with
  | int k =>
    simp only [Option.map_eq_some_iff] at h
    obtain ⟨j, e, rfl⟩ := h
    exact ⟨k, j, rfl, e, rfl⟩
  | _ => cases h
theorem setK_ok {ks xs : List D} {z d : D} {r : List D × List D} (h : setK ks xs z d = some r) : ∃ k, keyD z = some k ∧ ks.length < line ∧ r = dput ks xs k d := by
  unfold setK at h
  split at h
  · rename_i k e
    split at h
    · rename_i hl
      exact ⟨k, e, hl, (Option.some.inj h).symm⟩
    · cases h
  · cases h
def rSetLD : TSet := fun o i v H Q => rSetL o i v H Q ∨ rSetD o i v H Q
theorem set_ld {X : Cx} (hu : X.A.units + 1 < cLine) : PSet X rSetLD := by
  intro pins s σ H o i v ov iv u Q I ro ri rv h
  rcases h with h | h
  · exact set_list pins s σ H o i v ov iv u Q I ro ri rv h
  · exact set_dict hu pins s σ H o i v ov iv u Q I ro ri rv h
theorem mo_setIx {x : Str} {i : Nat} {b e : Expr} {f g : PEnv → HS → Res D} {p tp pos : Pos} (hN : c.N[i]? = some x) (hv : Vis c.sc x) (hd : (x == ("__debug__" : Str)) = false) (hcd : (x == ("__classdict__" : Str)) = false) (hw : plainV e = true) (hix : plainIx b = true) (h : ES .st c e f) (h2 : ES .wk c b g) :
    MO c (.Assign [.Subscript (.Name x p) b tp] e pos) (fun ρ h => (f ρ h).bind fun d h => match ρ[i]? with
    | some (.own (.lst xs)) => (g ρ h).bind fun z h => ofO ((setD xs z d).map fun ys => .nx (ρ.set i (.own (.lst ys)))) h
    | some (.val .hnd) => (g ρ h).bind fun z h => (match setD h z d with
      | some h' => .ok (.nx ρ) h'
      | none => .stuck)
    | some (.own (.dct ks vs)) => (g ρ h).bind fun z h => ofO ((setK ks vs z d).map fun r => .nx (ρ.set i (.own (.dct r.1 r.2)))) h
    | _ => .stuck) := by
  obtain ⟨t, pt, q⟩ := h
  obtain ⟨u, pu, q2⟩ := h2
  refine ⟨tAsg t (gSub (tVar i) u rSetLD), fun X hx => ps_asg (pt X hx) (pg_sub (pe_var (by rw [hx.eN]; exact hN) (hx.vis hv) hd hcd) (pu X hx) (set_ld (by have := hx.hu; omega)) (fun v => by cases b <;> first | rfl | cases hix)) (by cases e <;> first | rfl | cases hw) (by cases e <;> rfl) rfl, fun ha B0 Wr H0 own ρ hs σ H D S p => ?_⟩
  refine q ha _ ρ hs σ H _ S.sim (SPost.first S p fun d hs1 _ v H1 k1 h1 r1 p' => ?_)
  have S1 := S.later k1 h1
  have r1 : Rep c.G ha (BB B0 own) H1 d v := r1
  split at p'
  · rename_i xs e1
    obtain ⟨_, a, e2, e3⟩ := S.at_ i _ e1
    refine ⟨_, e3, q2 ha _ ρ hs1 σ H1 _ S1.sim (SPost.first S1 p' fun z hs2 ez vz H2 k2 h2 r2 p3 => ?_)⟩
    have S2 := S1.later k2 h2
    have rd : Rep c.G ha (BB B0 own) H2 d v := Rep.keep (k2.imp fun b z => by rw [z]; exact .inl S.hB) r1
    cases ej : setD xs z d with
    | none => rw [ej] at p3; exact p3.elim
    | some ys =>
      rw [ej] at p3
      obtain ⟨k, j, rfl, e4, rfl⟩ := setD_ok ej
      obtain ⟨v', q1, q2'⟩ := S2.sim.at_ i _ e1
      rw [e3] at q1
      cases q1
      simp only [WRep] at q2'
      obtain ⟨a', vs, w1, w2, w3, w4⟩ := q2'
      cases w1
      refine .inl ⟨a, vs, k, j, rfl, (re_w r2).int_, w3, ?_, ?_⟩
      · rw [← w4.length]
        exact e4
      · exact p3 _ _ _ (S2.wrt e1 e3 (Reps.set rd j w4))
  · rename_i hh
    obtain ⟨w, ew, rw_⟩ := S.sim.at_ i _ hh
    simp only [Rep] at rw_
    subst rw_
    refine ⟨_, ew, q2 ha _ ρ hs1 σ H1 _ S1.sim (SPost.first S1 p' fun z hs2 ez vz H2 k2 h2 r2 p3 => ?_)⟩
    have S2 := S1.later k2 h2
    have rd : Rep c.G ha (BB B0 own) H2 d v := Rep.keep (k2.imp fun b z => by rw [z]; exact .inl S.hB) r1
    cases ej : setD hs2 z d with
    | none => rw [ej] at p3; exact p3.elim
    | some ys =>
      rw [ej] at p3
      obtain ⟨k, j, rfl, e4, rfl⟩ := setD_ok ej
      obtain ⟨vs, w3, w4⟩ := h2.at_
      refine .inl ⟨ha, vs, k, j, rfl, (re_w r2).int_, w3, ?_, ?_⟩
      · rw [← w4.length]
        exact e4
      · exact p3 _ _ _ (S2.wrh (Reps.set rd j w4))
  · rename_i ks xs e1
    obtain ⟨_, a, e2, e3⟩ := S.at_ i _ e1
    refine ⟨_, e3, q2 ha _ ρ hs1 σ H1 _ S1.sim (SPost.first S1 p' fun z hs2 ez vz H2 k2 h2 r2 p3 => ?_)⟩
    have S2 := S1.later k2 h2
    have rd : Rep c.G ha (BB B0 own) H2 d v := Rep.keep (k2.imp fun b z => by rw [z]; exact .inl S.hB) r1
    cases ej : setK ks xs z d with
    | none => rw [ej] at p3; exact p3.elim
    | some ys =>
      rw [ej] at p3
      obtain ⟨k, ekz, e4, rfl⟩ := setK_ok ej
      obtain ⟨v', q1, q2'⟩ := S2.sim.at_ i _ e1
      rw [e3] at q1
      cases q1
      simp only [WRep] at q2'
      obtain ⟨a', kvs, w1, w2, w3, w4, w5⟩ := q2'
      cases w1
      subst w4
      obtain ⟨g1, g2⟩ := dput_ok (z := k) rd w5
      have hi : vz = kV k := (re_w r2).key_ ekz
      subst hi
      exact .inr ⟨a, _, rfl, DPut.k w3 (by rw [List.length_map] at e4; rw [line_eq]; exact e4), p3 _ _ _ (S2.wrk e1 e3 g1 g2)⟩
  · exact p'.elim

/-! ### x = l.pop(), d.update(e), l[k] += e, l.insert(k, e), l.remove(e) -/
section
variable {G : Cfg} {ha : Addr} {B0 Wr : Addr → Prop} {H0 H H1 : Hp} {own : Own} {ρ : PEnv} {hs hs1 : HS} {σ : St}
/-- an owned list as it stands -/
theorem SSim.ownl {i : Nat} {xs : List D} (S : SSim G ha B0 Wr H0 own ρ hs σ H) (e : ρ[i]? = some (.own (.lst xs))) : ∃ a vs, σ[i]? = some (some (.ref a)) ∧ BB B0 own a ∧ a ≠ ha ∧ H a = some (.lst vs) ∧ Reps G ha (BB B0 own) H xs vs := by
  obtain ⟨_, a, e2, e3⟩ := S.at_ i _ e
  obtain ⟨v, q1, q2⟩ := S.sim.at_ i _ e
  rw [e3] at q1
  cases q1
  simp only [WRep] at q2
  obtain ⟨a', vs, w1, w2, w3, w4⟩ := q2
  cases w1
  exact ⟨a, vs, e3, .inr ⟨i, e2⟩, w2, w3, w4⟩
theorem SSim.ownk {i : Nat} {ks xs : List D} (S : SSim G ha B0 Wr H0 own ρ hs σ H) (e : ρ[i]? = some (.own (.dct ks xs))) : ∃ a kvs, σ[i]? = some (some (.ref a)) ∧ BB B0 own a ∧ a ≠ ha ∧ H a = some (.dK kvs) ∧ ks = kvs.map (fun p => kD p.1) ∧ Reps G ha (BB B0 own) H xs (kvs.map (·.2)) := by
  obtain ⟨_, a, e2, e3⟩ := S.at_ i _ e
  obtain ⟨v, q1, q2⟩ := S.sim.at_ i _ e
  rw [e3] at q1
  cases q1
  simp only [WRep] at q2
  obtain ⟨a', vs, w1, w2, w3, w4, w5⟩ := q2
  cases w1
  exact ⟨a, vs, e3, .inr ⟨i, e2⟩, w2, w3, w4, w5⟩
end
theorem drop_last {xs : List D} {vs : List V} {ha : Addr} {G : Cfg} {B : Addr → Prop} {H : Hp} (r : Reps G ha B H xs vs) : Reps G ha B H xs.dropLast vs.dropLast := by
  rw [List.dropLast_eq_take, List.dropLast_eq_take, r.length]
  exact r.take _
theorem mo_pop {x : Str} {i : Nat} {tg : Expr} {it : IT} {p apos cpos pos : Pos} (hN : c.N[i]? = some x) (hv : Vis c.sc x) (hd : (x == ("__debug__" : Str)) = false) (hcd : (x == ("__classdict__" : Str)) = false) (hl : (apos.endLine == cpos.line) = true) (hg : GS c tg it) (hp : plainE tg = true) :
    MO c (.Assign [tg] (.Call (.Attribute (.Name x p) "pop" apos) [] [] cpos) pos) (fun ρ h => match ρ[i]? with
    | some (.own (.lst xs)) => (match xs.getLast? with
      | some d => ofO ((asgT it d (ρ.set i (.own (.lst xs.dropLast)))).map .nx) h
      | none => .stuck)
    | _ => .stuck) := by
  obtain ⟨g, pg, qg⟩ := hg
  refine ⟨tAsg (tBM0 c.G.K "list" rPop (tVar i)) g, fun X hx => ps_asg (by rw [← hx.eK]; exact pe_bm0 PySem.F.plainAttrs_list PySem.F.slot_list_pop PySem.F.type_list_pop mt_pop (pe_var (by rw [hx.eN]; exact hN) (hx.vis hv) hd hcd) rfl hl) (pg X hx) (sole_of rfl) (sws_of rfl) (by rw [ase_of hp]; rfl), fun ha B0 Wr H0 own ρ hs σ H D S p => ?_⟩
  dsimp only at p
  split at p
  · rename_i xs e1
    obtain ⟨a, vs, e3, bA, na, s, rs⟩ := S.ownl e1
    cases el : xs.getLast? with
    | none => rw [el] at p; exact p.elim
    | some d =>
      rw [el] at p
      dsimp only at p
      rw [List.getLast?_eq_getElem?] at el
      obtain ⟨y, ey, ry⟩ := rs.get el
      rw [rs.length] at ey
      refine ⟨_, e3, .inl ⟨rfl, vs, .inl (.inl s)⟩, a, vs, y, rfl, rfl, s, ey, ?_⟩
      have S1 := S.wrt e1 e3 (drop_last rs)
      have kp : Keep (BB B0 own) H (upd H a (.lst vs.dropLast)) := Keep.wr bA s (fun _ z => nomatch z) (fun _ _ z => nomatch z)
      cases ea : asgT it d (ρ.set i (.own (.lst xs.dropLast))) with
      | none => rw [ea] at p; exact p.elim
      | some ρ' =>
        rw [ea] at p
        refine qg ha _ _ d y σ _ ρ' _ (Rep.keep kp ry) ea S1.sim.len fun σ' st => ?_
        obtain ⟨own', S'⟩ := S1.stored st
        exact p _ _ _ S'
  · exact p.elim
/-- d.update(e), both dicts with ints and texts as keys -/
def rDUpd : V → List V → Hp → VK → Prop := fun x vs H Q => ∃ (a b : Addr) (kvs more : List (Key × V)), (x = .ref a ∧ vs = [.ref b] ∧ a ≠ b) ∧ (H a = some (.dK kvs) ∧ H b = some (.dK more)) ∧ kvs.length + more.length ≤ sizeLine ∧ Q .non (upd H a (.dK (mergeK kvs more)))
theorem mtd_update {X : Cx} : MtR X "dict.update" rDUpd := by
  intro pins s σ H x vs v us Q I rx rv ⟨a, b, kvs, more, ⟨ex, ev, hab⟩, ⟨e1, e2⟩, hsz, q⟩
  subst ex
  subst ev
  obtain rfl : v = Value.ref a := rx
  obtain ⟨u, eu, ru⟩ := rv.one
  subst eu
  obtain rfl : u = Value.ref b := ru
  obtain ⟨z, hd, ws, rel, dd⟩ := dk_of I.hok e1
  obtain ⟨z2, hd2, ws2, rel2, dd2⟩ := dk_of I.hok e2
  refine call_meetsIn PySem.F.slot_dict_update dd.typeIs PySem.F.entry_dict_update (PySem.F.args_dict_update_2 _ _) (meets_dict_update (mixKind X.prog X.w) a b hab hd2) ⟨ws, ws2, dd, dd2, by rw [← rel.length, ← rel2.length]; exact hsz, fun h' d1 d2 sb => ⟨.non, _, ?_, rfl, q⟩⟩
  have hz : (mergeK kvs more).length ≤ sizeLine := Nat.le_trans (length_mergeK more kvs) hsz
  have he : ∃ q, h'.get? a = some q := let ⟨q, _, _, hq, _⟩ := d1; ⟨q, hq⟩
  exact d_write (t' := s.toks) I (by rw [e1]; exact True.intro) sb he (dk_new hz hd (rel2.merge rel) d1)
theorem mo_upd {x : Str} {i : Nat} {e : Expr} {f : PEnv → HS → Res D} {p apos cpos pos : Pos} (hN : c.N[i]? = some x) (hv : Vis c.sc x) (hd : (x == ("__debug__" : Str)) = false) (hcd : (x == ("__classdict__" : Str)) = false) (hp : plainE e = true) (hl : (apos.endLine == cpos.line) = true) (h : ES .st c e f) :
    MO c (.Expr (.Call (.Attribute (.Name x p) "update" apos) [e] [] cpos) pos) (fun ρ h => match ρ[i]? with
    | some (.own (.dct ks vs)) => (f ρ h).bind fun d h => ofO ((updD ks vs d).map fun r => .nx (ρ.set i (.own (.dct r.1 r.2)))) h
    | _ => .stuck) := by
  obtain ⟨t, pt, q⟩ := h
  refine ⟨tDrop (tBM c.G.K "dict" rDUpd (tVar i) (tCons t tNil)), fun X hx => ps_expr (by rw [← hx.eK]; exact pe_bm PySem.F.plainAttrs_dict PySem.F.slot_dict_update PySem.F.type_dict_update mtd_update (pe_var (by rw [hx.eN]; exact hN) (hx.vis hv) hd hcd) (pa_cons (pt X hx) pa_nil (star_of hp)) rfl (few_of hp) hl (star_of hp) rfl) rfl, fun ha B0 Wr H0 own ρ hs σ H D S p => ?_⟩
  dsimp only at p
  split at p
  · rename_i ks xs e1
    obtain ⟨a, kvs, e3, bA, na, s, ek, rs⟩ := S.ownk e1
    refine ⟨_, e3, .inr (.inr (.inl ⟨rfl, .inl ⟨_, s⟩⟩)), ?_⟩
    refine q ha _ ρ hs σ H _ S.sim (SPost.first S p fun d hs1 _ v H1 k1 h1 r1 p' => ?_)
    have S1 := S.later k1 h1
    obtain ⟨a2, kvs2, e4, bA2, na2, s2, ek2, rs2⟩ := S1.ownk e1
    rw [e3] at e4
    cases e4
    have r1 : Rep c.G ha (BB B0 own) H1 d v := r1
    cases eu : updD ks xs d with
    | none => rw [eu] at p'; exact p'.elim
    | some r =>
      rw [eu] at p'
      unfold updD at eu
      split at eu
      · rename_i ks' xs'
        split at eu
        · rename_i hl2
          simp only [Rep] at r1
          obtain ⟨b, more, rfl, nb, sb, eb, rb⟩ := r1
          subst eb
          rw [ek2] at eu hl2
          rw [List.length_map, List.length_map] at hl2
          obtain ⟨g1, g2⟩ := mergeD_ok rb rs2 eu
          refine ⟨a, b, kvs2, more, ⟨rfl, rfl, fun z => nb (z ▸ bA2)⟩, ⟨s2, sb⟩, by rw [line_eq]; exact hl2, ?_⟩
          exact p' _ _ _ (S1.wrk e1 e3 g1 g2)
        · cases eu
      · cases eu
  · exact p.elim
/-- l[k] -/
def rGetL (K : PySem.W.Frag) : V → V → Hp → VK → Prop := fun o i H Q => ∃ (p : Addr) (xs : List V) (z : Int) (j : Nat) (v : V), (o = .ref p ∧ i = .int z) ∧ (H p = some (.lst xs) ∧ PD.ixN xs.length z = some j ∧ xs[j]? = some v) ∧ Q v H
theorem get_lst {X : Cx} : PGet X (rGetL X.K) := by
  intro pins s σ H o i ov iv Q I ro ri ⟨p, xs, z, j, v, ⟨eo, ei⟩, ⟨hp, hj, hv⟩, q⟩
  subst eo
  subst ei
  obtain rfl : ov = Value.ref p := ro
  obtain ⟨t, rfl⟩ := ri
  have he : L2.atI xs z = some v := by
    show (PD.ixN xs.length z).bind _ = _
    rw [hj]
    exact hv
  obtain ⟨its, r, pl, hz⟩ := I.list (.inl (.inl hp))
  obtain ⟨j', h1, h2, h3, h4, h5⟩ := atI_get he
  obtain ⟨w, ew, rw'⟩ := r.get h2
  have hl := r.length
  have hn := line63
  have fin : EP X pins σ Q w s := ⟨v, H, I, rw', q⟩
  by_cases h0 : 0 ≤ z
  · have hj : z.toNat = j' := by
      rw [seqIndex_of h0 h5] at h1
      exact Option.some.inj h1
    exact wpAny_getItem_list pl.isList h0 (by omega) (by rw [hj]; simpa using ew) fin
  · have hj : (z + (its.toArray.size : Int)).toNat = j' := by
      rw [seqIndex_neg (by omega) h4] at h1
      rw [List.size_toArray, ← hl]
      exact Option.some.inj h1
    exact wpAny_getItem_list_neg pl.isList (by omega) (by rw [List.size_toArray] <;> omega) (by omega) (by rw [hj]; simpa using ew) fin
theorem ixL_ok {h : HS} {xs : List D} {z d : D} (e : ixD h (.lst xs) z = some d) : ∃ k j, z = .int k ∧ PD.ixN xs.length k = some j ∧ xs[j]? = some d := by
  cases z with
  | int k =>
    have e : PD.atI xs k = some d := e
    unfold PD.atI at e
    rw [Option.bind_eq_some_iff] at e
    obtain ⟨j, e1, e2⟩ := e
    exact ⟨k, j, rfl, e1, e2⟩
  | _ => cases e
theorem mo_augIx {x : Str} {i : Nat} {o : BOp} {b e : Expr} {f g : PEnv → HS → Res D} {p tp pos : Pos} (hN : c.N[i]? = some x) (hv : Vis c.sc x) (hd : (x == ("__debug__" : Str)) = false) (hcd : (x == ("__classdict__" : Str)) = false) (h : ES .wk c e f) (h2 : ES .wk c b g) (hix : plainIx b = true) :
    MO c (.AugAssign (.Subscript (.Name x p) b tp) (bop o) e pos) (fun ρ h => match ρ[i]? with
    | some (.own (.lst xs)) => (g ρ h).bind fun z h => (match ixD [] (.lst xs) z with
      | some (.int m) => (f ρ h).bind fun y h => ofO ((augD o m y).bind fun d => (setD xs z d).map fun ys => .nx (ρ.set i (.own (.lst ys)))) h
      | _ => .stuck)
    | _ => .stuck) := by
  obtain ⟨t, pt, q⟩ := h
  obtain ⟨u, pu, q2⟩ := h2
  refine ⟨tAugS (tVar i) u t (rGetL c.G.K) (ipB o) rSetL, fun X hx => by rw [← hx.eK]; exact ps_augS (pe_var (by rw [hx.eN]; exact hN) (hx.vis hv) hd hcd) (pu X hx) get_lst (pt X hx) (ipB_ok o) set_list (fun ov iv new => by cases b <;> first | rfl | cases hix), fun ha B0 Wr H0 own ρ hs σ H D S p => ?_⟩
  dsimp only at p
  split at p
  · rename_i xs e1
    obtain ⟨a, vs, e3, bA, na, s, rs⟩ := S.ownl e1
    refine ⟨_, e3, q2 ha _ ρ hs σ H _ S.sim (SPost.first S p fun z hs2 ez vz H2 k2 h2 r2 p2 => ?_)⟩
    have S2 := S.later k2 h2
    obtain ⟨a2, vs2, e4, bA2, na2, s2, rs2⟩ := S2.ownl e1
    rw [e3] at e4
    cases e4
    split at p2
    · rename_i m em
      obtain ⟨k, j, rfl, ej, ed⟩ := ixL_ok em
      obtain ⟨y, ey, ry⟩ := rs2.get ed
      simp only [Rep] at ry
      subst ry
      refine ⟨a, vs2, k, j, .int m, ⟨rfl, (re_w r2).int_⟩, ⟨s2, by rw [← rs2.length]; exact ej, ey⟩, ?_⟩
      refine q ha _ ρ hs2 σ H2 _ S2.sim (SPost.first S2 p2 fun y hs3 _ vy H3 k3 h3 r3 p3 => ?_)
      have S3 := S2.later k3 h3
      obtain ⟨a3, vs3, e5, bA3, na3, s3, rs3⟩ := S3.ownl e1
      rw [e3] at e5
      cases e5
      have ry := re_w r3
      have fin : ∀ n : Int, SPost c.G ha B0 Wr H0 D c.E (ofO ((setD xs (.int k) (.int n)).map fun ys => Fl.nx (ρ.set i (.own (.lst ys)))) hs3) → rSetL (.ref a) vz (.int n) H3 fun H6 => D.nx σ H6 := fun n p4 => by
        cases es : setD xs (.int k) (.int n) with
        | none => rw [es] at p4; exact p4.elim
        | some ys =>
          rw [es] at p4
          obtain ⟨k', j', ek, ej', rfl⟩ := setD_ok es
          cases ek
          refine ⟨a, vs3, k, j', rfl, (re_w r2).int_, s3, by rw [← rs3.length]; exact ej', ?_⟩
          exact p4 _ _ _ (S3.wrt e1 e3 (Reps.set (by simp only [Rep]) j' rs3))
      cases o with
      | add =>
        cases y with
        | int y => exact ⟨m, y, rfl, ry.int_, fin _ p3⟩
        | _ => exact (p3 : False).elim
      | sub =>
        cases y with
        | int y => exact ⟨m, y, rfl, ry.int_, fin _ p3⟩
        | _ => exact (p3 : False).elim
      | _ => exact (p3 : False).elim
    · exact p2.elim
  · exact p.elim
theorem few2_of {a b : Expr} {pos : Pos} {env : PySem.Env} (ha : plainE a = true) (hb : plainE b = true) : ((backTo pos (starEach [a, b] env)).all (fun x => !x.1) && (backToKw pos (keywordEach [] env)).all (fun x => x.1.isSome)
      && decide ([a, b].length + ([] : List Keyword).length + (if ([] : List Keyword).isEmpty then 0 else 1) < 30)) = true := by
  rw [star_of ha, star_of hb]
  rfl
theorem insD_ok {xs ys : List D} {z d : D} (h : insD xs z d = some ys) : ∃ k, z = .int k ∧ xs.length < line ∧ 0 ≤ k ∧ k < 2 ^ 63 ∧ ys = xs.take k.toNat ++ [d] ++ xs.drop k.toNat := by
  unfold insD at h
  split at h
  · rename_i k
    split at h
    · rename_i hl
      rw [Bool.and_eq_true, Bool.and_eq_true, decide_eq_true_eq, decide_eq_true_eq, decide_eq_true_eq] at hl
      exact ⟨k, rfl, hl.1, hl.2.1, hl.2.2, (Option.some.inj h).symm⟩
    · cases h
  · cases h
theorem mo_ins {x : Str} {i : Nat} {b e : Expr} {f g : PEnv → HS → Res D} {p apos cpos pos : Pos} (hN : c.N[i]? = some x) (hv : Vis c.sc x) (hd : (x == ("__debug__" : Str)) = false) (hcd : (x == ("__classdict__" : Str)) = false) (hp : plainE e = true) (hq : plainE b = true) (hl : (apos.endLine == cpos.line) = true) (h : ES .st c e f) (h2 : ES .st c b g) :
    MO c (.Expr (.Call (.Attribute (.Name x p) "insert" apos) [b, e] [] cpos) pos) (fun ρ h => match ρ[i]? with
    | some (.own (.lst xs)) => (g ρ h).bind fun z h => (f ρ h).bind fun d h => ofO ((insD xs z d).map fun ys => .nx (ρ.set i (.own (.lst ys)))) h
    | _ => .stuck) := by
  obtain ⟨t, pt, q⟩ := h
  obtain ⟨u, pu, q2⟩ := h2
  refine ⟨tDrop (tBM c.G.K "list" (fun x vs H Q => ∃ (l : Addr) (xs : List V) (i : Int) (y : V), x = .ref l ∧ vs = [.int i, y] ∧ H l = some (.lst xs) ∧ xs.length < sizeLine ∧ 0 ≤ i ∧ i < 2 ^ 63 ∧ Q .non (upd H l (.lst (xs.take i.toNat ++ [y] ++ xs.drop i.toNat)))) (tVar i) (tCons u (tCons t tNil))),
    fun X hx => ps_expr (by rw [← hx.eK]; exact pe_bm PySem.F.plainAttrs_list PySem.F.slot_list_insert PySem.F.type_list_insert mt_insert (pe_var (by rw [hx.eN]; exact hN) (hx.vis hv) hd hcd) (pa_cons (pu X hx) (pa_cons (pt X hx) pa_nil (star_of hp)) (star_of hq)) rfl (few2_of hq hp) hl (star_of hq) (nostar (by rw [List.all_cons, hp]; rfl))) rfl, fun ha B0 Wr H0 own ρ hs σ H D S p => ?_⟩
  dsimp only at p
  split at p
  · rename_i xs e1
    obtain ⟨a, vs, e3, bA, na, s, rs⟩ := S.ownl e1
    refine ⟨_, e3, .inl ⟨rfl, vs, .inl (.inl s)⟩, ?_⟩
    refine q2 ha _ ρ hs σ H _ S.sim (SPost.first S p fun z hs2 ez vz H2 k2 h2 r2 p2 => ?_)
    have S2 := S.later k2 h2
    refine q ha _ ρ hs2 σ H2 _ S2.sim (SPost.first S2 p2 fun d hs3 _ v H3 k3 h3 r3 p3 => ?_)
    have S3 := S2.later k3 h3
    have r3 : Rep c.G ha (BB B0 own) H3 d v := r3
    obtain ⟨a3, vs3, e5, bA3, na3, s3, rs3⟩ := S3.ownl e1
    rw [e3] at e5
    cases e5
    cases ej : insD xs z d with
    | none => rw [ej] at p3; exact p3.elim
    | some ys =>
      rw [ej] at p3
      obtain ⟨k, rfl, l1, l2, l3, rfl⟩ := insD_ok ej
      have ez : vz = .int k := by
        have r2 : Rep c.G ha (BB B0 own) H2 (.int k) vz := r2
        simpa only [Rep] using r2
      subst ez
      refine ⟨a, vs3, k, v, rfl, rfl, s3, by rw [line_eq, ← rs3.length]; exact l1, l2, l3, ?_⟩
      exact p3 _ _ _ (S3.wrt e1 e3 (((rs3.take _).append (.cons r3 .nil)).append (rs3.drop _)))
  · exact p.elim
theorem reps_erase {ds : List D} {vs : List V} {ha : Addr} {G : Cfg} {B : Addr → Prop} {H : Hp} (r : Reps G ha B H ds vs) (j : Nat) : Reps G ha B H (ds.eraseIdx j) (vs.eraseIdx j) := by
  rw [List.eraseIdx_eq_take_drop_succ, List.eraseIdx_eq_take_drop_succ]
  exact (r.take _).append (r.drop _)
theorem remD_ok {xs ys : List D} {d : D} (h : remD xs d = some ys) : ∃ k ns j, d = .int k ∧ dInts xs = some ns ∧ ns[j]? = some k ∧ (∀ m : Nat, m < j → ns[m]? ≠ some k) ∧ ys = xs.eraseIdx j := by
  unfold remD at h
  split at h
  · rename_i k ns e
    split at h
    · rename_i hc
      have hm : ∃ n ∈ ns, (n == k) = true := ⟨k, by simpa using hc, by simp⟩
      have hlt : ns.findIdx (fun n => n == k) < ns.length := List.findIdx_lt_length_of_exists hm
      refine ⟨k, ns, ns.findIdx fun n => n == k, rfl, e, ?_, fun m hm2 z => ?_, (Option.some.inj h).symm⟩
      · rw [List.getElem?_eq_getElem hlt]
        have := List.findIdx_getElem (xs := ns) (p := fun n => n == k) (w := hlt)
        rw [beq_iff_eq] at this
        rw [this]
      · obtain ⟨hml, he⟩ := List.getElem?_eq_some_iff.mp z
        have := List.not_of_lt_findIdx hm2
        rw [he] at this
        simp at this
    · cases h
  · cases h
theorem mo_rem {x : Str} {i : Nat} {e : Expr} {f : PEnv → HS → Res D} {p apos cpos pos : Pos} (hN : c.N[i]? = some x) (hv : Vis c.sc x) (hd : (x == ("__debug__" : Str)) = false) (hcd : (x == ("__classdict__" : Str)) = false) (hp : plainE e = true) (hl : (apos.endLine == cpos.line) = true) (h : ES .wk c e f) :
    MO c (.Expr (.Call (.Attribute (.Name x p) "remove" apos) [e] [] cpos) pos) (fun ρ h => match ρ[i]? with
    | some (.own (.lst xs)) => (f ρ h).bind fun d h => ofO ((remD xs d).map fun ys => .nx (ρ.set i (.own (.lst ys)))) h
    | _ => .stuck) := by
  obtain ⟨t, pt, q⟩ := h
  refine ⟨tDrop (tBM c.G.K "list" rRemI (tVar i) (tCons t tNil)), fun X hx => ps_expr (by rw [← hx.eK]; exact bm_of PySem.F.slot_list_remove PySem.F.type_list_remove mt_remove (pe_var (by rw [hx.eN]; exact hN) (hx.vis hv) hd hcd) (pt X hx) rfl hp hl) rfl, fun ha B0 Wr H0 own ρ hs σ H D S p => ?_⟩
  dsimp only at p
  split at p
  · rename_i xs e1
    obtain ⟨a, vs, e3, bA, na, s, rs⟩ := S.ownl e1
    refine ⟨_, e3, .inl ⟨rfl, vs, .inl (.inl s)⟩, ?_⟩
    refine q ha _ ρ hs σ H _ S.sim (SPost.first S p fun d hs1 _ v H1 k1 h1 r1 p' => ?_)
    have S1 := S.later k1 h1
    obtain ⟨a2, vs2, e4, bA2, na2, s2, rs2⟩ := S1.ownl e1
    rw [e3] at e4
    cases e4
    cases ej : remD xs d with
    | none => rw [ej] at p'; exact p'.elim
    | some ys =>
      rw [ej] at p'
      obtain ⟨k, ns, j, rfl, en, g1, g2, rfl⟩ := remD_ok ej
      have ev := rs2.ints en
      subst ev
      have rr := reps_erase rs2 j
      rw [show (ns.map V.int).eraseIdx j = (ns.eraseIdx j).map V.int by rw [List.eraseIdx_eq_take_drop_succ, List.eraseIdx_eq_take_drop_succ, List.map_append, List.map_take, List.map_drop]] at rr
      exact ⟨a, ns, k, j, rfl, by rw [(re_w r1).int_], s2, g1, g2, p' _ _ _ (S1.wrt e1 e3 rr)⟩
  · exact p.elim
end

/-! ### loops -/
section
variable {c : Ctx}
section
variable {G : Cfg} {ha : Addr} {B0 Wr : Addr → Prop} {H0 H H1 : Hp} {own : Own} {ρ : PEnv} {hs hs1 : HS} {σ : St}
theorem mo_whl {e : Expr} {b : List Stmt} {f : PEnv → HS → Res Bool} {g : Mng} {pos : Pos} (h : CS c e f) (hb : MS c b g) : MO c (.While e b [] pos) (fun ρ h => whileL f g ρ h) := by
  obtain ⟨t, pt, q⟩ := h
  obtain ⟨u, pu, q2⟩ := hb
  refine ⟨tWhile t u, fun X hx => ps_while hx.own (pt X hx) (pu X hx), fun ha B0 Wr H0 own ρ hs σ H D S p => ?_⟩
  have hne : whileL f g ρ hs ≠ .stuck := fun z => by
    dsimp only at p
    rw [z] at p
    exact p
  obtain ⟨n, en⟩ := whileL_ex hne
  have p : SPost c.G ha B0 Wr H0 D c.E (whileL f g ρ hs) := p
  rw [en] at p
  refine ⟨fun m σ' H' => ∃ own' ρ' hs', SSim c.G ha B0 Wr H0 own' ρ' hs' σ' H' ∧ SPost c.G ha B0 Wr H0 D c.E (whileN f g m ρ' hs'), ⟨n, own, ρ, hs, S, p⟩, ?_⟩
  rintro m σ' H' ⟨own', ρ', hs', S', p'⟩
  cases m with
  | zero => exact p'.elim
  | succ m =>
    rw [whileN] at p'
    refine q ha _ ρ' hs' σ' H' _ S'.sim (SPost.first S' p' fun x hs1 _ v H1 k1 h1 r1 p2 => ?_)
    have r1 : v = x := r1
    subst r1
    cases v with
    | true =>
      rw [if_pos rfl] at p2 ⊢
      refine ⟨fun σ2 H2 => ∃ own' ρ' hs', SSim c.G ha B0 Wr H0 own' ρ' hs' σ2 H2 ∧ SPost c.G ha B0 Wr H0 D c.E (whileN f g m ρ' hs'), fun σ2 H2 z => ⟨m, Nat.lt_succ_self m, z⟩, ?_⟩
      exact q2 ha B0 Wr H0 own' ρ' hs1 σ' H1 _ (S'.later k1 h1) (p2.seq (fun ρ h _ p => fun own σ H S => ⟨own, ρ, h, S, p⟩) (fun ρ h _ p => p) (fun ρ h _ p => fun own σ H S => ⟨own, ρ, h, S, p⟩) (fun d h _ p => p))
    | false =>
      rw [if_neg Bool.false_ne_true] at p2 ⊢
      exact p2 _ _ _ (S'.later k1 h1)
/-- what may be written from here on -/
def WrOf (ha : Addr) (own : Own) : Addr → Prop := fun b => b = ha ∨ ∃ i, own i = some b
theorem SSim.enter (S : SSim G ha B0 Wr H0 own ρ hs σ H) : SSim G ha B0 (WrOf ha own) H own ρ hs σ H := ⟨S.inj, fun i a e => ⟨.inl (.inr ⟨i, e⟩), (S.fr i a e).2⟩, .refl, .inl rfl, S.hB, S.sim, S.at_, S.of⟩
theorem keep_leave (S : SSim G ha B0 Wr H0 own ρ hs σ H) (k : Keep (WrOf ha own) H H1) : Keep Wr H0 H1 := by
  refine ⟨fun b o n e t => k.at_ b o ?_ (S.ext.at_ b o n e t) t, fun b xs e => k.tup b xs (S.ext.tup b xs e), fun b o u e => k.frz b o u (S.ext.frz b o u e)⟩
  rintro (z | ⟨i, z⟩)
  · exact n (z ▸ S.hW)
  · rcases (S.fr i b z).1 with y | y
    · exact n y
    · exact y o e t
theorem SSim.leave {own' : Own} {ρ' : PEnv} {hs' : HS} {σ' : St} (S : SSim G ha B0 Wr H0 own ρ hs σ H) (S' : SSim G ha B0 (WrOf ha own) H own' ρ' hs' σ' H1) : SSim G ha B0 Wr H0 own' ρ' hs' σ' H1 := by
  refine ⟨S'.inj, fun i a e => ⟨?_, (S'.fr i a e).2⟩, keep_leave S S'.ext, S.hW, S.hB, S'.sim, S'.at_, S'.of⟩
  rcases (S'.fr i a e).1 with (z | ⟨j, z⟩) | z
  · exact .inl (z ▸ S.hW)
  · exact (S.fr j a z).1
  · by_cases hw : Wr a
    · exact .inl hw
    · exact .inr fun o e n => z o (S.ext.at_ a o hw e n) n
theorem NPost.enter {N : St → Hp → Prop} (S : SSim G ha B0 Wr H0 own ρ hs σ H) {ρ' : PEnv} {hs' : HS} (p : NPost G ha B0 Wr H0 N ρ' hs') : NPost G ha B0 (WrOf ha own) H N ρ' hs' := fun own' σ' H' S' => p own' σ' H' (S.leave S')
theorem SPost.enter {D : Ends} {E : XK} {r : Res Fl} (S : SSim G ha B0 Wr H0 own ρ hs σ H) (p : SPost G ha B0 Wr H0 D E r) : SPost G ha B0 (WrOf ha own) H D E r := by
  cases r with
  | stuck => exact p
  | exc e h => exact fun dx H' k hh q => p dx H' (keep_leave S k) hh q
  | ok x h =>
    cases x with
    | nx ρ => exact NPost.enter S p
    | bk ρ => exact NPost.enter S p
    | ct ρ => exact NPost.enter S p
    | rt d => exact fun v H' k hh q => p v H' (keep_leave S k) hh q
theorem mo_for {tg iter : Expr} {it : IT} {b : List Stmt} {fs : PEnv → HS → Res (List D)} {g : Mng} {pos : Pos} (hc : c.calm = true) (hw : WS c tg iter false fs) (hg : GS c tg it) (hb : MS c b g) (hp : plainS iter = true) :
    MO c (.For tg iter b [] pos) (fun ρ h => (fs ρ h).bind fun its h => forL (fun d ρ h => match asgT it d ρ with
    | some ρ' => g ρ' h
    | none => .stuck) its ρ h) := by
  obtain ⟨wi, pw, qw⟩ := hw
  obtain ⟨gt, pg, qg⟩ := hg
  obtain ⟨u, pu, q2⟩ := hb
  refine ⟨tFor wi gt u, fun X hx => ps_for hx.own (hx.eC hc) (pw X hx) (pg X hx) (pu X hx) (set_of hp), fun ha B0 Wr H0 own ρ hs σ H D S p => ?_⟩
  refine qw ha _ ρ hs σ H _ S.sim (SPost.first S p fun its hs1 _ J H1 k1 h1 w p' => ?_)
  have S1 := S.later k1 h1
  have w : Walk J its.length (Std false ha (BB B0 own) H1) (YW c.G false ha (BB B0 own) H1 its) := w
  refine for_it w (fun i σ2 H2 => ∃ own2 ρ2 hs2, SSim c.G ha B0 (WrOf ha own) H1 own2 ρ2 hs2 σ2 H2 ∧ SPost c.G ha B0 Wr H0 D c.E (forL (fun d ρ h => match asgT it d ρ with
    | some ρ' => g ρ' h
    | none => .stuck) (its.drop i) ρ2 hs2)) ?_ ?_ ?_ ?_
  · exact ⟨own, ρ, hs1, S1.enter, by rw [List.drop_zero]; exact p'⟩
  · rintro i σ2 H2 _ ⟨own2, ρ2, hs2, S2, _⟩
    refine ⟨fun b => BB B0 own b ∨ BB B0 own2 b, ⟨.inl (.inl S.hB), fun b z => ?_⟩, ?_⟩
    · rcases z with z | z | ⟨j, z⟩
      · exact .inl z
      · exact .inl (.inl z)
      · rcases (S2.fr j b z).1 with (y | y) | y
        · exact .inl (.inl (y ▸ S.hB))
        · exact .inl (.inr y)
        · exact .inr y
    · refine S2.ext.imp fun b z => .inl ?_
      rcases z with z | z
      · exact .inl (z ▸ S.hB)
      · exact .inr z
  · rintro i x σ2 H2 H2' hlt ⟨own2, ρ2, hs2, S2, p2⟩ ⟨sm, d, hd, hr⟩
    have hlt' : i < its.length := hlt
    have ed' : its.drop i = d :: its.drop (i + 1) := by
      obtain ⟨hlt2, e⟩ := List.getElem?_eq_some_iff.mp hd
      rw [List.drop_eq_getElem_cons hlt', e]
    rw [ed'] at p2
    simp only [forL] at p2
    have bok : BOk ha (BB B0 own) (fun b => BB B0 own b ∨ BB B0 own2 b) H1 := ⟨.inl (.inl S.hB), fun b z => by
      rcases z with z | z | ⟨j, z⟩
      · exact .inl z
      · exact .inl (.inl z)
      · rcases (S2.fr j b z).1 with (y | y) | y
        · exact .inl (.inl (y ▸ S.hB))
        · exact .inl (.inr y)
        · exact .inr y⟩
    have kk : Keep (fun b => BB B0 own b ∨ BB B0 own2 b) H1 H2 := S2.ext.imp fun b z => .inl (z.elim (fun y => .inl (y ▸ S.hB)) .inr)
    have rx : Rep c.G ha (BB B0 own2) H2' d x := Rep.sub (hr _ bok kk) fun b z => .inr z
    have S2' : SSim c.G ha B0 (WrOf ha own) H1 own2 ρ2 hs2 σ2 H2' := S2.later (Keep.of_same sm) (S2.sim.hnd.same sm)
    cases ea : asgT it d ρ2 with
    | none => rw [ea] at p2; exact p2.elim
    | some ρ3 =>
      rw [ea] at p2
      dsimp only at p2
      refine qg ha _ H2' d x σ2 ρ2 ρ3 _ rx ea S2'.sim.len fun σ3 st => ?_
      obtain ⟨own3, S3⟩ := S2'.stored st
      refine q2 ha B0 (WrOf ha own) H1 own3 ρ3 hs2 σ3 H2' _ S3 ?_
      refine (SPost.enter S1 p2).seq (fun ρ h e _ => ?_) (fun ρ h e _ => ?_) (fun ρ h e _ => ?_) (fun d h e _ => ?_)
      · rw [e] at p2
        exact fun own σ H S => ⟨own, ρ, h, S, p2⟩
      · rw [e] at p2
        exact NPost.enter S1 p2
      · rw [e] at p2
        exact fun own σ H S => ⟨own, ρ, h, S, p2⟩
      · rw [e] at p2
        exact SPost.enter (D := D) (r := .ok (.rt d) h) S1 p2
  · rintro σ2 H2 ⟨own2, ρ2, hs2, S2, p2⟩
    rw [List.drop_length] at p2
    exact p2 _ _ _ (S1.leave S2)
end
end
end PD

set_option Elab.async false
set_option linter.all false
set_option maxRecDepth 100000
set_option maxHeartbeats 2000000
/-! P15: a, b = x, y. -/
namespace PD
open PySem PySem.Spec PyProof.Rows L2 RZ
/-- values made one after another; os: the new lists' addresses -/
structure ParOk (G : Cfg) (ha : Addr) (B : Addr → Prop) (H0 H : Hp) (fl : List Bool) (ds : List D) (vs : List V) (hs : HS) (os : List (Option Addr)) : Prop where
  l1 : vs.length = ds.length
  l2 : os.length = ds.length
  l3 : fl.length = ds.length
  hnd : Hnd G ha (fun b => B b ∨ some b ∈ os) H hs
  fr : ∀ p, some p ∈ os → FreshAt H0 p ∧ ¬ B p
  dist : ∀ (j k : Nat) p, os[j]? = some (some p) → os[k]? = some (some p) → j = k
  new : ∀ (k : Nat) d v p, ds[k]? = some d → vs[k]? = some v → os[k]? = some (some p) → v = .ref p ∧ atom d = false ∧ fl[k]? = some true ∧ WRep G ha (fun b => B b ∨ some b ∈ os) H d v
  old : ∀ (k : Nat) d v, ds[k]? = some d → vs[k]? = some v → os[k]? = some none → (fl[k]? = some true → atom d = true) ∧ Rep G ha (fun b => B b ∨ some b ∈ os) H d v
def RPar (G : Cfg) (ha : Addr) (B : Addr → Prop) (fl : List Bool) : Rl (List D) (List V) := fun H0 ds vs hs H => ∃ os, ParOk G ha B H0 H fl ds vs hs os
theorem lifts_P {G : Cfg} {ha : Addr} {B : Addr → Prop} {fl : List Bool} : Lifts G ha B (RPar G ha B fl) := fun H H1 H' hs hs' a v k hh ⟨os, p⟩ => by
  refine ⟨os, { p with fr := fun q hq => ?_ }⟩
  obtain ⟨f, n⟩ := p.fr q hq
  refine ⟨fun o e t => ?_, n⟩
  by_cases hp : q = ha
  · exact n (hp ▸ hh.hB)
  · exact f o (k.at_ q o hp e t) t
def PSn (c : Ctx) (fl : List Bool) (es : List Expr) (f : PEnv → HS → Res (List D)) : Prop :=
  ∃ t : TA, (∀ X, XOk c X → PA X es t) ∧ ∀ ha B ρ hs σ H Q, ESim c.G ha B ρ hs σ H → RPost c.G ha B H (RPar c.G ha B fl) Q c.E (f ρ hs) → t σ H Q
section
variable {c : Ctx}
theorem psn_nil : PSn c [] [] (fun _ h => .ok [] h) := ⟨tNil, fun X _ => pa_nil, fun ha B ρ hs σ H Q S p => p [] H .refl S.hnd ⟨[], { l1 := rfl, l2 := rfl, l3 := rfl, hnd := S.hnd.sub (.inl S.hnd.hB) (fun b z => z.elim id fun y => nomatch y), fr := fun p z => (nomatch z), dist := fun j k p z => (nomatch z), new := fun k d v p z => (nomatch z), old := fun k d v z => (nomatch z) }⟩⟩
def mdFl (o : Bool) : Md := if o = true then .fr else .st
theorem getElem?_succ_cons {α : Type} {a : α} {l : List α} {k : Nat} : (a :: l)[k + 1]? = l[k]? := List.getElem?_cons_succ
theorem psn_cons {o : Bool} {fl : List Bool} {e : Expr} {es : List Expr} {f : PEnv → HS → Res D} {fs : PEnv → HS → Res (List D)} (h1 : ES (mdFl o) c e f) (h2 : PSn c fl es fs) (hp : plainE e = true) :
    PSn c (o :: fl) (e :: es) (fun ρ h => (f ρ h).bind fun x h => (fs ρ h).bind fun xs h => .ok (x :: xs) h) := by
  obtain ⟨t1, p1, q1⟩ := h1
  obtain ⟨t2, p2, q2⟩ := h2
  refine ⟨tCons t1 t2, fun X hx => pa_cons (p1 X hx) (p2 X hx) (star_of hp), fun ha B ρ hs σ H Q S p => ?_⟩
  dsimp only at p
  have q1 := fun Q => q1 ha B ρ hs σ H Q S
  cases ef : f ρ hs with
  | stuck => rw [ef] at p; exact p.elim
  | exc e h =>
    rw [ef] at p q1
    exact q1 _ p
  | ok d hs1 =>
  rw [ef] at p q1
  have p2' : RPost c.G ha B H (RPar c.G ha B (o :: fl)) Q c.E ((fs ρ hs1).bind fun xs h => .ok (d :: xs) h) := p
  refine q1 _ fun v H1 k1 h1 r1 => ?_
  -- is it a new list
  have hcase : (∃ p, v = .ref p ∧ atom d = false ∧ o = true ∧ FreshAt H p ∧ ¬ B p ∧ Hnd c.G ha (fun b => B b ∨ b = p) H1 hs1 ∧ WRep c.G ha (fun b => B b ∨ b = p) H1 d v) ∨ ((o = true → atom d = true) ∧ Rep c.G ha B H1 d v) := by
    cases o with
    | false => exact .inr ⟨(fun z => nomatch z), r1⟩
    | true =>
      have r1 : Fresh c.G ha B H H1 d v hs1 := r1
      cases ht : atom d with
      | true => exact .inr ⟨fun _ => rfl, Fresh.rep r1⟩
      | false =>
        left
        cases d with
        | lst ds =>
          obtain ⟨p, vs, ev, fp, np, s, hh, rs⟩ := r1
          refine ⟨p, ev, rfl, rfl, fp, np, hh, ?_⟩
          simp only [WRep]
          exact ⟨p, vs, ev, fun z => np (z ▸ S.hnd.hB), s, rs⟩
        | dct ks ys =>
          obtain ⟨p, vs, ev, fp, np, s, hh, q, rs⟩ := r1
          refine ⟨p, ev, rfl, rfl, fp, np, hh, ?_⟩
          simp only [WRep]
          exact ⟨p, vs, ev, fun z => np (z ▸ S.hnd.hB), s, q, rs⟩
        | _ => cases ht
  rcases hcase with ⟨p0, ev, ht, ho, fp, np, hh, rd⟩ | ⟨ho, rd⟩
  · have S1 : ESim c.G ha (fun b => B b ∨ b = p0) ρ hs1 σ H1 := S.later (fun b z => z.elim .inl fun y => .inr (by rw [y]; exact fp)) k1 hh
    -- the end, in the larger set
    have conv : RPost c.G ha (fun b => B b ∨ b = p0) H1 (RPar c.G ha (fun b => B b ∨ b = p0) fl) (fun vs H2 => Q (v :: vs) H2) c.E (fs ρ hs1) := by
      cases e2 : fs ρ hs1 with
      | stuck => rw [e2] at p2'; exact p2'
      | exc e h =>
        rw [e2] at p2'
        exact fun dx H2 k2 h2 x => p2' dx H2 (k1.trans k2) (h2.sub S.hnd.hB fun b z => .inl z) x
      | ok ds hs2 =>
        rw [e2] at p2'
        intro vs H2 k2 h2 ⟨os, pk⟩
        have sub1 : ∀ b, (B b ∨ some b ∈ some p0 :: os) → ((B b ∨ b = p0) ∨ some b ∈ os) := fun b z => by
          rcases z with z | z
          · exact .inl (.inl z)
          · rcases List.mem_cons.mp z with z | z
            · exact .inl (.inr (Option.some.inj z))
            · exact .inr z
        refine p2' (v :: vs) H2 (k1.trans k2) (h2.sub S.hnd.hB fun b z => .inl z) ⟨some p0 :: os, ?_⟩
        have sup : ∀ b, ((B b ∨ b = p0) ∨ some b ∈ os) → (B b ∨ some b ∈ some p0 :: os) := fun b z => by
          rcases z with (z | z) | z
          · exact .inl z
          · exact .inr (List.mem_cons.mpr (.inl (by rw [z])))
          · exact .inr (List.mem_cons_of_mem _ z)
        have eqB : (fun b => B b ∨ some b ∈ some p0 :: os) = (fun b => (B b ∨ b = p0) ∨ some b ∈ os) := funext fun b => propext ⟨sub1 b, sup b⟩
        have np0 : some p0 ∉ os := fun z => (pk.fr p0 z).2 (.inr rfl)
        refine ⟨by rw [List.length_cons, List.length_cons, pk.l1], by rw [List.length_cons, List.length_cons, pk.l2], by rw [List.length_cons, List.length_cons, pk.l3], by rw [eqB]; exact pk.hnd, fun q hq => ?_, fun j k q e1 e2 => ?_, fun k d' v' q e1 e2 e3 => ?_, fun k d' v' e1 e2 e3 => ?_⟩
        · rcases List.mem_cons.mp hq with hq | hq
          · cases hq
            exact ⟨fp, np⟩
          · obtain ⟨f1, f2⟩ := pk.fr q hq
            refine ⟨fun o e t => ?_, fun z => f2 (.inl z)⟩
            by_cases hqa : q = ha
            · exact f2 (.inl (hqa ▸ S.hnd.hB))
            · exact f1 o (k1.at_ q o hqa e t) t
        · cases j with
          | zero =>
            cases k with
            | zero => rfl
            | succ k =>
              rw [List.getElem?_cons_zero] at e1
              cases e1
              rw [List.getElem?_cons_succ] at e2
              exact absurd (List.mem_of_getElem? e2) np0
          | succ j =>
            cases k with
            | zero =>
              rw [List.getElem?_cons_zero] at e2
              cases e2
              rw [List.getElem?_cons_succ] at e1
              exact absurd (List.mem_of_getElem? e1) np0
            | succ k =>
              rw [List.getElem?_cons_succ] at e1 e2
              rw [pk.dist j k q e1 e2]
        · cases k with
          | zero =>
            rw [List.getElem?_cons_zero] at e1 e2 e3
            cases e1
            cases e2
            cases e3
            refine ⟨ev, ht, by rw [List.getElem?_cons_zero, ho], ?_⟩
            rw [eqB]
            have chb : ∀ b, ((B b ∨ b = p0) ∨ some b ∈ os) → (B b ∨ b = p0) ∨ FreshAt H1 b := fun b z => z.elim .inl fun y => .inr (pk.fr b y).1
            exact WRep.keep pk.hnd.hB k2 (WRep.chg chb rd)
          | succ k =>
            rw [List.getElem?_cons_succ] at e1 e2 e3
            obtain ⟨w1, w2, w3, w4⟩ := pk.new k d' v' q e1 e2 e3
            exact ⟨w1, w2, by rw [List.getElem?_cons_succ]; exact w3, by rw [eqB]; exact w4⟩
        · cases k with
          | zero =>
            rw [List.getElem?_cons_zero] at e3
            cases e3
          | succ k =>
            rw [List.getElem?_cons_succ] at e1 e2 e3
            obtain ⟨w1, w2⟩ := pk.old k d' v' e1 e2 e3
            exact ⟨by rw [List.getElem?_cons_succ]; exact w1, by rw [eqB]; exact w2⟩
    exact q2 ha _ ρ hs1 σ H1 _ S1 conv
  · have S1 := S.ext k1 h1
    have q2 := fun Q => q2 ha B ρ hs1 σ H1 Q S1
    cases e2 : fs ρ hs1 with
    | stuck => rw [e2] at p2'; exact p2'.elim
    | exc e h =>
      rw [e2] at p2' q2
      exact q2 _ fun dx H2 k2 h2 x => p2' dx H2 (k1.trans k2) h2 x
    | ok ds hs2 =>
    rw [e2] at p2' q2
    refine q2 _ fun vs H2 k2 h2 ⟨os, pk⟩ => ?_
    refine p2' (v :: vs) H2 (k1.trans k2) h2 ⟨none :: os, ?_⟩
    have mem : ∀ b, some b ∈ none :: os ↔ some b ∈ os := fun b => by simp
    have eqB : (fun b => B b ∨ some b ∈ none :: os) = (fun b => B b ∨ some b ∈ os) := funext fun b => propext (or_congr Iff.rfl (mem b))
    refine ⟨by rw [List.length_cons, List.length_cons, pk.l1], by rw [List.length_cons, List.length_cons, pk.l2], by rw [List.length_cons, List.length_cons, pk.l3], by rw [eqB]; exact pk.hnd, fun q hq => ?_, fun j k q e1 e2 => ?_, fun k d' v' q e1 e2 e3 => ?_, fun k d' v' e1 e2 e3 => ?_⟩
    · obtain ⟨f1, f2⟩ := pk.fr q ((mem q).mp hq)
      refine ⟨fun o e t => ?_, f2⟩
      by_cases hqa : q = ha
      · exact f2 (hqa ▸ S.hnd.hB)
      · exact f1 o (k1.at_ q o hqa e t) t
    · cases j with
      | zero => rw [List.getElem?_cons_zero] at e1; cases e1
      | succ j =>
        cases k with
        | zero => rw [List.getElem?_cons_zero] at e2; cases e2
        | succ k =>
          rw [List.getElem?_cons_succ] at e1 e2
          rw [pk.dist j k q e1 e2]
    · cases k with
      | zero => rw [List.getElem?_cons_zero] at e3; cases e3
      | succ k =>
        rw [List.getElem?_cons_succ] at e1 e2 e3
        obtain ⟨w1, w2, w3, w4⟩ := pk.new k d' v' q e1 e2 e3
        exact ⟨w1, w2, by rw [List.getElem?_cons_succ]; exact w3, by rw [eqB]; exact w4⟩
    · cases k with
      | zero =>
        rw [List.getElem?_cons_zero] at e1 e2
        cases e1
        cases e2
        refine ⟨fun z => ho (by simpa using z), ?_⟩
        rw [eqB]
        have chb : ∀ b, (B b ∨ some b ∈ os) → B b ∨ FreshAt H1 b := fun b z => z.elim .inl fun y => .inr (pk.fr b y).1
        exact Rep.keep (k2.imp fun b z => by rw [z]; exact .inl h2.hB) (Rep.chg chb rd)
      | succ k =>
        rw [List.getElem?_cons_succ] at e1 e2 e3
        obtain ⟨w1, w2⟩ := pk.old k d' v' e1 e2 e3
        exact ⟨by rw [List.getElem?_cons_succ]; exact w1, by rw [eqB]; exact w2⟩
end
/-! ### stored -/
structure SPend (G : Cfg) (ha : Addr) (B0 Wr Pd : Addr → Prop) (H0 : Hp) (own : Own) (ρ : PEnv) (hs : HS) (σ : St) (H : Hp) : Prop where
  inj : ∀ i j a, own i = some a → own j = some a → i = j
  fr : ∀ i a, own i = some a → (Wr a ∨ FreshAt H0 a) ∧ ¬ B0 a
  ext : Keep Wr H0 H
  hW : Wr ha
  hB : B0 ha
  sim : ESim G ha (fun b => BB B0 own b ∨ Pd b) ρ hs σ H
  at_ : ∀ (i : Nat) d, ρ[i]? = some (.own d) → atom d = false ∧ ∃ a, own i = some a ∧ σ[i]? = some (some (.ref a))
  of : ∀ i a, own i = some a → ∃ d, ρ[i]? = some (.own d)
  pf : ∀ p, Pd p → (Wr p ∨ FreshAt H0 p) ∧ ¬ BB B0 own p
section
variable {G : Cfg} {ha : Addr} {B0 Wr Pd Pd' : Addr → Prop} {H0 H H1 : Hp} {own : Own} {ρ : PEnv} {hs hs1 : HS} {σ : St}
theorem ESim.sub {B B' : Addr → Prop} (S : ESim G ha B ρ hs σ H) (hb : B' ha) (k : ∀ b, B' b → B b) : ESim G ha B' ρ hs σ H := S.later (fun b z => .inl (k b z)) .refl (S.hnd.sub hb k)
theorem SPend.done (S : SPend G ha B0 Wr Pd H0 own ρ hs σ H) : SSim G ha B0 Wr H0 own ρ hs σ H := ⟨S.inj, S.fr, S.ext, S.hW, S.hB, S.sim.sub (.inl S.hB) fun b z => .inl z, S.at_, S.of⟩
theorem SPend.less (S : SPend G ha B0 Wr Pd H0 own ρ hs σ H) (h : ∀ p, Pd' p → Pd p) : SPend G ha B0 Wr Pd' H0 own ρ hs σ H := ⟨S.inj, S.fr, S.ext, S.hW, S.hB, S.sim.sub (.inl (.inl S.hB)) fun b z => z.imp id (h b), S.at_, S.of, fun p z => S.pf p (h p z)⟩
theorem SPend.val {i : Nat} {d : D} {v : V} (S : SPend G ha B0 Wr Pd H0 own ρ hs σ H) (r : Rep G ha (fun b => BB B0 own b ∨ Pd b) H d v) : SPend G ha B0 Wr Pd H0 (unown own i) (ρ.set i (.val d)) hs (σ.set i (some v)) H := by
  have sub : ∀ b, (BB B0 (unown own i) b ∨ Pd b) → (BB B0 own b ∨ Pd b) := fun b z => z.imp (unown_sub b) id
  have S1 := S.sim.sub (B' := fun b => BB B0 (unown own i) b ∨ Pd b) (.inl (.inl S.hB)) sub
  refine ⟨fun j k a e1 e2 => S.inj j k a (unown_some e1).1 (unown_some e2).1, fun j a e => S.fr j a (unown_some e).1, S.ext, S.hW, S.hB, ⟨by rw [List.length_set, List.length_set]; exact S.sim.len, fun j s e => ?_, S1.hnd⟩, fun j d' e => ?_, fun j a e => ?_, fun p z => ⟨(S.pf p z).1, fun y => (S.pf p z).2 (unown_sub p y)⟩⟩
  · rcases set_get e with ⟨rfl, rfl, hl⟩ | ⟨hne, e⟩
    · exact ⟨v, List.getElem?_set_self (by rw [S.sim.len]; exact hl), r.sub sub⟩
    · rw [set_out hne]
      exact S1.at_ j s e
  · rcases set_get e with ⟨_, h, _⟩ | ⟨hne, e⟩
    · cases h
    · obtain ⟨h1, a, h2, h3⟩ := S.at_ j d' e
      refine ⟨h1, a, ?_, by rw [set_out hne]; exact h3⟩
      unfold unown
      rw [if_neg (Ne.symm hne)]
      exact h2
  · obtain ⟨e, hne⟩ := unown_some e
    obtain ⟨d', h⟩ := S.of j a e
    exact ⟨d', by rw [set_out (Ne.symm hne)]; exact h⟩
theorem SPend.new {i : Nat} {d : D} {p : Addr} (S : SPend G ha B0 Wr Pd H0 own ρ hs σ H) (hi : i < ρ.length) (ht : atom d = false) (hp : Pd p) (r : WRep G ha (fun b => BB B0 own b ∨ Pd b) H d (.ref p)) :
    SPend G ha B0 Wr (fun b => Pd b ∧ b ≠ p) H0 (reown own i p) (ρ.set i (.own d)) hs (σ.set i (some (.ref p))) H := by
  obtain ⟨fp, np⟩ := S.pf p hp
  have sub : ∀ b, (BB B0 (reown own i p) b ∨ (Pd b ∧ b ≠ p)) → (BB B0 own b ∨ Pd b) := fun b z => by
    rcases z with (z | ⟨j, e⟩) | z
    · exact .inl (.inl z)
    · rcases reown_some e with ⟨_, y⟩ | ⟨_, y⟩
      · exact .inr (y ▸ hp)
      · exact .inl (.inr ⟨j, y⟩)
    · exact .inr z.1
  have S1 := S.sim.sub (B' := fun b => BB B0 (reown own i p) b ∨ (Pd b ∧ b ≠ p)) (.inl (.inl S.hB)) sub
  refine ⟨fun j l a e1 e2 => ?_, fun j a e => ?_, S.ext, S.hW, S.hB, ⟨by rw [List.length_set, List.length_set]; exact S.sim.len, fun j s e => ?_, S1.hnd⟩, fun j d' e => ?_, fun j a e => ?_, fun q z => ⟨(S.pf q z.1).1, fun y => ?_⟩⟩
  · rcases reown_some e1 with ⟨q1, q2⟩ | ⟨q1, q2⟩ <;> rcases reown_some e2 with ⟨q3, q4⟩ | ⟨q3, q4⟩
    · rw [q1, q3]
    · exact absurd (.inr ⟨l, by rw [q2]; exact q4⟩) np
    · exact absurd (.inr ⟨j, by rw [q4]; exact q2⟩) np
    · exact S.inj j l a q2 q4
  · rcases reown_some e with ⟨_, rfl⟩ | ⟨_, q⟩
    · exact ⟨fp, fun z => np (.inl z)⟩
    · exact S.fr j a q
  · rcases set_get e with ⟨rfl, rfl, hl⟩ | ⟨hne, e⟩
    · exact ⟨_, List.getElem?_set_self (by rw [S.sim.len]; exact hl), r.sub sub⟩
    · rw [set_out hne]
      exact S1.at_ j s e
  · rcases set_get e with ⟨rfl, h, hl⟩ | ⟨hne, e⟩
    · cases h
      refine ⟨ht, p, ?_, by rw [List.getElem?_set_self (by rw [S.sim.len]; exact hl)]⟩
      unfold reown
      rw [if_pos rfl]
    · obtain ⟨h1, a, h2, h3⟩ := S.at_ j d' e
      refine ⟨h1, a, ?_, by rw [set_out hne]; exact h3⟩
      unfold reown
      rw [if_neg (Ne.symm hne)]
      exact h2
  · rcases reown_some e with ⟨rfl, _⟩ | ⟨hne, e⟩
    · exact ⟨d, List.getElem?_set_self hi⟩
    · obtain ⟨d', h⟩ := S.of j a e
      exact ⟨d', by rw [set_out (Ne.symm hne)]; exact h⟩
  · rcases y with y | ⟨j, e⟩
    · exact (S.pf q z.1).2 (.inl y)
    · rcases reown_some e with ⟨_, w⟩ | ⟨_, w⟩
      · exact z.2 w.symm
      · exact (S.pf q z.1).2 (.inr ⟨j, w⟩)
/-- all stored, one after another -/
def setAll : List (Nat × Bool) → List V → St → St
  | (i, _) :: is, v :: vs, σ => setAll is vs (σ.set i (some v))
  | _, _, σ => σ
theorem par_all : ∀ {is : List (Nat × Bool)} {ds : List D} {vs : List V} {os : List (Option Addr)} {Pd : Addr → Prop} {own : Own} {ρ ρ' : PEnv} {σ : St} (S : SPend G ha B0 Wr Pd H0 own ρ hs σ H), vs.length = ds.length → os.length = ds.length →
    (∀ p, some p ∈ os → Pd p) → (∀ (j k : Nat) p, os[j]? = some (some p) → os[k]? = some (some p) → j = k) →
    (∀ (k : Nat) d v p, ds[k]? = some d → vs[k]? = some v → os[k]? = some (some p) → v = .ref p ∧ atom d = false ∧ (is.map (·.2))[k]? = some true ∧ WRep G ha (fun b => BB B0 own b ∨ Pd b) H d v) →
    (∀ (k : Nat) d v, ds[k]? = some d → vs[k]? = some v → os[k]? = some none → ((is.map (·.2))[k]? = some true → atom d = true) ∧ Rep G ha (fun b => BB B0 own b ∨ Pd b) H d v) →
    parSet is ds ρ = some ρ' → ∃ own', SSim G ha B0 Wr H0 own' ρ' hs (setAll is vs σ) H
  | [], ds, vs, os, Pd, own, ρ, ρ', σ, S, l1, l2, hp, hd, hn, ho, e => by
    cases ds with
    | nil =>
      simp only [parSet, Option.some.injEq] at e
      subst e
      have : vs = [] := List.length_eq_zero_iff.mp l1
      subst this
      exact ⟨own, S.done⟩
    | cons _ _ => simp only [parSet] at e; cases e
  | (i, o) :: is, ds, vs, os, Pd, own, ρ, ρ', σ, S, l1, l2, hp, hd, hn, ho, e => by
    cases ds with
    | nil => simp only [parSet] at e; cases e
    | cons d ds =>
      cases vs with
      | nil => cases l1
      | cons v vs =>
        cases os with
        | nil => cases l2
        | cons q os =>
          simp only [parSet] at e
          simp only [List.length_cons, Nat.add_right_cancel_iff] at l1 l2
          have hd' : ∀ (j k : Nat) p, os[j]? = some (some p) → os[k]? = some (some p) → j = k := fun j k p e1 e2 => by
            have := hd (j + 1) (k + 1) p (by rw [List.getElem?_cons_succ]; exact e1) (by rw [List.getElem?_cons_succ]; exact e2)
            omega
          have rest : ∀ {Pd' : Addr → Prop} {own' : Own} {ρ1 : PEnv}, SPend G ha B0 Wr Pd' H0 own' ρ1 hs (σ.set i (some v)) H → (∀ p, some p ∈ os → Pd' p) → (∀ b, (BB B0 own' b ∨ Pd' b) → (BB B0 own b ∨ Pd b)) → parSet is ds ρ1 = some ρ' → ∃ own', SSim G ha B0 Wr H0 own' ρ' hs (setAll ((i, o) :: is) (v :: vs) σ) H := fun {Pd' own' ρ1} S' hp' sub e' => by
            refine par_all (is := is) (ds := ds) (vs := vs) (os := os) S' l1 l2 hp' hd' (fun k d' v' p e1 e2 e3 => ?_) (fun k d' v' e1 e2 e3 => ?_) e'
            · obtain ⟨w1, w2, w3, w4⟩ := hn (k + 1) d' v' p (by rw [List.getElem?_cons_succ]; exact e1) (by rw [List.getElem?_cons_succ]; exact e2) (by rw [List.getElem?_cons_succ]; exact e3)
              rw [List.map_cons, List.getElem?_cons_succ] at w3
              exact ⟨w1, w2, w3, w4.sub sub⟩
            · obtain ⟨w1, w2⟩ := ho (k + 1) d' v' (by rw [List.getElem?_cons_succ]; exact e1) (by rw [List.getElem?_cons_succ]; exact e2) (by rw [List.getElem?_cons_succ]; exact e3)
              rw [List.map_cons, List.getElem?_cons_succ] at w1
              exact ⟨w1, w2.sub sub⟩
          cases q with
          | none =>
            obtain ⟨w1, w2⟩ := ho 0 d v rfl rfl rfl
            have es : slotOf o d = .val d := by
              unfold slotOf
              cases o with
              | false => rfl
              | true =>
                rw [w1 rfl]
                rfl
            rw [es] at e
            exact rest (S.val (i := i) w2) (fun p z => hp p (List.mem_cons_of_mem _ z)) (fun b z => z.imp (unown_sub b) id) e
          | some p =>
            obtain ⟨w1, w2, w3, w4⟩ := hn 0 d v p rfl rfl rfl
            have hob : o = true := by simpa using w3
            have es : slotOf o d = .own d := by
              unfold slotOf
              rw [hob, w2]
              rfl
            rw [es] at e
            subst w1
            have npo : some p ∉ os := fun z => by
              obtain ⟨k, hk⟩ := List.getElem?_of_mem z
              have := hd 0 (k + 1) p rfl (by rw [List.getElem?_cons_succ]; exact hk)
              omega
            by_cases hi : i < ρ.length
            · refine rest (S.new hi w2 (hp p List.mem_cons_self) w4) (fun q z => ⟨hp q (List.mem_cons_of_mem _ z), fun y => npo (y ▸ z)⟩) (fun b z => ?_) e
              rcases z with (z | ⟨j, z⟩) | z
              · exact .inl (.inl z)
              · rcases reown_some z with ⟨_, y⟩ | ⟨_, y⟩
                · exact .inr (y ▸ hp p List.mem_cons_self)
                · exact .inl (.inr ⟨j, y⟩)
              · exact .inr z.1
            · have e1 : ρ.set i (.own d) = ρ := List.set_eq_of_length_le (by omega)
              have e2 : σ.set i (some (V.ref p)) = σ := List.set_eq_of_length_le (by have := S.sim.len; omega)
              rw [e1] at e
              refine rest (Pd' := fun b => Pd b) (own' := own) (by rw [e2]; exact S) (fun q z => hp q (List.mem_cons_of_mem _ z)) (fun b z => z) e
/-- from the values made to the slots -/
theorem par_end {is : List (Nat × Bool)} {ds : List D} {vs : List V} {os : List (Option Addr)} {ρ' : PEnv} {H2 : Hp} (S : SSim G ha B0 Wr H0 own ρ hs σ H) (k : Ext ha H H1) (pk : ParOk G ha (BB B0 own) H H1 (is.map (·.2)) ds vs hs1 os) (sm : Same H1 H2) (e : parSet is ds ρ = some ρ') :
    ∃ own', SSim G ha B0 Wr H0 own' ρ' hs1 (setAll is vs σ) H2 := by
  have chb : ∀ b, (BB B0 own b ∨ some b ∈ os) → BB B0 own b ∨ FreshAt H b := fun b z => z.imp id fun y => (pk.fr b y).1
  have P : SPend G ha B0 Wr (fun b => some b ∈ os) H0 own ρ hs1 σ H2 := by
    refine ⟨S.inj, S.fr, S.ext.trans ((k.imp fun b z => z ▸ S.hW).trans (Keep.of_same sm)), S.hW, S.hB, S.sim.later chb (k.trans (Keep.of_same sm)) (pk.hnd.same sm), S.at_, S.of, fun p hp => ?_⟩
    obtain ⟨f1, f2⟩ := pk.fr p hp
    refine ⟨?_, f2⟩
    by_cases hw : Wr p
    · exact .inl hw
    · exact .inr fun o e t => f1 o (S.ext.at_ p o hw e t) t
  have kB : Keep (fun b => BB B0 own b ∨ some b ∈ os) H1 H2 := Keep.of_same sm
  refine par_all P pk.l1 pk.l2 (fun p z => z) pk.dist (fun k d v p e1 e2 e3 => ?_) (fun k d v e1 e2 e3 => ?_) e
  · obtain ⟨w1, w2, w3, w4⟩ := pk.new k d v p e1 e2 e3
    exact ⟨w1, w2, w3, WRep.keep pk.hnd.hB (Keep.of_same sm) w4⟩
  · obtain ⟨w1, w2⟩ := pk.old k d v e1 e2 e3
    exact ⟨w1, Rep.keep kB w2⟩
end
/-! ### the statements -/
section
variable {c : Ctx}
/-- are the names stored from the right, without a pair -/
def swL (sc : Scope) (ts vs : List Expr) : Option (List Str) :=
  if !(ts.length == 2 || ts.length == 3) || vs.length != ts.length || (if sc.kind.isAnnotationScope then .function else sc.kind) != ScopeKind.function then none else
  if vs.any (fun | .Starred .. => true | _ => false) then none else
  let line := (ts.head?.map (·.pos.line)).getD 0
  let names := ts.filterMap fun
    | .Name id pos => if sc.names.lookup id == some .local && pos.line == line then some id else none
    | _ => none
  if names.length != ts.length || names.eraseDups.length != names.length then none else
  if vs.all (foldedForSure 8) then none else some names
theorem swL_ok {ts vs : List Expr} {k k2 : Nat} {pt pt2 : Pos} {env : PySem.Env} (hc : vs.all (foldedForSure 8) = true ∨ (vs.all (constantsAlone 8) = false ∨ swL env.scope ts vs = none)) : swappedStores [.Tuple ts k pt] (.Tuple vs k2 pt2) env = pure (swL env.scope ts vs) := by
  have hc0 := hc
  clear hc0
  unfold swappedStores
  show _ = pure (swL env.scope ts vs)
  conv => rhs; rhs; unfold swL
  dsimp only
  show _ = pure _
  split
  · rename_i h
    have h' := h
    unfold PySem.Env.blockKind at h'
    rw [if_pos h']
  · rename_i h
    have h' := h
    unfold PySem.Env.blockKind at h'
    rw [if_neg h']
    split
    · rename_i h2
      exact congrArg pure (if_pos h2).symm
    · rename_i h2
      refine Eq.trans ?_ (congrArg pure (if_neg h2).symm)
      split
      · rename_i h3
        exact congrArg pure (if_pos h3).symm
      · rename_i h3
        refine Eq.trans ?_ (congrArg pure (if_neg h3).symm)
        split
        · rename_i h4
          rfl
        · rename_i h4
          rcases hc.resolve_left h4 with hc | hc
          · rw [hc]
            rfl
          · exfalso
            unfold swL at hc
            rw [if_neg h'] at hc
            dsimp only at hc
            exact nomatch ((if_neg h4).symm.trans ((if_neg h3).symm.trans ((if_neg h2).symm.trans hc)))
theorem two_of {α : Type} {vs : List α} (h : vs.length = 2) : ∃ v w, vs = [v, w] := by
  match vs, h with
  | [v, w], _ => exact ⟨v, w, rfl⟩
theorem three_of {α : Type} {vs : List α} (h : vs.length = 3) : ∃ u v w, vs = [u, v, w] := by
  match vs, h with
  | [u, v, w], _ => exact ⟨u, v, w, rfl⟩
theorem parSet_len : ∀ {is : List (Nat × Bool)} {ds : List D} {ρ ρ' : PEnv}, parSet is ds ρ = some ρ' → ds.length = is.length
  | [], [], _, _, _ => rfl
  | [], _ :: _, _, _, e => by simp only [parSet] at e; cases e
  | (_, _) :: _, [], _, _, e => by simp only [parSet] at e; cases e
  | (i, o) :: is, d :: ds, ρ, ρ', e => by
    simp only [parSet] at e
    rw [List.length_cons, List.length_cons, parSet_len e]
def parM (is : List (Nat × Bool)) (fs : PEnv → HS → Res (List D)) : Mng := fun ρ h => (fs ρ h).bind fun ds h => ofO ((parSet is ds ρ).map .nx) h
/-- what is owed behind the values -/
theorem par_sem {is : List (Nat × Bool)} {fs : PEnv → HS → Res (List D)} {t : TA} {k : List V → Hp → (St → Hp → Prop) → St → Prop}
    (q : ∀ ha B ρ hs σ H Q, ESim c.G ha B ρ hs σ H → RPost c.G ha B H (RPar c.G ha B (is.map (·.2))) Q c.E (fs ρ hs) → t σ H Q)
    (hk : ∀ vs H1 (N : St → Hp → Prop) σ, vs.length = is.length → (∀ H2, Same H1 H2 → N (setAll is vs σ) H2) → (∀ G ha B H0 hs ds os, ParOk G ha B H0 H1 (is.map (·.2)) ds vs hs os → True) → k vs H1 N σ)
    (ha : Addr) (B0 Wr : Addr → Prop) (H0 : Hp) (own : Own) (ρ : PEnv) (hs : HS) (σ : St) (H : Hp) (D : Ends) (S : SSim c.G ha B0 Wr H0 own ρ hs σ H) (p : SPost c.G ha B0 Wr H0 D c.E (parM is fs ρ hs)) : t σ H fun vs H1 => k vs H1 D.nx σ := by
  refine q ha _ ρ hs σ H _ S.sim (SPost.first S p fun ds hs1 _ vs H1 k1 h1 r1 p' => ?_)
  obtain ⟨os, pk⟩ := r1
  cases e1 : parSet is ds ρ with
  | none => rw [e1] at p'; exact p'.elim
  | some ρ' =>
    rw [e1] at p'
    refine hk vs H1 D.nx σ (by rw [pk.l1, parSet_len e1]) (fun H2 sm => ?_) (fun _ _ _ _ _ _ _ _ => trivial)
    obtain ⟨own', S'⟩ := par_end S k1 pk sm e1
    exact p' _ _ _ S'
theorem mo_par2 {x y : Str} {i j : Nat} {o o' : Bool} {a b : Expr} {fs : PEnv → HS → Res (List D)} {px py pt pt2 pos : Pos} {kt k2 : Nat} (hc : c.calm = true) (hi : c.N[i]? = some x) (hj : c.N[j]? = some y) (hij : i ≠ j)
    (hx : c.sc.names.lookup x = some .local) (hy : c.sc.names.lookup y = some .local) (hcn : [a, b].all (foldedForSure 8) = true ∨ [a, b].all (constantsAlone 8) = false) (hsw : swL c.sc [.Name x px, .Name y py] [a, b] = some [x, y])
    (h : PSn c [o, o'] [a, b] fs) : MO c (.Assign [.Tuple [.Name x px, .Name y py] kt pt] (.Tuple [a, b] k2 pt2) pos) (parM [(i, o), (j, o')] fs) := by
  obtain ⟨t, pa, q⟩ := h
  refine ⟨tPar i j t, fun X hX => ps_par (hX.eC hc) (by rw [hX.eN]; exact hX.nd) (by rw [hX.eN]; exact hi) (by rw [hX.eN]; exact hj) hij (by rw [hX.eS]; exact hx) (by rw [hX.eS]; exact hy) (pa X hX) (by rw [swL_ok (by rw [hX.eS]; exact hcn.imp_right .inl), hX.eS, hsw]) rfl, fun ha B0 Wr H0 own ρ hs σ H D S p => ?_⟩
  refine par_sem (is := [(i, o), (j, o')]) (k := fun vs H1 N σ => ∃ v w, vs = [v, w] ∧ N ((σ.set i (some v)).set j (some w)) H1) q (fun vs H1 N σ hl hn _ => ?_) ha B0 Wr H0 own ρ hs σ H D S p
  obtain ⟨v, w, rfl⟩ := two_of hl
  exact ⟨v, w, rfl, hn H1 fun _ _ z => z⟩
theorem mo_par3 {x y z : Str} {i j l : Nat} {o o' o2 : Bool} {a b d : Expr} {fs : PEnv → HS → Res (List D)} {px py pz pt pt2 pos : Pos} {kt k2 : Nat} (hc : c.calm = true) (hi : c.N[i]? = some x) (hj : c.N[j]? = some y) (hl : c.N[l]? = some z) (hij : i ≠ j) (hil : i ≠ l) (hjl : j ≠ l)
    (hx : c.sc.names.lookup x = some .local) (hy : c.sc.names.lookup y = some .local) (hz : c.sc.names.lookup z = some .local) (hcn : [a, b, d].all (foldedForSure 8) = true ∨ [a, b, d].all (constantsAlone 8) = false) (hsw : swL c.sc [.Name x px, .Name y py, .Name z pz] [a, b, d] = some [x, y, z])
    (h : PSn c [o, o', o2] [a, b, d] fs) : MO c (.Assign [.Tuple [.Name x px, .Name y py, .Name z pz] kt pt] (.Tuple [a, b, d] k2 pt2) pos) (parM [(i, o), (j, o'), (l, o2)] fs) := by
  obtain ⟨t, pa, q⟩ := h
  refine ⟨tPar3 i j l t, fun X hX => ps_par3 (hX.eC hc) (by rw [hX.eN]; exact hX.nd) (by rw [hX.eN]; exact hi) (by rw [hX.eN]; exact hj) (by rw [hX.eN]; exact hl) hij hil hjl (by rw [hX.eS]; exact hx) (by rw [hX.eS]; exact hy) (by rw [hX.eS]; exact hz) (pa X hX) (by rw [swL_ok (by rw [hX.eS]; exact hcn.imp_right .inl), hX.eS, hsw]) rfl, fun ha B0 Wr H0 own ρ hs σ H D S p => ?_⟩
  refine par_sem (is := [(i, o), (j, o'), (l, o2)]) (k := fun vs H1 N σ => ∃ u v w, vs = [u, v, w] ∧ N (((σ.set i (some u)).set j (some v)).set l (some w)) H1) q (fun vs H1 N σ hln hn _ => ?_) ha B0 Wr H0 own ρ hs σ H D S p
  obtain ⟨u, v, w, rfl⟩ := three_of hln
  exact ⟨u, v, w, rfl, hn H1 fun _ _ z => z⟩
/-- names with their slots -/
def NmOk (c : Ctx) : List Expr → List (Nat × Bool) → Prop
  | [], [] => True
  | .Name x _ :: ts, (i, _) :: is => (c.N[i]? = some x ∧ Loc c.sc x ∧ c.sto x = true) ∧ NmOk c ts is
  | _, _ => False
def gAll : List (Nat × Bool) → TGs
  | [] => gNil
  | (i, _) :: is => gCons (gName i) (gAll is)
theorem nm_len : ∀ {ts : List Expr} {is : List (Nat × Bool)}, NmOk c ts is → ts.length = is.length ∧ ts.all plainE = true
  | [], [], _ => ⟨rfl, rfl⟩
  | .Name x p :: ts, (i, o) :: is, h => by
    obtain ⟨h1, h2⟩ := nm_len h.2
    exact ⟨by rw [List.length_cons, List.length_cons, h1], by rw [List.all_cons, h2]; rfl⟩
theorem pgs_all {X : Cx} (hX : XOk c X) : ∀ {ts : List Expr} {is : List (Nat × Bool)}, NmOk c ts is → PGs X ts (gAll is)
  | [], [], _ => pgs_nil
  | .Name x p :: ts, (i, o) :: is, h => by
    obtain ⟨⟨h1, h2, h3⟩, h4⟩ := h
    exact pgs_cons (pg_name (by rw [hX.eN]; exact hX.nd) (by rw [hX.eN]; exact h1) (by rw [hX.eS]; exact h2) (by rw [hX.eS]; exact hX.fnl x h3)) (pgs_all hX h4) rfl
theorem gAll_sem : ∀ {is : List (Nat × Bool)} {vs : List V} {σ : St} {H : Hp} {Q : St → Hp → Prop}, vs.length = is.length → Q (setAll is vs σ) H → gAll is vs σ H Q
  | [], [], σ, H, Q, _, q => ⟨rfl, q⟩
  | (i, o) :: is, v :: vs, σ, H, Q, hl, q => ⟨v, vs, rfl, gAll_sem (by simpa using hl) q⟩
theorem mo_parT {ts es : List Expr} {is : List (Nat × Bool)} {fs : PEnv → HS → Res (List D)} {pt pt2 pos : Pos} {kt k2 : Nat} (hc : c.calm = true) (hn : NmOk c ts is) (hsw : swL c.sc ts es = none) (hz : is.length ≤ line)
    (h : PSn c (is.map (·.2)) es fs) : MO c (.Assign [.Tuple ts kt pt] (.Tuple es k2 pt2) pos) (parM is fs) := by
  obtain ⟨t, pa, q⟩ := h
  obtain ⟨hln, hpl⟩ := nm_len hn
  refine ⟨tAsg (tTup t) (gTup c.G.K ts.length (gAll is)), fun X hX => ps_asg (pe_tup (pa X hX)) (by rw [← hX.eK]; exact pg_tup (hX.eC hc) (pgs_all hX hn) ase_len (ase_star hpl)) rfl (by rw [swL_ok (by rw [hX.eS]; exact .inr (.inr hsw)), hX.eS, hsw]) rfl, fun ha B0 Wr H0 own ρ hs σ H D S p => ?_⟩
  refine par_sem (is := is) (k := fun vs H1 N σ => vs.length ≤ sizeLine ∧ ∀ q, H1 q = none → gTup c.G.K ts.length (gAll is) (.ref q) σ (upd H1 q (.tup vs)) N) q (fun vs H1 N σ hl hN _ => ?_) ha B0 Wr H0 own ρ hs σ H D S p
  refine ⟨by rw [line_eq, hl]; exact hz, fun q n => ⟨q, vs, rfl, .inl (.inl upd_same), by rw [hl, hln], gAll_sem hl (hN _ (same_new n))⟩⟩
end
end PD

set_option Elab.async false
set_option linter.all false
set_option maxRecDepth 100000
set_option maxHeartbeats 2000000
/-! PX: an empty dict, defs as values, errors raised and held, a thunk handed on. -/
namespace PD
open PySem PySem.Spec PyProof.Rows L2 RZ
section
variable {c : Ctx}
theorem nt_dK0 {kvs : List (Key × V)} : NT (.dK kvs) := fun _ h => nomatch h
theorem es_dct0 {pos : Pos} : ES .fr c (.Dict [] [] pos) (fun _ h => .ok (.dct [] []) h) := by
  refine ⟨tDNewK, fun X _ => pe_dnewK, fun ha B ρ hs σ H Q S p => fun q n => ?_⟩
  have hh := S.hnd
  refine p (.ref q) (upd H q (.dK [])) (Keep.new n) (hh.laid n) ?_
  refine ⟨q, [], rfl, freshAt_none n, hh.out n, upd_same, ?_, rfl, .nil⟩
  obtain ⟨vs, e, r⟩ := hh.at_
  have h2 := hh.same (same_new (o := .dK []) n)
  refine ⟨.inl h2.hB, ⟨vs, same_new n _ _ e, Reps.keep (Keep.new n) (Reps.chg (fun b z => z.elim .inl fun y => .inr (y ▸ freshAt_none n)) r)⟩, fun b z => ?_, h2.tab⟩
  rcases z with z | rfl
  · exact h2.trk b z
  · exact ⟨_, upd_same, nt_dK0⟩
/-! ### a written dict -/
/-- keys and values by turns, as pairs -/
def PrsR (G : Cfg) (ha : Addr) (B : Addr → Prop) (H : Hp) : List D → List (V × V) → Prop
  | [], ps => ps = []
  | k :: ds, ps => match ds with
    | [] => False
    | v :: r => ∃ q t, ps = q :: t ∧ (Rep G ha B H k q.1 ∧ Rep G ha B H v q.2) ∧ PrsR G ha B H r t
theorem PrsR.keep {G : Cfg} {ha : Addr} {B : Addr → Prop} {H H' : Hp} (k : Keep B H H') : ∀ {ds : List D} {ps : List (V × V)}, PrsR G ha B H ds ps → PrsR G ha B H' ds ps
  | [], ps, h => h
  | [_], ps, h => h
  | a :: b :: r, ps, h => by
    simp only [PrsR] at h ⊢
    obtain ⟨q, t, e, ⟨h1, h2⟩, h3⟩ := h
    exact ⟨q, t, e, ⟨Rep.keep k h1, Rep.keep k h2⟩, PrsR.keep k h3⟩
def DS (c : Ctx) (ks : List (Option Expr)) (vs : List Expr) (f : PEnv → HS → Res (List D)) : Prop :=
  ∃ trs, (∀ X pos, XOk c X → PPs X pos ks vs trs) ∧ ∀ ha B ρ hs σ H (Q : List (V × V) → Hp → Prop), ESim c.G ha B ρ hs σ H → RPost c.G ha B H (fun _ ds ps _ H' => PrsR c.G ha B H' ds ps) Q c.E (f ρ hs) → tPairs trs σ H Q
theorem ds_nil : DS c [] [] (fun _ h => .ok [] h) := ⟨[], fun X pos _ => pps_nil, fun ha B ρ hs σ H Q S p => p [] H .refl S.hnd (by simp only [PrsR])⟩
theorem ds_cons {k v : Expr} {ks : List (Option Expr)} {vs : List Expr} {f g : PEnv → HS → Res D} {fs : PEnv → HS → Res (List D)} (h1 : ES .st c k f) (h2 : ES .st c v g) (h3 : DS c ks vs fs) :
    DS c (some k :: ks) (v :: vs) (fun ρ h => (f ρ h).bind fun x h => (g ρ h).bind fun y h => (fs ρ h).bind fun ds h => .ok (x :: y :: ds) h) := by
  obtain ⟨t1, p1, q1⟩ := h1
  obtain ⟨t2, p2, q2⟩ := h2
  obtain ⟨t3, p3, q3⟩ := h3
  have lf : ∀ (ha : Addr) (B : Addr → Prop), Lifts c.G ha B (fun _ ds (ps : List (V × V)) _ H' => PrsR c.G ha B H' ds ps) := fun ha B _ _ _ _ _ _ _ _ _ h => h
  refine ⟨(t1, t2) :: t3, fun X pos hx => pps_cons (p1 X hx) (p2 X hx) (p3 X pos hx), fun ha B ρ hs σ H Q S p => ?_⟩
  refine q1 ha B ρ hs σ H _ S (RPost.first (lf ha B) p fun x hs1 _ a H1 k1 h1 r1 p' => ?_)
  refine q2 ha B ρ hs1 σ H1 _ (S.ext k1 h1) (RPost.first (lf ha B) p' fun y hs2 _ b H2 k2 h2 r2 p2' => ?_)
  refine q3 ha B ρ hs2 σ H2 _ ((S.ext k1 h1).ext k2 h2) (RPost.first (lf ha B) p2' fun ds hs3 _ ps H3 k3 h3 r3 p3' => ?_)
  have kB : ∀ {H H' : Hp}, Ext ha H H' → Keep B H H' := fun k => k.imp fun b z => z ▸ S.hnd.hB
  have r1 : Rep c.G ha B H1 x a := r1
  have r2 : Rep c.G ha B H2 y b := r2
  refine p3' ((a, b) :: ps) H3 .refl h3 ?_
  simp only [PrsR]
  exact ⟨(a, b), ps, rfl, ⟨Rep.keep (kB (k2.trans k3)) r1, Rep.keep (kB k3) r2⟩, r3⟩
/-- the pairs as entries -/
theorem prs_kvs {G : Cfg} {ha : Addr} {B : Addr → Prop} {H : Hp} (hB : B ha) : ∀ {ds : List D} {ps : List (V × V)} {q : List D × List D} {r r0 : List D × List D}, PrsR G ha B H ds ps → turnsD ds = some q → mergeD q.1 q.2 r0 = some r → ∃ kvs : List (Key × V), ps = kvs.map (fun kv => (kV kv.1, kv.2)) ∧ q.1 = kvs.map (fun p => kD p.1) ∧ Reps G ha B H q.2 (kvs.map (·.2)) ∧ kvs.length = q.1.length
  | [], ps, q, r, r0, h, e, m => by
    simp only [PrsR] at h
    simp only [turnsD, Option.some.injEq] at e
    subst h e
    exact ⟨[], rfl, rfl, .nil, rfl⟩
  | [a], ps, q, r, r0, h, e, m => by simp only [turnsD] at e; cases e
  | a :: b :: t, ps, q, r, r0, h, e, m => by
    simp only [PrsR] at h
    obtain ⟨w, us, rfl, ⟨h1, h2⟩, h3⟩ := h
    simp only [turnsD, Option.map_eq_some_iff] at e
    obtain ⟨q', e, rfl⟩ := e
    simp only [mergeD, Option.bind_eq_some_iff] at m
    obtain ⟨z, ez, m⟩ := m
    obtain ⟨kvs, g1, g2, g3, g4⟩ := prs_kvs hB h3 e m
    have ea := keyD_kD ez
    have ev : w.1 = kV z := WRep.key_ (Rep.weak hB h1) ez
    refine ⟨(z, w.2) :: kvs, ?_, ?_, ?_, ?_⟩
    · rw [List.map_cons, ← g1, ← ev]
    · rw [List.map_cons, ← g2, ea]
    · rw [List.map_cons]
      exact .cons h2 g3
    · rw [List.length_cons, List.length_cons, g4]
theorem hnd_plusK {G : Cfg} {ha : Addr} {B : Addr → Prop} {H : Hp} {hs : HS} {q : Addr} (hh : Hnd G ha B H hs) (n : H q = none) : Hnd G ha (addB B q) (upd H q (.dK [])) hs := by
  obtain ⟨vs, e, r⟩ := hh.at_
  have h2 := hh.same (same_new (o := .dK []) n)
  refine ⟨.inl h2.hB, ⟨vs, same_new n _ _ e, Reps.keep (Keep.new n) (Reps.chg (fun b z => z.elim .inl fun y => .inr (y ▸ freshAt_none n)) r)⟩, fun b z => ?_, h2.tab⟩
  rcases z with z | rfl
  · exact h2.trk b z
  · exact ⟨_, upd_same, nt_dK0⟩
theorem es_dctL {ks : List (Option Expr)} {vs : List Expr} {fs : PEnv → HS → Res (List D)} {pos : Pos} (h : DS c ks vs fs) (hall : ks.all (·.isSome) = true) (hl : ks.length = vs.length) (h0 : ks ≠ []) (h15 : ks.length ≤ 15) :
    ES .fr c (.Dict ks vs pos) (fun ρ h => (fs ρ h).bind fun ds h => ofO (dispD ds) h) := by
  obtain ⟨trs, p1, q1⟩ := h
  refine ⟨tDisp trs, fun X hx => pe_disp (p1 X pos hx) hall hl h0 h15, fun ha B ρ hs σ H Q S p => fun a n => ?_⟩
  have nha : a ≠ ha := fun z => by
    obtain ⟨_, e, _⟩ := S.hnd.at_
    rw [← z, n] at e
    cases e
  have hh := hnd_plusK S.hnd n
  have S1 : ESim c.G ha (addB B a) ρ hs σ (upd H a (.dK [])) := S.later (addB_ch n) (Keep.new n) hh
  refine q1 ha (addB B a) ρ hs σ _ _ S1 ?_
  have ext2 : ∀ {H2 : Hp}, Ext ha (upd H a (.dK [])) H2 → Ext ha H H2 := fun k => Keep.trans (Keep.new n) k
  have p : RPost c.G ha B H (RE c.G .fr ha B) Q c.E ((fs ρ hs).bind fun ds h => ofO (dispD ds) h) := p
  cases ef : fs ρ hs with
  | stuck => rw [ef] at p; exact p.elim
  | exc e hs1 =>
    rw [ef] at p
    exact fun dx H2 k hh2 x => p dx H2 (ext2 k) (hh2.sub S.hnd.hB fun b z => .inl z) x
  | ok ds hs1 =>
    rw [ef] at p
    intro ps H2 k hh2 rp
    have rp : PrsR c.G ha (addB B a) H2 ds ps := rp
    have ea : H2 a = some (.dK []) := k.at_ a _ nha upd_same nt_dK
    refine ⟨ea, ?_⟩
    obtain ⟨d, ed, p⟩ := ofO_ok p
    unfold dispD at ed
    rw [Option.bind_eq_some_iff] at ed
    obtain ⟨q, eq, ed⟩ := ed
    split at ed
    · rename_i hlen
      rw [Bool.and_eq_true, decide_eq_true_eq, decide_eq_true_eq] at hlen
      rw [Option.map_eq_some_iff] at ed
      obtain ⟨r, em, rfl⟩ := ed
      obtain ⟨kvs, g1, g2, g3, g4⟩ := prs_kvs hh2.hB rp eq em
      refine ⟨kvs, g1, by omega, ?_⟩
      have em2 : mergeD (kvs.map fun p => kD p.1) q.2 (([] : List (Key × V)).map (fun p => kD p.1), []) = some r := by rw [← g2]; exact em
      obtain ⟨w1, w2⟩ := mergeD_ok g3 (.nil : Reps c.G ha (addB B a) H2 [] (([] : List (Key × V)).map (·.2))) em2
      have kw : Keep (addB B a) H2 (upd H2 a (.dK (mergeK [] kvs))) := Keep.wr (.inr rfl) ea (fun _ z => nomatch z) (fun _ _ z => nomatch z)
      have hw := hh2.wrk (ys := mergeK [] kvs) (.inr rfl) nha ea
      refine p (.ref a) _ ?_ (hw.sub S.hnd.hB fun b z => .inl z) ?_
      · have k0 := ext2 k
        refine ⟨fun b o nb e t => ?_, fun b xs e => ?_, fun b o u e => ?_⟩
        · rw [upd_ne fun z => by rw [z, n] at e; cases e]
          exact k0.at_ b o nb e t
        · rw [upd_ne fun z => by rw [z, n] at e; cases e]
          exact k0.tup b xs e
        · rw [upd_ne fun z => by rw [z, n] at e; cases e]
          exact k0.frz b o u e
      · exact ⟨a, mergeK [] kvs, rfl, freshAt_none n, S.hnd.out n, upd_same, hw, w1, Reps.keep kw w2⟩
    · cases ed
/-! ### d.get(k, x) -/
theorem es_dget {o e m : Expr} {f g w : PEnv → HS → Res D} {apos pos : Pos} (h1 : ES .wk c o f) (h2 : ES .wk c e g) (h3 : ES .st c m w) (hb : plainB o = true) (hp : plainE e = true) (hq : plainE m = true) (hl : (apos.endLine == pos.line) = true) :
    ES .st c (.Call (.Attribute o "get" apos) [e, m] [] pos) (fun ρ h => (f ρ h).bind fun a h => if isDct a then (g ρ h).bind fun z h => (w ρ h).bind fun d h => ofO (getD2 a z d) h else .stuck) := by
  obtain ⟨ta, p1, q1⟩ := h1
  obtain ⟨tb, p2, q2⟩ := h2
  obtain ⟨tm, p3, q3⟩ := h3
  refine ⟨tDGet2 ta tb tm, fun X hx => pe_dget2 (by have := hx.hu; omega) (p1 X hx) (p2 X hx) (p3 X hx) ⟨base_of hb, few2_of hp hq, hl, by rw [star_of hp, star_of hq]; rfl⟩, fun ha B ρ hs σ H Q S p => ?_⟩
  refine q1 ha B ρ hs σ H _ S (RPost.first lifts_E p fun x hs1 _ v H1 k1 h1 r1 p' => ?_)
  have r1 : WRep c.G ha B H1 x v := r1
  cases x with
  | dct ks xs =>
    rw [show isDct (.dct ks xs) = true from rfl, if_pos rfl] at p'
    obtain ⟨a, kvs, rfl, s1, _, _⟩ := r1.dK_
    refine ⟨a, rfl, .inl ⟨kvs, .inl s1⟩, ?_⟩
    refine q2 ha B ρ hs1 σ H1 _ (S.ext k1 h1) (RPost.first lifts_E p' fun z hs2 _ vz H2 k2 h2 r2 p2' => ?_)
    refine q3 ha B ρ hs2 σ H2 _ ((S.ext k1 h1).ext k2 h2) (RPost.first lifts_E p2' fun d hs3 _ vd H3 k3 h3 r3 p3' => ?_)
    have r1' := WRep.keep h3.hB (k2.trans k3) r1
    have r2' := WRep.keep h3.hB k3 (re_w r2)
    have r3 : Rep c.G ha B H3 d vd := r3
    obtain ⟨d', e, p3'⟩ := ofO_ok p3'
    unfold getD2 at e
    dsimp only at e
    rw [Option.map_eq_some_iff] at e
    obtain ⟨kz, ez, rfl⟩ := e
    obtain ⟨a', kvs', ea, s3, rfl, rv⟩ := r1'.dK_
    cases ea
    have evz := r2'.key_ ez
    subst evz
    refine ⟨valV kvs' kz, DGet.k s3, ?_⟩
    cases eg : dget (kvs'.map fun p => kD p.1) xs kz with
    | none =>
      rw [eg] at p3'
      rw [dget_none_ rv eg]
      exact p3' _ _ .refl h3 r3
    | some y =>
      rw [eg] at p3'
      obtain ⟨u, eu, ru⟩ := dget_ok rv eg
      rw [eu]
      exact p3' _ _ .refl h3 ru
  | _ => exact (p' : False).elim
/-- a def's name -/
theorem es_fn {x : Str} {pos : Pos} {n : Nat} (st : Stat c.G) (hg : c.sc.names.lookup x = some .globalImplicit) (h : c.G.nm[n]? = some x) (hd : (x == ("__debug__" : Str)) = false) : ES .fr c (.Name x pos) (fun _ h => .ok (.fn n) h) := by
  obtain ⟨hm, _, _⟩ := st.fn n x h
  refine ⟨tC (.ref (c.G.fa n)), fun X hx => pe_glob (hx.gl hg) (by rw [hx.eM]; exact hm) rfl hd, fun ha B ρ hs σ H Q S p => EPost.atom (E := c.E) p S.hnd ?_ rfl⟩
  simp only [Rep]
  exact ⟨trivial, by rw [h]; rfl⟩
/-! ### a held exception -/
theorem es_exnV {x : Str} {pos : Pos} {i : Nat} {X : Cx} (hx : XOk c X) (hN : c.N[i]? = some x) (hv : Vis c.sc x) (hd : (x == ("__debug__" : Str)) = false) (hcd : (x == ("__classdict__" : Str)) = false) : PE X (.Name x pos) (tVar i) :=
  pe_var (by rw [hx.eN]; exact hN) (hx.vis hv) hd hcd
theorem es_isx {x y : Str} {i k : Nat} {p p1 p2 pos : Pos} (st : Stat c.G) (hh : c.xh = true)
    (hg : c.sc.names.lookup ("isinstance" : Str) = some .globalImplicit) (hf : c.G.fr.contains "isinstance" = true)
    (hN : c.N[i]? = some x) (hv : Vis c.sc x) (hd : (x == ("__debug__" : Str)) = false) (hcd : (x == ("__classdict__" : Str)) = false)
    (hk : c.G.xn[k]? = some y) (hgy : c.sc.names.lookup y = some .globalImplicit) (hdy : (y == ("__debug__" : Str)) = false) :
    ES .fr c (.Call (.Name "isinstance" p) [.Name x p1, .Name y p2] [] pos) (fun ρ h => match ρ[i]? with
    | some (.exn e) => .ok (.bl (subc e.c k)) h
    | _ => .stuck) := by
  obtain ⟨vy, hvy, pv⟩ : ∃ vy : V, (∀ u, RelV vy u → u = c.G.cv k) ∧ ∀ X, XOk c X → PE X (.Name y p2) (tC vy) := by
    rcases st.xnm k y hk with ⟨rfl, rfl, h1, h2⟩ | ⟨C, h1, h2⟩
    · refine ⟨.ty "ValueError", fun u r => by rw [h2]; exact r, fun X hx => ?_⟩
      exact pe_bltn (hx.gl hgy) (by rw [hx.eM]; exact h1) PyProof.Rows.Boot.«ValueError» rfl
    · exact ⟨.ref C, fun u r => by rw [h2]; exact r, fun X hx => pe_glob (hx.gl hgy) (by rw [hx.eM]; exact h1) rfl hdy⟩
  refine ⟨tCB (rIsX c.G c.G.xq) (tCons (tVar i) (tCons (tC vy) tNil)), fun X hx => pe_callB (hx.xis hh).is_ (hx.gl hg) (hx.mg0 st hf) PyProof.Rows.boot_isinstance (pa_cons (es_exnV hx hN hv hd hcd) (pa_cons (pv X hx) pa_nil rfl) rfl) (by decide) (by decide) rfl rfl, fun ha B ρ hs σ H Q S p => ?_⟩
  dsimp only at p
  split at p
  case h_2 => exact p.elim
  rename_i e he
  obtain ⟨s1, s2, s4⟩ := S.at_ i _ he
  refine ⟨.ref c.G.xa, s1, ?_⟩
  rw [s4] at p s2
  exact ⟨vy, k, rfl, hvy, (List.getElem?_eq_some_iff.mp hk).1, s2, EPost.bl p S.hnd⟩
theorem es_xmost {x : Str} {i : Nat} {p1 pos : Pos} (hh : c.xh = true) (hN : c.N[i]? = some x) (hv : Vis c.sc x) (hd : (x == ("__debug__" : Str)) = false) (hcd : (x == ("__classdict__" : Str)) = false) :
    ES .fr c (.Attribute (.Name x p1) ("most" : Str) pos) (fun ρ h => match ρ[i]? with
    | some (.exn e) => ofO (e.m.map .int) h
    | _ => .stuck) := by
  refine ⟨fun σ H Q => tVar i σ H fun x H1 => x = .ref c.G.xa ∧ ExcAt c.G.xq c.G.xd H1 ∧ ∃ m : Int, c.G.xq.m = some m ∧ Q (.int m) H1, fun X hx => (hx.xis hh).most _ _ _ (es_exnV hx hN hv hd hcd) rfl, fun ha B ρ hs σ H Q S p => ?_⟩
  dsimp only at p
  split at p
  case h_2 => exact p.elim
  rename_i e he
  obtain ⟨s1, s2, s4⟩ := S.at_ i _ he
  refine ⟨.ref c.G.xa, s1, rfl, ?_⟩
  rw [s4] at p s2
  refine ⟨s2, ?_⟩
  obtain ⟨d, e1, p'⟩ := ofO_ok p
  rw [Option.map_eq_some_iff] at e1
  obtain ⟨m, e1, rfl⟩ := e1
  exact ⟨m, e1, EPost.int p' S.hnd⟩
/-! ### raise -/
/-- X(), X an own class without own __init__ -/
theorem pmk_own0 {X : Cx} {C : Addr} {x : Str} {p pos : Pos} (q : PySem.W.excIn X.K C PySem.HandSPX.veTail "ValueError.__new__" = true) (gC : X.mg x = some (.ref C))
    (kC : PySem.W.keepIn X.K (.ref C) = true) (r : Raises X (.ref C)) (hg : Gl X x) (hdb : (x == ("__debug__" : Str)) = false) : PMk X (.Call (.Name x p) [] [] pos) (fun _ H Q => Q (.ref C) none H) := by
  intro pins s σ H Q J h
  refine wpAny_Call_Name_kw (ld_glob J hg gC ?_ hdb)
  refine PySem.W.callWith_K0 J.kIn kC ?_
  obtain ⟨bm, N, nm, qn, bs, hdct, sn, sub, ab, col, dd, k0, k1, k2, k3, k5, mN, hC, hN, hni, T⟩ := exc_obj J.kIn q
  obtain ⟨hp, g, d, t, os⟩ := s
  show wpAny _ _ (call (.ref C) []) _ _ _
  exact wpAny_call_exc_subT F.excBase_ValueError T hC hN hni (fun h' e hm => mk_of J hm r h (J.hok.gone hm.new)) (Nat.zero_le _)
theorem XOk.raises {X : Cx} {C : Addr} (hx : XOk c X) (h1 : PySem.W.subIn c.G.K (.ref C) (.type "BaseException") = some true) (h2 : PySem.W.typeIn c.G.K (.ref C) = some (.type "type")) : Raises X (.ref C) := raises_own (by rw [hx.eK]; exact h1) (by rw [hx.eK]; exact h2)
/-- raise X() -/
theorem mo_rse0 {x : Str} {k : Nat} {p pos pos' : Pos} (st : Stat c.G) (hc : c.calm = true) (hk : c.G.xn[k]? = some x) (h2 : 2 ≤ k) (hg : c.sc.names.lookup x = some .globalImplicit) (hd : (x == ("__debug__" : Str)) = false)
    (hA : ∃ C, c.G.cv k = .ref C ∧ PySem.W.excIn c.G.K C PySem.HandSPX.veTail "ValueError.__new__" = true) : MO c (.Raise (some (.Call (.Name x p) [] [] pos)) none pos') (fun _ h => .exc ⟨k, none⟩ h) := by
  obtain ⟨C, e1, e2, e3, e4, e5, _⟩ := st.xrs k x hk h2
  obtain ⟨C', e1', e6⟩ := hA
  rw [e1] at e1'
  cases e1'
  refine ⟨fun D σ H => c.E (.ref C) none H, fun X hx => ps_raise (W := fun cls d _ H => c.E cls d H) (t := fun _ H Q => Q (.ref C) none H) (hx.eC hc) hx.tk (pmk_own0 (by rw [hx.eK]; exact e6) (by rw [hx.eM]; exact e2) (by rw [hx.eK]; exact e3) (hx.raises e4 e5) (hx.gl hg) hd), fun ha B0 Wr H0 own ρ hs σ H D S p => ?_⟩
  have p : YPost c.G ha B0 Wr H0 c.E ⟨k, none⟩ hs := p
  have z := p none H S.ext S.h0 rfl
  rw [← e1]
  exact z
/-- raise X(m) -/
theorem mo_rse1 {x : Str} {k : Nat} {m : Int} {e : Expr} {p pos pos' : Pos} (st : Stat c.G) (hc : c.calm = true) (hr : 2 ≤ c.r) (hk : c.G.xn[k]? = some x) (h2 : 2 ≤ k) (hg : c.sc.names.lookup x = some .globalImplicit) (hd : (x == ("__debug__" : Str)) = false)
    (hA : ∃ C, c.G.cv k = .ref C ∧ ¬ PySem.W.excIn c.G.K C PySem.HandSPX.veTail "ValueError.__new__" = true) (he : ES .fr c e (fun _ h => .ok (.int m) h)) (hp : plainE e = true) : MO c (.Raise (some (.Call (.Name x p) [e] [] pos)) none pos') (fun _ h => .exc ⟨k, some m⟩ h) := by
  obtain ⟨C, e1, e2, e3, e4, e5, e6⟩ := st.xrs k x hk h2
  obtain ⟨C', e1', n6⟩ := hA
  rw [e1] at e1'
  cases e1'
  rcases e6 with e6 | ⟨O, nm, fI, fd, i1, i2, i3, F1⟩
  · exact absurd e6 n6
  obtain ⟨te, pe, qe⟩ := he
  refine ⟨fun D σ H => tMkO C (spMost c.G.K) [] (tCons te tNil) σ H fun cls d H' => c.E cls d H', fun X hx => ps_raise (W := fun cls d _ H => c.E cls d H) (t := tMkO C (spMost c.G.K) [] (tCons te tNil)) (hx.eC hc) hx.tk
    (pmk_oex (k := 1) (CX := L2.CX c.G.P c.G.w) (fI := fI) (fd := fd) (ps := [("self" : Str), ("most" : Str)]) (ds := []) (dvs := []) (by rw [hx.eK]; exact O) (by rw [hx.eK]; exact i1) (by rw [hx.eK]; exact i2) (by rw [hx.eP, hx.eW, hx.eK, hx.eM, hx.eB]; exact F1)
      ((hx.hr hc).mono (by omega)) (by rw [hx.eK]; exact i3) .nil (by rw [← hx.eP, ← hx.eW]; exact passL) (hx.gl hg) (by rw [hx.eM]; exact e2) (pa_cons (pe X hx) pa_nil (star_of hp)) hd (star_of hp) rfl), fun ha B0 Wr H0 own ρ hs σ H D S p => ?_⟩
  have p : YPost c.G ha B0 Wr H0 c.E ⟨k, some m⟩ hs := p
  refine qe ha _ ρ hs σ H _ S.sim fun v H1 k1 h1 r1 => ?_
  have r1 : v = .int m := by simpa only [RE, RepM, Fresh, Rep] using r1
  subst r1
  show (List.length [V.int m] ≤ 1000 ∧ _)
  refine ⟨by simp, fun a na => ⟨a, C, m, rfl, O, nm, upd_same, fun dx nd ndx => ⟨rfl, dx, [(("most" : Str), .int m)], upd_same, ?_, ?_, ?_⟩⟩⟩
  · rw [upd_ne ndx, upd_same]
  · rw [upd_ne ndx] at nd
    exact nd
  · have nd' : H1 dx = none := by
      rw [upd_ne ndx] at nd
      exact nd
    rw [← e1]
    have sm : Same H1 (upd (del (upd (upd (upd H1 a (exo a C none)) dx (exd dx [(("most" : Str), .int m)])) a (exo a C (some dx))) a) dx (.xd [(("most" : Str), .int m)])) := fun b u eb => by
      rw [upd_ne (ne_of_none eb nd'), del_ne (ne_of_none eb na), upd_ne (ne_of_none eb na), upd_ne (ne_of_none eb nd'), upd_ne (ne_of_none eb na)]
      exact eb
    have S1 := S.later k1 h1
    refine p (some dx) _ (S1.ext.trans (Keep.of_same sm)) (S1.h0.same sm) ⟨dx, rfl, upd_same⟩
/-! ### a thunk handed on -/
/-- what a def makes of the thunk that it is handed -/
def TTw (G : Cfg) (f : Nat) : (XK → Hp → VK → Prop) → Hp → VK → Prop := fun tl H Q => ∃ (ha : Addr) (B : Addr → Prop) (hs : HS) (t : HS → Res D), Hnd G ha B H hs ∧
  (∀ (E' : XK) (H1 : Hp) (hs1 : HS) (Q1 : VK), Ext ha H H1 → Hnd G ha B H1 hs1 → EPost G .st ha B H1 Q1 E' (t hs1) → tl E' H1 Q1) ∧ EPost G .st ha B H Q C8.E0 (psiOf G.wd f t hs)
/-- a def that is handed a thunk, as it stands -/
structure WOk (G : Cfg) (f : Nat) (w : WordX) : Prop where
  mg : G.mg w.x = some (.ref (G.wa f))
  kp : PySem.W.keepIn G.K (.ref (G.wa f)) = true
  fd : ∃ fd, FunD G.K w.x w.x w.params w.body w.scope [] [] (G.wa f) fd ∧ Binds G.K fd [w.a] []
  sc : FnScope w.N [w.a] w.scope
  n0 : w.N[0]? = some w.a
  va : Vis w.scope w.a
  nd : (w.x == ("__debug__" : Str)) = false
  na : (w.a == ("__debug__" : Str)) = false ∧ (w.a == ("__classdict__" : Str)) = false
  gv : ∀ (X : Cx) (cdv : Value) (q : Str), X.prog = G.P → X.w = G.w → X.K = G.K → X.mg = G.mg → X.base = G.base → X.A.units + 200 < cLine → LamX.GivesTo X w.N w.x w.scope (G.wa f) cdv w.body w.a q (TTw G f)
def WdOk (G : Cfg) : Prop := ∀ f w, G.wd[f]? = some w → WOk G f w
/-- a lambda's body -/
def Ctx.lamC (c : Ctx) (scope : Scope) (E : XK) : Ctx := { c with sc := scope, sto := fun _ => false, calm := true, E := E, r := 0, lm := false, xh := false }
theorem XOk.lamC {X : Cx} (hx : XOk c X) {A : Around} {outer : List PySem.Env} {s : Shared} {H : Hp} {E : XK} {scope : Scope} {f c' : Addr} (hr : Room c.k (A.deeper (LamX.lamEnv X scope s.heap.objs.size f c'))) : XOk (c.lamC scope E) (LamX.lamCx X A outer s H E scope f c') where
  eN := hx.eN
  eS := rfl
  eC := fun _ => rfl
  eK := hx.eK
  eM := hx.eM
  eP := hx.eP
  eW := hx.eW
  eB := hx.eB
  fns := hx.fns
  tk := takes_of rfl rfl rfl rfl
  hr := fun _ => hr
  hu := by
    have := hr.un
    show (A.deeper (LamX.lamEnv X scope s.heap.objs.size f c')).units + 80 < cLine
    omega
  nd := hx.nd
  fnl := fun x h => by cases h
  own := passes_of rfl
  lam := fun h => by cases h
  xis := fun h => by cases h
theorem keep_extN {S : Addr → Prop} {H H' : Hp} (e : LamX.ExtN H H') : Keep S H H' := ⟨fun b o _ q t => e b o q t, fun b xs q => e b _ q fun _ z => (nomatch z), fun b o u q => e b _ q fun _ z => (nomatch z)⟩
theorem Hnd.extN {G : Cfg} {ha : Addr} {B : Addr → Prop} {H H' : Hp} {hs : HS} (h : Hnd G ha B H hs) (e : LamX.ExtN H H') (t : LamX.Tabs G.T H') : Hnd G ha B H' hs := by
  obtain ⟨vs, e1, r⟩ := h.at_
  refine ⟨h.hB, ⟨vs, e _ _ e1 fun _ z => (nomatch z), Reps.keep (keep_extN e) r⟩, fun b z => ?_, t⟩
  obtain ⟨o, q, n⟩ := h.trk b z
  exact ⟨o, e _ _ q n, n⟩
/-- x(lambda: body) -/
theorem es_said {f : Nat} {w : WordX} {params : Arguments} {body : Expr} {scope : Scope} {fb : PEnv → HS → Res D} {p lpos pos : Pos} (wd : WdOk c.G) (hw : c.G.wd[f]? = some w) (hg : c.sc.names.lookup w.x = some .globalImplicit) (hc : c.calm = true) (hr2 : c.r = 2) (hlm : c.lm = true)
    (hL : LamX.LamS c.sc scope) (hdef : ∀ env : PySem.Env, defaultsOf params env = ([], []))
    (hbind : ∀ (q : Str) (cl : List (Str × Addr)) (pm cv ctv : Value), bindArgs (PySem.W.kla_fn "<lambda>" q params body scope cl pm cv ctv) ⟨[], []⟩ = pure [])
    (hb : ∀ E, ES .st (c.lamC scope E) body fb) : ES .st c (.Call (.Name w.x p) [.Lambda params body scope lpos] [] pos) (fun ρ h => psiOf c.G.wd f (fun h => fb ρ h) h) := by
  have W := wd f w hw
  obtain ⟨fd, ⟨⟨oc, od, dV, kV, doc, pm, an, cdv, ct, osl, e1, lk, hcd, _, _⟩, _⟩, hbd⟩ := W.fd
  subst e1
  have tb := fun E => Classical.choose_spec (hb E)
  refine ⟨LamX.tLam c.G.T (TTw c.G f) (fun E => Classical.choose (hb E)), fun X hx => ?_, fun ha B ρ hs σ H Q S p => ?_⟩
  · obtain ⟨cc, P, h1, h2, h3, h4⟩ := hx.lam hlm
    have hr : Room (c.k + 2) X.A := by
      have z := hx.hr hc
      rw [hr2] at z
      exact z
    exact LamX.pe_lamcall (x := w.x) (a := w.a) (g := c.G.wa f) (k := c.k) (hx.gl hg) (by rw [hx.eM]; exact W.mg) (by rw [hx.eK]; exact W.kp) (by rw [hx.eK]; exact lk) (by rw [hx.eK]; exact hcd) (by rw [hx.eK]; exact hbd) W.sc W.n0 W.va
      (W.gv X cdv _ hx.eP hx.eW hx.eK hx.eM hx.eB (by have := hr.un; omega)) h2 h1 h3 h4 hr (by rw [hx.eS]; exact hL) (hdef _) hbind (fun A outer s H E f c' hr' => (tb E).1 _ (hx.lamC hr')) W.nd W.na.1 W.na.2
  · have S0 := S.hnd
    refine ⟨S0.tab, fun H1 e1 t1 => ?_⟩
    have h1 := S0.extN e1 t1
    refine ⟨ha, B, hs, fun h => fb ρ h, h1, fun E' H2 hs2 Q2 k2 h2 p2 => ?_, ?_⟩
    · exact (tb E').2 ha B ρ hs2 σ H2 Q2 (S.ext ((keep_extN e1).trans k2) h2) p2
    · have p1 : EPost c.G .st ha B H1 Q c.E (psiOf c.G.wd f (fun h => fb ρ h) hs) := RPost.base lifts_E p (keep_extN e1) h1
      cases er : psiOf c.G.wd f (fun h => fb ρ h) hs with
      | ok d h =>
        rw [er] at p1
        exact p1
      | exc e h =>
        exfalso
        unfold psiOf at er
        rw [hw] at er
        dsimp only at er
        cases ew : wordR w (fun h => fb ρ h) hs with
        | ok _ _ => rw [ew] at er; cases er
        | exc _ _ => rw [ew] at er; cases er
        | stuck => rw [ew] at er; cases er
      | stuck =>
        rw [er] at p1
        exact p1
end
end PD

set_option Elab.async false
set_option linter.all false
set_option maxRecDepth 100000
set_option maxHeartbeats 2000000
/-! P16: does a small program stand for an expression of the text. -/
namespace PD
open PySem PySem.Spec PyProof.Rows L2 RZ
structure CE where
  N : List Str
  nm : List Str
  cs : List (Str × D)
  fr : List Str
  /-- classes of errors, those made of nothing, those made of a number; defs that are handed a thunk -/
  xn : List Str
  xa : List Nat
  xb : List Nat
  wn : List Str
  /-- calm; room for more; a lambda may be made; an exception is held -/
  cm : Bool
  fl : Bool
  lm : Bool
  xh : Bool
def CE.lamK (K : CE) : CE := { K with cm := true, fl := false, lm := false, xh := false }
structure Fits (K : CE) (c : Ctx) (sc : Scope) (sto : Str → Bool) : Prop where
  N : c.N = K.N
  sc : c.sc = sc
  sto : c.sto = sto
  nm : c.G.nm = K.nm
  cs : c.G.cs = K.cs
  fr : c.G.fr = K.fr
  st : Stat c.G
  ar : Arity c
  calm : c.calm = K.cm
  rm : K.fl = true → c.r = 2
  lm : K.lm = true → c.lm = true
  xh : K.xh = true → c.xh = true
  xc : K.cm = true → K.xh = false
  xn : c.G.xn = K.xn
  xa : ∀ k ∈ K.xa, ∃ C, c.G.cv k = .ref C ∧ PySem.W.excIn c.G.K C PySem.HandSPX.veTail "ValueError.__new__" = true
  xb : ∀ k ∈ K.xb, ∃ C, c.G.cv k = .ref C ∧ ¬ PySem.W.excIn c.G.K C PySem.HandSPX.veTail "ValueError.__new__" = true
  wn : c.G.wd.map (·.x) = K.wn
  wo : WdOk c.G
  ps : c.Ψ = psiOf c.G.wd
abbrev CF := Scope → (Str → Bool) → Bool → Expr → IE → Bool
def visB (sc : Scope) (x : Str) : Bool := sc.names.lookup x == some .local || (sc.names.lookup x == some .cell || sc.names.lookup x == some .free)
def locB (sc : Scope) (x : Str) : Bool := sc.names.lookup x == some .local || sc.names.lookup x == some .cell
def glB (sc : Scope) (x : Str) : Bool := sc.names.lookup x == some .globalImplicit
def okNm (x : Str) : Bool := !(x == ("__debug__" : Str)) && !(x == ("__classdict__" : Str))
def frE : IE → Bool
  | .lit _ => true | .tup _ => true | .lst _ => true | .rngL _ _ _ => true | .bin _ _ _ => true | .neg _ => true | .not _ => true | .cmp _ _ _ => true | .chain _ _ _ _ _ => true | .slc _ _ _ => true | .rev _ => true
  | .bi b _ => biFr b | .isi _ _ => true | .mt _ _ _ => true | .lc _ _ _ _ _ => true | .dct _ _ => true | .dctL _ => true
  | _ => false
def mdE (esc : Bool) (ie : IE) : Md := if frE ie = true then .fr else if esc = true then .st else .wk
def sameD : D → D → Bool
  | .int i, .int j => decide (i = j)
  | .str x, .str y => decide (x = y)
  | .bl a, .bl b => a == b
  | .non, .non => true
  | .fn n, .fn m => decide (n = m)
  | _, _ => false
theorem sameD_eq {a b : D} (h : sameD a b = true) : a = b := by
  cases a <;> cases b <;> simp only [sameD, decide_eq_true_eq, beq_iff_eq] at h <;> first | rfl | (rw [h]) | cases h
def opB : Operator → BOp → Bool
  | .Add, .add => true | .Sub, .sub => true | .Mult, .mul => true | .FloorDiv, .fdiv => true | .Mod, .mod => true | .Pow, .pow => true | .BitAnd, .band => true | .LShift, .shl => true
  | _, _ => false
theorem opB_eq {o : Operator} {b : BOp} (h : opB o b = true) : o = bop b := by
  cases o <;> cases b <;> first | rfl | cases h
def copB : CmpOp → COp → Bool
  | .Eq, .eq => true | .NotEq, .ne => true | .Lt, .lt => true | .LtE, .le => true | .Gt, .gt => true | .GtE, .ge => true | .Is, .is => true | .IsNot, .isn => true | .In, .inn => true | .NotIn, .nin => true
  | _, _ => false
theorem copB_eq {o : CmpOp} {b : COp} (h : copB o b = true) : o = cop b := by
  cases o <;> cases b <;> first | rfl | cases h
variable (K : CE)
def vN (sc : Scope) (x : Str) (i : Nat) : Bool := decide (K.N[i]? = some x) && (visB sc x && okNm x)
def eVar (sc : Scope) (e : Expr) (i : Nat) : Bool := match e with
  | .Name x _ => vN K sc x i
  | _ => false
def gN (sc : Scope) (x : Str) : Bool := glB sc x && K.fr.contains x
def eLit (sc : Scope) (e : Expr) (d : D) : Bool := match e with
  | .Constant (.int i) _ _ => sameD d (.int i)
  | .Constant (.bool i) _ _ => sameD d (.bl i)
  | .Constant (.str i) _ _ => sameD d (.str i)
  | .Constant .none _ _ => sameD d .non
  | .Name x _ => glB sc x && (okNm x && ((match K.cs.lookup x with
    | some d' => sameD d d'
    | none => false) || (match d with
    | .fn n => decide (K.nm[n]? = some x)
    | _ => false)))
  | _ => false
def eAll (f : Expr → IE → Bool) : List Expr → IEs → Bool
  | [], .nil => true
  | e :: es, .cons i is => (f e i && plainE e) && eAll f es is
  | _, _ => false
def ePart (f : Expr → IE → Bool) : Option Expr → IO → Bool
  | none, .no => true
  | some e, .so i => f e i
  | _, _ => false
mutual
def eTg (sc : Scope) (sto : Str → Bool) : IT → Expr → Bool
  | .nm i, e => (match e with
    | .Name x _ => decide (K.N[i]? = some x) && (locB sc x && sto x)
    | _ => false)
  | .tp ts, e => (match e with
    | .Tuple xs _ _ => K.cm && eTgs sc sto ts xs
    | _ => false)
def eTgs (sc : Scope) (sto : Str → Bool) : ITs → List Expr → Bool
  | .nil, xs => xs.isEmpty
  | .cons t ts, xs => (match xs with
    | x :: r => (eTg sc sto t x && plainE x) && eTgs sc sto ts r
    | [] => false)
end
def eDct (f : Expr → IE → Bool) : List (Option Expr) → List Expr → IEs → Bool
  | [], [], .nil => true
  | some k :: ks, v :: vs, .cons a (.cons b r) => (f k a && f v b) && eDct f ks vs r
  | _, _, _ => false
def isTupE : Expr → Bool
  | .Tuple _ _ _ => true
  | _ => false
/-- a test, m turns deep -/
def eC (f : Bool → Expr → IE → Bool) : Nat → Expr → IC → Bool
  | 0, _, _ => false
  | m + 1, e, ic => match e with
    | .BoolOp op vs p => (match op, vs, ic with
      | _, [a], ic => eC f m a ic
      | .And, a :: b :: r, .and x y => eC f m a x && eC f m (.BoolOp .And (b :: r) p) y
      | .Or, a :: b :: r, .or x y => eC f m a x && eC f m (.BoolOp .Or (b :: r) p) y
      | _, _, _ => false)
    | .UnaryOp .Not a _ => (match ic with
      | .not x => eC f m a x
      | _ => false)
    | .Compare a ops bs _ => (match ops, bs, ic with
      | [op], [b], .val (.cmp o x y) => (copB op o && plainIn b) && (f false a x && f false b y)
      | [op, op'], [b, d], .val (.chain o o' x y z) => (copB op o && (copB op' o' && plainIn d)) && (f false a x && (f false b y && f false d z))
      | _, _, _ => false)
    | e => plainT e && (match ic with
      | .val x => f false e x
      | _ => false)
def eIfs (f : Bool → Expr → IE → Bool) (m : Nat) : List Expr → IC → Bool
  | [], .tt => true
  | [e], ic => eC f m e ic
  | _, _ => false
def isM1 : Expr → Bool
  | .UnaryOp .USub (.Constant (.int i) _ _) _ => decide (i = 1)
  | _ => false
/-- what is walked -/
def eS (f : Bool → Expr → IE → Bool) (sc : Scope) (wk : Bool) (tg iter : Expr) : IS → Bool
  | .val a => f (!wk) iter a
  | .rng1 a => (match iter with
    | .Call (.Name x _) [y] [] _ => (decide (x = ("range" : Str)) && (gN K sc ("range" : Str) && plainE y)) && f false y a
    | _ => false)
  | .rng2 a b => (match iter with
    | .Call (.Name x _) [y, z] [] _ => (decide (x = ("range" : Str)) && (gN K sc ("range" : Str) && (plainE y && plainE z))) && (f false y a && f false z b)
    | _ => false)
  | .rng3 a b d => (match iter with
    | .Call (.Name x _) [y, z, w] [] _ => (decide (x = ("range" : Str)) && (gN K sc ("range" : Str) && (plainE y && plainE z))) && ((f false y a && f false z b) && (isM1 w && decide (d = -1)))
    | _ => false)
  | .zip a b => isTupE tg && (match iter with
    | .Call (.Name x _) [y, z] [] _ => (decide (x = ("zip" : Str)) && (gN K sc ("zip" : Str) && (plainE y && plainE z))) && (f (!wk) y a && f (!wk) z b)
    | _ => false)
  | .enum a => isTupE tg && (match iter with
    | .Call (.Name x _) [y] [] _ => (decide (x = ("enumerate" : Str)) && (gN K sc ("enumerate" : Str) && plainE y)) && f (!wk) y a
    | _ => false)
def idxN (x : Str) : List Str → Nat → Option Nat
  | [], _ => none
  | y :: r, n => if y == x then some n else idxN x r (n + 1)
def ownOf (scope : Scope) : List (Str × Nat) := scope.names.filterMap fun (x, k) => if k == .local || k == .cell then (idxN x K.N 0).map fun i => (x, i) else none
def stoI (scope sc : Scope) : Str → Bool := fun x => scope.names.lookup x == some .cell || (relS scope sc).names.lookup x == some .local
def eTys (sc : Scope) : List Expr → List Ty → Bool
  | [], [] => true
  | .Name x _ :: es, t :: ts => (decide (x = tyN t) && gN K sc (tyN t)) && eTys sc es ts
  | _, _ => false
def eIsi (f : Bool → Expr → IE → Bool) (sc : Scope) (a : IE) (ts : List Ty) : List Expr → Bool
  | [y, z] => (gN K sc ("isinstance" : Str) && (plainE y && f false y a)) && (match z, ts with
    | .Name x _, [t] => decide (x = tyN t) && gN K sc (tyN t)
    | .Tuple zs _ _, ts => eTys K sc zs ts && (!ts.isEmpty && decide (ts.length ≤ line))
    | _, _ => false)
  | _ => false
def eRng (f : Bool → Expr → IE → Bool) (sc : Scope) (a b : IE) : Expr → Bool
  | .Call (.Name x _) args [] _ => (decide (x = ("range" : Str)) && gN K sc ("range" : Str)) && (match args with
    | [z] => plainE z && ((match a with
      | .lit d => sameD d (.int 0)
      | _ => false) && f false z b)
    | [y, z] => (plainE y && plainE z) && (f false y a && f false z b)
    | _ => false)
  | _ => false
/-- a comprehension's parts -/
def eLc (ce : CF) (sc : Scope) (sto : Str → Bool) (elt tg iter : Expr) (ifs : List Expr) (scope : Scope) (t : IT) (s : IS) (c : IC) (x : IE) : Bool :=
  (K.cm && (blkC K.N sc scope (ownOf K scope) && ((itSl t).all fun i => ((ownOf K scope).map (·.2)).contains i))) &&
    ((plainS iter && eS K (ce sc sto) sc true tg iter s) && (eTg K (relS scope sc) (stoI scope sc) t tg && (eIfs (ce (relS scope sc) (stoI scope sc)) 40 ifs c && ce (relS scope sc) (stoI scope sc) true elt x)))
/-- a lambda without parameters -/
def noPar : Arguments → Bool
  | ⟨[], [], none, [], [], none, []⟩ => true
  | _ => false
def e1 (ce cl : CF) (sc : Scope) (sto : Str → Bool) (esc : Bool) (e : Expr) (ie : IE) : Bool := match ie with
  | .var i => eVar K sc e i
  | .ovar i => !esc && eVar K sc e i
  | .lit d => eLit K sc e d
  | .tup es => (match e with
    | .Tuple xs _ _ => eAll (ce sc sto true) xs es
    | _ => false)
  | .lst es => (match e with
    | .List xs _ => eAll (ce sc sto true) xs es
    | _ => false)
  | .rngL t a b => (match e with
    | .Call (.Name x _) [y] [] _ => (decide (x = rgNm t) && (K.cm && gN K sc (rgNm t))) && eRng K (ce sc sto) sc a b y
    | _ => false)
  | .bin o a b => (match e with
    | .BinOp x op y _ => opB op o && (ce sc sto false x a && ce sc sto false y b)
    | _ => false)
  | .neg a => (match e with
    | .UnaryOp .USub x _ => ce sc sto false x a
    | _ => false)
  | .not a => (match e with
    | .UnaryOp .Not x _ => ce sc sto false x a
    | _ => false)
  | .cmp o a b => (match e with
    | .Compare x [op] [y] _ => (copB op o && plainIn y) && (ce sc sto false x a && ce sc sto false y b)
    | _ => false)
  | .chain o o' a b d => (match e with
    | .Compare x [op, op'] [y, z] _ => (copB op o && (copB op' o' && plainIn z)) && (ce sc sto false x a && (ce sc sto false y b && ce sc sto false z d))
    | _ => false)
  | .and a b => (match e with
    | .BoolOp .And (x :: y :: r) p => ce sc sto false x a && ce sc sto esc (.BoolOp .And (y :: r) p) b
    | _ => false)
  | .or a b => (match e with
    | .BoolOp .Or (x :: y :: r) p => ce sc sto false x a && ce sc sto esc (.BoolOp .Or (y :: r) p) b
    | _ => false)
  | .ite t a b => (match e with
    | .IfExp t' x y _ => eC (ce sc sto) 40 t' t && (ce sc sto esc x a && ce sc sto esc y b)
    | _ => false)
  | .ix a i => (match e with
    | .Subscript x s _ => plainIx s && (ce sc sto false x a && ce sc sto false s i)
    | _ => false)
  | .slc a lo hi => (match e with
    | .Subscript x (.Slice l h none _) _ => ce sc sto false x a && (ePart (ce sc sto false) l lo && ePart (ce sc sto false) h hi)
    | _ => false)
  | .rev a => (match e with
    | .Subscript x (.Slice none none (some (.UnaryOp .USub (.Constant (.int i) _ _) _)) _) _ => decide (i = 1) && ce sc sto false x a
    | _ => false)
  | .call f as => (match e with
    | .Call (.Name x _) (a :: es) [] _ => (decide (K.nm[f]? = some x) && (K.cm && (glB sc x && okNm x))) && eAll (ce sc sto true) (a :: es) as
    | _ => false)
  | .callv i as => (match e with
    | .Call (.Name x _) (a :: es) [] _ => (K.cm && vN K sc x i) && eAll (ce sc sto true) (a :: es) as
    | _ => false)
  | .bi b as => (match e with
    | .Call (.Name x _) (a :: es) [] _ => (decide (x = biNm b) && (K.cm && gN K sc (biNm b))) && eAll (ce sc sto false) (a :: es) as
    | _ => false)
  | .isi a ts => (match e with
    | .Call (.Name x _) args [] _ => decide (x = ("isinstance" : Str)) && eIsi K (ce sc sto) sc a ts args
    | _ => false)
  | .mt m o as => (match e with
    | .Call (.Attribute x nm ap) [y] [] pos => (decide (nm = mtN m) && (plainB x && ap.endLine == pos.line)) && (ce sc sto false x o && eAll (ce sc sto false) [y] as)
    | _ => false)
  | .lc vs t s c x => (match e with
    | .ListComp elt [⟨tg, iter, ifs, az⟩] scope _ => (decide (az = 0) && decide (vs = (ownOf K scope).map (·.2))) && eLc K ce sc sto elt tg iter ifs scope t s c x
    | _ => false)
  | .dct ks vs => (match ks, vs, e with
    | .nil, .nil, .Dict [] [] _ => true
    | _, _, _ => false)
  | .dctL es => (match e with
    | .Dict ks vs _ => (!ks.isEmpty && decide (ks.length ≤ 15)) && eDct (ce sc sto true) ks vs es
    | _ => false)
  | .dget o k x => (match e with
    | .Call (.Attribute a nm ap) [y, z] [] pos => (decide (nm = ("get" : Str)) && ((plainB a && (plainE y && plainE z)) && ap.endLine == pos.line)) && (ce sc sto false a o && (ce sc sto false y k && ce sc sto true z x))
    | _ => false)
  | .isx i k => (match e with
    | .Call (.Name f _) [.Name x _, .Name y _] [] _ => decide (f = ("isinstance" : Str)) && ((K.xh && gN K sc ("isinstance" : Str)) && (vN K sc x i && (decide (K.xn[k]? = some y) && (glB sc y && okNm y))))
    | _ => false)
  | .xmost i => (match e with
    | .Attribute (.Name x _) a _ => decide (a = ("most" : Str)) && (K.xh && vN K sc x i)
    | _ => false)
  | .said f b => (match e with
    | .Call (.Name x _) [.Lambda params body scope _] [] _ => ((decide (K.wn[f]? = some x) && glB sc x) && (K.cm && (K.fl && K.lm))) && ((LamX.lamSB sc scope && noPar params) && cl scope (fun _ => false) true body b)
    | _ => false)
  | _ => false
def isOne : Expr → Bool
  | .BoolOp _ [_] _ => true
  | _ => false
def oneOf : Expr → Expr
  | .BoolOp _ [x] _ => x
  | e => e
/-- n turns deep -/
def chkF : Nat → CE → CF
  | 0, _ => fun _ _ _ _ _ => false
  | n + 1, K => fun sc sto esc e ie => if isOne e then chkF n K sc sto esc (oneOf e) ie else e1 K (chkF n K) (chkF n K.lamK) sc sto esc e ie
abbrev chkE (n : Nat) : CF := chkF n K
/-! ### statements -/
def eNames (fs : Bool → Expr → IE → Bool) : List (Nat × Bool) → List Expr → IEs → Bool
  | [], [], .nil => true
  | (_, o) :: is, e :: es, .cons i r => ((if o then frE i else true) && (fs true e i && plainE e)) && eNames fs is es r
  | _, _, _ => false
def nmB (sc : Scope) (sto : Str → Bool) : List Expr → List (Nat × Bool) → Bool
  | [], [] => true
  | .Name x _ :: ts, (i, _) :: is => (decide (K.N[i]? = some x) && (locB sc x && sto x)) && nmB sc sto ts is
  | _, _ => false
def locN (sc : Scope) : List Expr → Bool
  | [] => true
  | .Name x _ :: ts => sc.names.lookup x == some .local && locN sc ts
  | _ => false
def nmsOf : List Expr → List Str
  | .Name x _ :: ts => x :: nmsOf ts
  | _ => []
def distinct : List Nat → Bool
  | [] => true
  | i :: r => !(r.contains i) && distinct r
def ePar (fs : Bool → Expr → IE → Bool) (sc : Scope) (sto : Str → Bool) (is : List (Nat × Bool)) (es : IEs) (ts vs : List Expr) : Bool :=
  (K.cm && nmB K sc sto ts is && (eNames fs is vs es && ((vs.all (foldedForSure 8) || !(vs.all (constantsAlone 8))) || (swL sc ts vs).isNone))) && (match swL sc ts vs with
    | none => decide (is.length ≤ line)
    | some xs => locN sc ts && (distinct (is.map (·.1)) && (decide (xs = nmsOf ts) && (ts.length == 2 || ts.length == 3))))
def sAll (f : Stmt → IM → Bool) : List Stmt → IMs → Bool
  | sts, .cons m r => (match m with
    | .frz _ => sAll f sts r
    | .dead => true
    | m => (match sts with
      | st :: sts => f st m && sAll f sts r
      | [] => false))
  | sts, .nil => sts.isEmpty
def s1 (fs : Bool → Expr → IE → Bool) (ce : CF) (sc : Scope) (sto : Str → Bool) (rec_ : Stmt → IM → Bool) (st : Stmt) (im : IM) : Bool := match im with
  | .set i e => (match st with
    | .Assign [.Name x _] v _ => (decide (K.N[i]? = some x) && (locB sc x && sto x)) && (match v, e with
      | .ListComp elt [⟨tg, iter, ifs, az⟩] scope _, .lc vs t s c y => (decide (az = 0) && decide (vs = (ownOf K scope).map (·.2))) && eLc K ce sc sto elt tg iter ifs scope t s c y
      | v, e => plainV v && fs true v e)
    | _ => false)
  | .setO i e => (match st with
    | .Assign [.Name x _] v _ => (decide (K.N[i]? = some x) && (locB sc x && sto x)) && (match v, e with
      | .ListComp elt [⟨tg, iter, ifs, az⟩] scope _, .lc vs t s c y => (decide (az = 0) && decide (vs = (ownOf K scope).map (·.2))) && eLc K ce sc sto elt tg iter ifs scope t s c y
      | v, e => plainV v && (frE e && fs true v e))
    | _ => false)
  | .setT t e => (match st with
    | .Assign [tg] v _ => (eTg K sc sto t tg && plainE tg) && ((plainV v && notTupE v) && fs true v e)
    | _ => false)
  | .par is es => (match st with
    | .Assign [.Tuple ts _ _] (.Tuple vs _ _) _ => ePar K fs sc sto is es ts vs
    | _ => false)
  | .setIx i k e => (match st with
    | .Assign [.Subscript (.Name x _) b _] v _ => (vN K sc x i && (plainV v && plainIx b)) && (fs true v e && fs false b k)
    | _ => false)
  | .aug i o e => (match st with
    | .AugAssign (.Name x _) op v _ => (decide (K.N[i]? = some x) && (locB sc x && sto x)) && (opB op o && fs false v e)
    | _ => false)
  | .app i e => (match st with
    | .Expr (.Call (.Attribute (.Name x _) a ap) [v] [] cp) _ => (decide (a = ("append" : Str)) && (vN K sc x i && (plainE v && ap.endLine == cp.line))) && fs true v e
    | _ => false)
  | .ext i e => (match st with
    | .Expr (.Call (.Attribute (.Name x _) a ap) [v] [] cp) _ => (decide (a = ("extend" : Str)) && (vN K sc x i && (plainE v && ap.endLine == cp.line))) && fs false v e
    | _ => false)
  | .pop t i => (match st with
    | .Assign [tg] (.Call (.Attribute (.Name x _) a ap) [] [] cp) _ => (decide (a = ("pop" : Str)) && (vN K sc x i && (plainE tg && ap.endLine == cp.line))) && eTg K sc sto t tg
    | _ => false)
  | .upd i e => (match st with
    | .Expr (.Call (.Attribute (.Name x _) a ap) [v] [] cp) _ => (decide (a = ("update" : Str)) && (vN K sc x i && (plainE v && ap.endLine == cp.line))) && fs true v e
    | _ => false)
  | .augIx i k o e => (match st with
    | .AugAssign (.Subscript (.Name x _) b _) op v _ => (vN K sc x i && (opB op o && plainIx b)) && (fs false v e && fs false b k)
    | _ => false)
  | .ins i k e => (match st with
    | .Expr (.Call (.Attribute (.Name x _) a ap) [b, v] [] cp) _ => (decide (a = ("insert" : Str)) && (vN K sc x i && ((plainE v && plainE b) && ap.endLine == cp.line))) && (fs true v e && fs true b k)
    | _ => false)
  | .rem i e => (match st with
    | .Expr (.Call (.Attribute (.Name x _) a ap) [v] [] cp) _ => (decide (a = ("remove" : Str)) && (vN K sc x i && (plainE v && ap.endLine == cp.line))) && fs false v e
    | _ => false)
  | .expr e => (match st with
    | .Expr v _ => plainV v && fs false v e
    | _ => false)
  | .ite t a b => (match st with
    | .If t' x y _ => eC fs 40 t' t && (sAll rec_ x a && sAll rec_ y b)
    | _ => false)
  | .whl t b => (match st with
    | .While t' x [] _ => eC fs 40 t' t && sAll rec_ x b
    | _ => false)
  | .for_ t s b => (match st with
    | .For tg iter x [] _ => (K.cm && plainS iter && eS K fs sc false tg iter s) && (eTg K sc sto t tg && sAll rec_ x b)
    | _ => false)
  | .ret e => (match st with
    | .Return (some v) _ => fs true v e
    | _ => false)
  | .retN => (match st with
    | .Return none _ => true
    | _ => false)
  | .brk => (match st with
    | .Break _ => true
    | _ => false)
  | .cnt => (match st with
    | .Continue _ => true
    | _ => false)
  | .pass => (match st with
    | .Pass _ => true
    | .Expr (.Constant (.str _) _ _) _ => true
    | _ => false)
  | .dead => true
  | .rse k m => (match st with
    | .Raise (some (.Call (.Name x _) as [] _)) none _ => ((decide (K.xn[k]? = some x) && decide (2 ≤ k)) && (glB sc x && okNm x)) && (K.cm && (match m, as with
      | none, [] => K.xa.contains k
      | some m, [a] => (K.fl && K.xb.contains k) && (plainE a && fs true a (.lit (.int m)))
      | _, _ => false))
    | _ => false)
  | _ => false
def chkM (sc : Scope) (sto : Str → Bool) : Nat → Stmt → IM → Bool
  | 0 => fun _ _ => false
  | n + 1 => s1 K (chkE K 40 sc sto) (chkE K 40) sc sto (chkM sc sto n)
def chkB (sc : Scope) (sts : List Stmt) (b : IMs) : Bool := sAll (chkM K sc (fun _ => true) 40) sts b
end PD

set_option Elab.async false
set_option linter.all false
set_option maxRecDepth 100000
set_option maxHeartbeats 2000000
/-! P17: what is checked is so: expressions. -/
namespace PD
open PySem PySem.Spec PyProof.Rows L2 RZ
abbrev dn (c : Ctx) : IE → PEnv → HS → Res D := den c.Φ c.Ψ c.thk
/-- the checker's own part is right -/
def CeOk (K : CE) (ce : CF) : Prop := ∀ (c : Ctx) sc sto, Fits K c sc sto → ∀ esc e ie, ce sc sto esc e ie = true → ES (mdE esc ie) c e (dn c ie)
theorem ES.up_fr {c : Ctx} {e : Expr} {f : PEnv → HS → Res D} {m : Md} (h : ES .fr c e f) : ES m c e f := h.fr_any
theorem ES.up_st {c : Ctx} {e : Expr} {f : PEnv → HS → Res D} {esc : Bool} (h : ES .st c e f) : ES (if esc = true then .st else .wk) c e f := by
  cases esc with
  | true => exact h
  | false => exact h.wk
theorem ES.dw {c : Ctx} {e : Expr} {f : PEnv → HS → Res D} {esc : Bool} {ie : IE} (h : ES (mdE esc ie) c e f) : ES .wk c e f := h.wk
theorem ES.ds {c : Ctx} {e : Expr} {f : PEnv → HS → Res D} {ie : IE} (h : ES (mdE true ie) c e f) : ES .st c e f := by
  unfold mdE at h
  split at h
  · exact h.fr_st
  · exact h
theorem ES.es {c : Ctx} {e : Expr} {f : PEnv → HS → Res D} {ie : IE} {esc : Bool} (h : ES (mdE esc ie) c e f) : ES (if esc = true then .st else .wk) c e f := by
  cases esc with
  | true => exact h.ds
  | false => exact h.wk
theorem ES.walk {c : Ctx} {e : Expr} {f : PEnv → HS → Res D} {ie : IE} {wk : Bool} (h : ES (mdE (!wk) ie) c e f) : ES (mdOf wk) c e f := by
  cases wk with
  | true => exact h.wk
  | false => exact h.ds
section
variable {K : CE} {c : Ctx} {sc : Scope} {sto : Str → Bool}
theorem Fits.gl (F : Fits K c sc sto) {x : Str} (h : glB sc x = true) : c.sc.names.lookup x = some .globalImplicit := by
  rw [F.sc]
  exact eq_of_beq (α := Option NameKind) h
theorem Fits.gn (F : Fits K c sc sto) {x : Str} (h : gN K sc x = true) : c.sc.names.lookup x = some .globalImplicit ∧ c.G.fr.contains x = true := by
  unfold gN at h
  rw [Bool.and_eq_true] at h
  exact ⟨F.gl h.1, by rw [F.fr]; exact h.2⟩
theorem Fits.vis (F : Fits K c sc sto) {x : Str} (h : visB sc x = true) : Vis c.sc x := by
  rw [F.sc]
  unfold visB at h
  rw [Bool.or_eq_true, Bool.or_eq_true] at h
  rcases h with h | h | h
  · exact .inl (eq_of_beq (α := Option NameKind) h)
  · exact .inr (.inl (eq_of_beq (α := Option NameKind) h))
  · exact .inr (.inr (eq_of_beq (α := Option NameKind) h))
theorem Fits.loc (F : Fits K c sc sto) {x : Str} (h : locB sc x = true) : Loc c.sc x := by
  rw [F.sc]
  unfold locB at h
  rw [Bool.or_eq_true] at h
  rcases h with h | h
  · exact .inl (eq_of_beq (α := Option NameKind) h)
  · exact .inr (eq_of_beq (α := Option NameKind) h)
theorem okNm_ok {x : Str} (h : okNm x = true) : (x == ("__debug__" : Str)) = false ∧ (x == ("__classdict__" : Str)) = false := by
  unfold okNm at h
  rw [Bool.and_eq_true, Bool.not_eq_true', Bool.not_eq_true'] at h
  exact h
theorem Fits.vn (F : Fits K c sc sto) {x : Str} {i : Nat} (h : vN K sc x i = true) : c.N[i]? = some x ∧ Vis c.sc x ∧ (x == ("__debug__" : Str)) = false ∧ (x == ("__classdict__" : Str)) = false := by
  unfold vN at h
  rw [Bool.and_eq_true, Bool.and_eq_true, decide_eq_true_eq] at h
  exact ⟨by rw [F.N]; exact h.1, F.vis h.2.1, okNm_ok h.2.2⟩
theorem eVar_ok (F : Fits K c sc sto) {e : Expr} {i : Nat} (h : eVar K sc e i = true) : ES .st c e (dn c (.var i)) ∧ ES .wk c e (dn c (.ovar i)) := by
  unfold eVar at h
  split at h
  · obtain ⟨h1, h2, h3, h4⟩ := F.vn h
    exact ⟨es_var h1 h2 h3 h4, es_ovar h1 h2 h3 h4⟩
  · cases h
theorem eLit_ok (F : Fits K c sc sto) {e : Expr} {d : D} (h : eLit K sc e d = true) : ES .fr c e (dn c (.lit d)) := by
  have ef : dn c (.lit d) = fun _ h => .ok d h := by funext ρ h; simp only [dn, den]
  rw [ef]
  unfold eLit at h
  split at h
  · rw [sameD_eq h]; exact es_int
  · rw [sameD_eq h]; exact es_bl
  · rw [sameD_eq h]; exact es_str
  · rw [sameD_eq h]; exact es_non
  · rw [Bool.and_eq_true, Bool.and_eq_true, Bool.or_eq_true] at h
    obtain ⟨h1, h2, h3⟩ := h
    rcases h3 with h3 | h3
    · split at h3
      · rename_i d' e'
        rw [sameD_eq h3]
        exact es_glob F.st (F.gl h1) (by rw [F.cs]; exact e') (okNm_ok h2).1
      · cases h3
    · split at h3
      · exact es_fn F.st (F.gl h1) (by rw [F.nm]; exact of_decide_eq_true h3) (okNm_ok h2).1
      · cases h3
  · cases h
theorem eAll_ok {wk : Bool} {f : Expr → IE → Bool} (hf : ∀ e ie, f e ie = true → ES (mdOf wk) c e (dn c ie)) : ∀ {es : List Expr} {is : IEs}, eAll f es is = true → AS wk c es (dens c.Φ c.Ψ c.thk is) ∧ es.all plainE = true
  | [], .nil, _ => by
    have ef : dens c.Φ c.Ψ c.thk .nil = fun _ h => .ok [] h := by funext ρ h; (simp only [dens]) <;> rfl
    rw [ef]
    exact ⟨as_nil, rfl⟩
  | e :: es, .cons i is, h => by
    unfold eAll at h
    rw [Bool.and_eq_true, Bool.and_eq_true] at h
    obtain ⟨⟨h1, h2⟩, h3⟩ := h
    obtain ⟨a1, a2⟩ := eAll_ok hf h3
    have ef : dens c.Φ c.Ψ c.thk (.cons i is) = fun ρ h => (dn c i ρ h).bind fun x h => (dens c.Φ c.Ψ c.thk is ρ h).bind fun xs h => .ok (x :: xs) h := by funext ρ h; (simp only [dens]) <;> rfl
    rw [ef]
    exact ⟨as_cons (hf e i h1) a1 h2, by rw [List.all_cons, h2, a2]; rfl⟩
  | [], .cons _ _, h => by unfold eAll at h; cases h
  | _ :: _, .nil, h => by unfold eAll at h; cases h
theorem ePart_ok {f : Expr → IE → Bool} (hf : ∀ e ie, f e ie = true → ES .wk c e (dn c ie)) {o : Option Expr} {io : IO} (h : ePart f o io = true) : OS c o (denO c.Φ c.Ψ c.thk io) := by
  unfold ePart at h
  split at h
  · have ef : denO c.Φ c.Ψ c.thk .no = fun _ h => .ok none h := by funext ρ h; (simp only [denO]) <;> rfl
    rw [ef]
    exact os_none
  · rename_i e i
    have ef : denO c.Φ c.Ψ c.thk (.so i) = fun ρ h => (dn c i ρ h).bind fun x h => ofO ((intOf x).map some) h := by funext ρ h; (simp only [denO]) <;> rfl
    rw [ef]
    exact os_some (hf _ _ h)
  · cases h
mutual
theorem eTg_ok (F : Fits K c sc sto) : ∀ {it : IT} {e : Expr}, eTg K sc sto it e = true → GS c e it
  | .nm i, e, h => by
    simp only [eTg] at h
    split at h
    · rw [Bool.and_eq_true, Bool.and_eq_true, decide_eq_true_eq] at h
      exact gs_name (by rw [F.N]; exact h.1) (F.loc h.2.1) (by rw [F.sto]; exact h.2.2)
    · cases h
  | .tp ts, e, h => by
    simp only [eTg] at h
    split at h
    · rw [Bool.and_eq_true] at h
      obtain ⟨h1, h2, h3⟩ := eTgs_ok F h.2
      exact gs_tup (F.calm.trans h.1) h1 h2 h3
    · cases h
theorem eTgs_ok (F : Fits K c sc sto) : ∀ {its : ITs} {es : List Expr}, eTgs K sc sto its es = true → GSs c es its ∧ es.all plainE = true ∧ es.length = itsLen its
  | .nil, es, h => by
    simp only [eTgs] at h
    cases es with
    | nil => exact ⟨gss_nil, rfl, rfl⟩
    | cons _ _ => cases h
  | .cons t ts, es, h => by
    simp only [eTgs] at h
    cases es with
    | nil => cases h
    | cons e es =>
      simp only at h
      rw [Bool.and_eq_true, Bool.and_eq_true] at h
      obtain ⟨⟨h1, h2⟩, h3⟩ := h
      obtain ⟨a1, a2, a3⟩ := eTgs_ok F h3
      exact ⟨gss_cons (eTg_ok F h1) a1 h2, by rw [List.all_cons, h2, a2]; rfl, by rw [List.length_cons, a3]; rfl⟩
end
abbrev dc (c : Ctx) : IC → PEnv → HS → Res Bool := denC c.Φ c.Ψ c.thk
theorem dc_val {a : IE} : dc c (.val a) = fun ρ h => (dn c a ρ h).bind fun x h => ofO (truthD x) h := by funext ρ h; (simp only [denC]) <;> rfl
theorem dc_and {a b : IC} : dc c (.and a b) = fun ρ h => (dc c a ρ h).bind fun k h => if k then dc c b ρ h else .ok false h := by funext ρ h; (simp only [denC]) <;> rfl
theorem dc_or {a b : IC} : dc c (.or a b) = fun ρ h => (dc c a ρ h).bind fun k h => if k then .ok true h else dc c b ρ h := by funext ρ h; (simp only [denC]) <;> rfl
theorem dc_not {a : IC} : dc c (.not a) = fun ρ h => (dc c a ρ h).bind fun k h => .ok (!k) h := by funext ρ h; (simp only [denC]) <;> rfl
theorem dc_tt : dc c .tt = fun _ h => .ok true h := by funext ρ h; (simp only [denC]) <;> rfl
theorem dn_cmp {o : COp} {a b : IE} : dn c (.cmp o a b) = fun ρ h => (dn c a ρ h).bind fun x h => (dn c b ρ h).bind fun y h => ofO ((cmpD o x y).map .bl) h := by funext ρ h; (simp only [den]) <;> rfl
theorem dn_chain {o o' : COp} {a b d : IE} : dn c (.chain o o' a b d) = fun ρ h => (dn c a ρ h).bind fun x h => (dn c b ρ h).bind fun y h => match cmpD o x y with
    | some true => (dn c d ρ h).bind fun z h => ofO ((cmpD o' y z).map .bl) h
    | some false => .ok (.bl false) h
    | none => .stuck := by funext ρ h; (simp only [den]) <;> rfl
theorem eC_ok {f : Bool → Expr → IE → Bool} (hf : ∀ esc e ie, f esc e ie = true → ES (mdE esc ie) c e (dn c ie)) : ∀ (m : Nat) {e : Expr} {ic : IC}, eC f m e ic = true → CS c e (dc c ic) ∧ ((∃ op vs p, e = .BoolOp op vs p) → CW c e (dc c ic))
  | 0, _, _, h => by unfold eC at h; cases h
  | m + 1, e, ic, h => by
    have fw : ∀ e ie, f false e ie = true → ES .wk c e (dn c ie) := fun e ie z => (hf false e ie z).wk
    unfold eC at h
    split at h
    · rename_i op vs p
      have key : CW c (.BoolOp op vs p) (dc c ic) → CS c (.BoolOp op vs p) (dc c ic) ∧ ((∃ op' vs' p', Expr.BoolOp op vs p = .BoolOp op' vs' p') → CW c (.BoolOp op vs p) (dc c ic)) := fun z => ⟨z.cs, fun _ => z⟩
      apply key
      split at h
      · have z := (eC_ok hf m h).1
        cases op with
        | And => exact cw_and1 z
        | Or => exact cw_or1 z
      · rw [Bool.and_eq_true] at h
        rw [dc_and]
        exact cw_and (eC_ok hf m h.1).1 ((eC_ok hf m h.2).2 ⟨_, _, _, rfl⟩)
      · rw [Bool.and_eq_true] at h
        rw [dc_or]
        exact cw_or (eC_ok hf m h.1).1 ((eC_ok hf m h.2).2 ⟨_, _, _, rfl⟩)
      · cases h
    · refine ⟨?_, fun ⟨_, _, _, z⟩ => by cases z⟩
      split at h
      · rw [dc_not]
        exact cs_not (eC_ok hf m h).1
      · cases h
    · refine ⟨?_, fun ⟨_, _, _, z⟩ => by cases z⟩
      split at h
      · rw [Bool.and_eq_true, Bool.and_eq_true, Bool.and_eq_true] at h
        obtain ⟨⟨h1, h2⟩, h3, h4⟩ := h
        rw [copB_eq h1, dc_val, dn_cmp]
        exact cs_cmp (fw _ _ h3) (fw _ _ h4) h2
      · rw [Bool.and_eq_true, Bool.and_eq_true, Bool.and_eq_true, Bool.and_eq_true, Bool.and_eq_true] at h
        obtain ⟨⟨h1, h2, h3⟩, h4, h5, h6⟩ := h
        rw [copB_eq h1, copB_eq h2, dc_val, dn_chain]
        exact cs_chain (fw _ _ h4) (fw _ _ h5) (fw _ _ h6) h3
      · cases h
    · rename_i n1 n2 n3
      rw [Bool.and_eq_true] at h
      refine ⟨?_, fun ⟨op, vs, p, z⟩ => absurd z (n1 op vs p)⟩
      obtain ⟨h1, h2⟩ := h
      split at h2
      · rw [dc_val]
        exact cs_val (fw _ _ h2) h1
      · cases h2
theorem eIfs_ok {f : Bool → Expr → IE → Bool} (hf : ∀ esc e ie, f esc e ie = true → ES (mdE esc ie) c e (dn c ie)) {m : Nat} {ifs : List Expr} {ic : IC} (h : eIfs f m ifs ic = true) : TSs c ifs (dc c ic) := by
  unfold eIfs at h
  split at h
  · rw [dc_tt]
    exact tss_nil
  · exact tss_one (eC_ok hf m h).1
  · cases h
abbrev dS (c : Ctx) : IS → PEnv → HS → Res (List D) := denS c.Φ c.Ψ c.thk
theorem eS_ok {f : Bool → Expr → IE → Bool} (F : Fits K c sc sto) (hf : ∀ esc e ie, f esc e ie = true → ES (mdE esc ie) c e (dn c ie)) {wk : Bool} {tg iter : Expr} {s : IS} (h : eS K f sc wk tg iter s = true) : WS c tg iter wk (dS c s) := by
  have fw : ∀ e ie, f false e ie = true → ES .wk c e (dn c ie) := fun e ie z => (hf false e ie z).wk
  unfold eS at h
  cases s with
  | val a =>
    have ef : dS c (.val a) = fun ρ h => (dn c a ρ h).bind fun x h => ofO (seqOf x) h := by funext ρ h; (simp only [denS]) <;> rfl
    rw [ef]
    exact ws_val (hf _ _ _ h).walk
  | rng1 a =>
    have ef : dS c (.rng1 a) = fun ρ h => (dn c a ρ h).bind fun x h => match x with
    | .int n => if inR n then .ok (rangeD 0 n.toNat) h else .stuck
    | _ => .stuck := by funext ρ h; (simp only [denS]) <;> rfl
    rw [ef]
    dsimp only at h
    split at h
    · simp only [Bool.and_eq_true, decide_eq_true_eq] at h
      obtain ⟨⟨rfl, h2, h3⟩, h4⟩ := h
      obtain ⟨g1, g2⟩ := F.gn h2
      exact ws_rng1 F.st g1 g2 (fw _ _ h4) h3
    · cases h
  | rng2 a b =>
    have ef : dS c (.rng2 a b) = fun ρ h => (dn c a ρ h).bind fun x h => (dn c b ρ h).bind fun y h => match x, y with
    | .int lo, .int hi => if inR lo && inR hi then .ok (rangeD lo (hi - lo).toNat) h else .stuck
    | _, _ => .stuck := by funext ρ h; (simp only [denS]) <;> rfl
    rw [ef]
    dsimp only at h
    split at h
    · simp only [Bool.and_eq_true, decide_eq_true_eq] at h
      obtain ⟨⟨rfl, h2, h3, h4⟩, h5, h6⟩ := h
      obtain ⟨g1, g2⟩ := F.gn h2
      exact ws_rng2 F.st g1 g2 (fw _ _ h5) (fw _ _ h6) h3 h4
    · cases h
  | rng3 a b d =>
    have ef : dS c (.rng3 a b d) = fun ρ h => (dn c a ρ h).bind fun x h => (dn c b ρ h).bind fun y h => match x, y with
    | .int lo, .int hi => if (inR lo && inR hi) && decide (d = -1) then .ok (rangeN lo (lo - hi).toNat) h else .stuck
    | _, _ => .stuck := by funext ρ h; (simp only [denS]) <;> rfl
    rw [ef]
    dsimp only at h
    split at h
    · simp only [Bool.and_eq_true, decide_eq_true_eq] at h
      obtain ⟨⟨rfl, h2, h3, h4⟩, ⟨h5, h6⟩, h7, rfl⟩ := h
      obtain ⟨g1, g2⟩ := F.gn h2
      unfold isM1 at h7
      split at h7
      · rename_i i _ _ _
        have ei : i = 1 := of_decide_eq_true h7
        subst ei
        have em := es_neg (c := c) (pos := by assumption) (es_int (c := c) (i := 1) (j := by assumption) (pos := by assumption)).fr_st.st_wk
        exact ws_rng3 F.st g1 g2 (fw _ _ h5) (fw _ _ h6) (es_neg (es_int (c := c)).fr_st.st_wk).wk h3 h4 rfl
      · cases h7
    · cases h
  | zip a b =>
    have ef : dS c (.zip a b) = fun ρ h => (dn c a ρ h).bind fun x h => (dn c b ρ h).bind fun y h => match x, y with
    | .lst xs, .lst ys => .ok ((xs.zip ys).map fun p => .tup [p.1, p.2]) h
    | .tup xs, .tup ys => .ok ((xs.zip ys).map fun p => .tup [p.1, p.2]) h
    | .tup xs, .lst ys => .ok ((xs.zip ys).map fun p => .tup [p.1, p.2]) h
    | .lst xs, .tup ys => .ok ((xs.zip ys).map fun p => .tup [p.1, p.2]) h
    | _, _ => .stuck := by funext ρ h; (simp only [denS]) <;> rfl
    rw [ef]
    dsimp only at h
    rw [Bool.and_eq_true] at h
    obtain ⟨h0, h⟩ := h
    split at h
    · simp only [Bool.and_eq_true, decide_eq_true_eq] at h
      obtain ⟨⟨rfl, h2, h3, h4⟩, h5, h6⟩ := h
      obtain ⟨g1, g2⟩ := F.gn h2
      cases tg <;> first | exact ws_zip F.st g1 g2 (hf _ _ _ h5).walk (hf _ _ _ h6).walk h3 h4 | cases h0
    · cases h
  | enum a =>
    have ef : dS c (.enum a) = fun ρ h => (dn c a ρ h).bind fun x h => match x with
    | .lst xs => .ok (xs.zipIdx.map fun p => .tup [.int (p.2 : Nat), p.1]) h
    | .tup xs => .ok (xs.zipIdx.map fun p => .tup [.int (p.2 : Nat), p.1]) h
    | _ => .stuck := by funext ρ h; (simp only [denS]) <;> rfl
    rw [ef]
    dsimp only at h
    rw [Bool.and_eq_true] at h
    obtain ⟨h0, h⟩ := h
    split at h
    · simp only [Bool.and_eq_true, decide_eq_true_eq] at h
      obtain ⟨⟨rfl, h2, h3⟩, h5⟩ := h
      obtain ⟨g1, g2⟩ := F.gn h2
      cases tg <;> first | exact ws_enum F.st g1 g2 (hf _ _ _ h5).walk h3 | cases h0
    · cases h
theorem Fits.inn (F : Fits K c sc sto) (h0 : K.cm = true) (scope : Scope) : Fits K (c.inn scope) (relS scope sc) (stoI scope sc) where
  N := F.N
  sc := by
    show relS scope c.sc = _
    rw [F.sc]
  sto := by
    show stoI scope c.sc = _
    rw [F.sc]
  nm := F.nm
  cs := F.cs
  fr := F.fr
  st := F.st
  ar := F.ar
  calm := F.calm
  rm := F.rm
  lm := F.lm
  xh := fun h => by
    rw [F.xc h0] at h
    cases h
  xc := F.xc
  xn := F.xn
  xa := F.xa
  xb := F.xb
  wn := F.wn
  wo := F.wo
  ps := F.ps
theorem Fits.lamK (F : Fits K c sc sto) (scope : Scope) (E : XK) : Fits K.lamK (c.lamC scope E) scope (fun _ => false) where
  N := F.N
  sc := rfl
  sto := rfl
  nm := F.nm
  cs := F.cs
  fr := F.fr
  st := F.st
  ar := F.ar
  calm := rfl
  rm := fun h => by cases h
  lm := fun h => by cases h
  xh := fun h => by cases h
  xc := fun _ => rfl
  xn := F.xn
  xa := F.xa
  xb := F.xb
  wn := F.wn
  wo := F.wo
  ps := F.ps
theorem eLc_ok {ce : CF} (F : Fits K c sc sto) (hce : CeOk K ce) {elt tg iter : Expr} {ifs : List Expr} {scope : Scope} {t : IT} {s : IS} {ic : IC} {x : IE} (h : eLc K ce sc sto elt tg iter ifs scope t s ic x = true) :
    LcOk c elt tg iter ifs scope (ownOf K scope) t (dS c s) (dc c ic) (dn c x) := by
  unfold eLc at h
  simp only [Bool.and_eq_true] at h
  obtain ⟨⟨h0, h1, h2⟩, ⟨h3, h4⟩, h5, h6, h7⟩ := h
  have FI := F.inn h0 scope
  refine ⟨F.calm.trans h0, eS_ok F (hce c sc sto F) h4, by rw [F.N, F.sc]; exact h1, eTg_ok FI h5, eIfs_ok (c := c.inn scope) (hce _ _ _ FI) h6, (hce _ _ _ FI true _ _ h7).ds, fun i hi => ?_, h3⟩
  have z := List.all_eq_true.mp h2 i hi
  exact List.contains_iff_mem.mp z
theorem lcM_eq {t : IT} {s : IS} {ic : IC} {x : IE} {own : List (Str × Nat)} : dn c (.lc (own.map (·.2)) t s ic x) = lcM own t (dS c s) (dc c ic) (dn c x) := by
  funext ρ h
  simp only [dn, den, lcM]
  rfl
theorem eTys_ok (F : Fits K c sc sto) : ∀ {es : List Expr} {ts : List Ty}, eTys K sc es ts = true → ∃ tp : List (Ty × Pos), es = tyNs tp ∧ tp.map (·.1) = ts ∧ ∀ t ∈ tp, c.sc.names.lookup (tyN t.1) = some .globalImplicit ∧ c.G.fr.contains (tyN t.1) = true
  | [], [], _ => ⟨[], rfl, rfl, fun _ z => nomatch z⟩
  | [], _ :: _, h => by unfold eTys at h; cases h
  | e :: es, [], h => by
    unfold eTys at h
    cases e <;> cases h
  | e :: es, t :: ts, h => by
    unfold eTys at h
    split at h
    · rename_i e1 e2
      cases e1
    · rename_i x p es' t' ts' e1 e2
      cases e1
      cases e2
      simp only [Bool.and_eq_true, decide_eq_true_eq] at h
      obtain ⟨⟨rfl, h2⟩, h3⟩ := h
      obtain ⟨tp, q1, q2, q3⟩ := eTys_ok F h3
      refine ⟨(t, p) :: tp, by rw [q1]; rfl, by rw [List.map_cons, q2], fun u hu => ?_⟩
      rcases List.mem_cons.mp hu with rfl | hu
      · exact F.gn h2
      · exact q3 u hu
    · cases h
end
end PD

set_option Elab.async false
set_option linter.all false
set_option maxRecDepth 100000
set_option maxHeartbeats 2000000
/-! P18: what is checked is so: all expressions, statements. -/
namespace PD
open PySem PySem.Spec PyProof.Rows L2 RZ
section
variable {K : CE} {c : Ctx} {sc : Scope} {sto : Str → Bool}
theorem mdE_fr {esc : Bool} {ie : IE} (h : frE ie = true) : mdE esc ie = .fr := if_pos h
theorem mdE_no {esc : Bool} {ie : IE} (h : frE ie = false) : mdE esc ie = if esc = true then .st else .wk := by
  unfold mdE
  rw [if_neg (by rw [h]; exact Bool.false_ne_true)]
theorem rbind {α β γ : Type} (a : Res α) (f : α → HS → Res β) (g : β → HS → Res γ) : (a.bind f).bind g = a.bind fun x h => (f x h).bind g := by cases a <;> rfl
theorem rbind_ok {α β : Type} (x : α) (h : HS) (f : α → HS → Res β) : (Res.ok x h).bind f = f x h := rfl
theorem eDct_ok {f : Expr → IE → Bool} (hf : ∀ e ie, f e ie = true → ES .st c e (dn c ie)) : ∀ {ks : List (Option Expr)} {vs : List Expr} {is : IEs}, eDct f ks vs is = true → DS c ks vs (dens c.Φ c.Ψ c.thk is) ∧ ks.all (·.isSome) = true ∧ ks.length = vs.length
  | [], [], .nil, _ => by
    have ef : dens c.Φ c.Ψ c.thk .nil = fun _ h => .ok [] h := by funext ρ h; (simp only [dens]) <;> rfl
    rw [ef]
    exact ⟨ds_nil, rfl, rfl⟩
  | some k :: ks, v :: vs, .cons a (.cons b r), h => by
    unfold eDct at h
    simp only [Bool.and_eq_true] at h
    obtain ⟨⟨h1, h2⟩, h3⟩ := h
    obtain ⟨d1, d2, d3⟩ := eDct_ok hf h3
    have ef : dens c.Φ c.Ψ c.thk (.cons a (.cons b r)) = fun ρ h => (dn c a ρ h).bind fun x h => (dn c b ρ h).bind fun y h => (dens c.Φ c.Ψ c.thk r ρ h).bind fun ds h => .ok (x :: y :: ds) h := by
      funext ρ h
      simp only [dens, rbind, rbind_ok]
    rw [ef]
    exact ⟨ds_cons (hf _ _ h1) (hf _ _ h2) d1, by rw [List.all_cons, d2]; rfl, by rw [List.length_cons, List.length_cons, d3]⟩
  | [], [], .cons _ _, h => by unfold eDct at h; cases h
  | [], _ :: _, _, h => by unfold eDct at h; cases h
  | none :: _, _, _, h => by unfold eDct at h; cases h
  | some _ :: _, [], _, h => by unfold eDct at h; cases h
  | some _ :: _, _ :: _, .nil, h => by unfold eDct at h; cases h
  | some _ :: _, _ :: _, .cons _ .nil, h => by unfold eDct at h; cases h
theorem e1_ok {ce cl : CF} (hce : CeOk K ce) (hcl : CeOk K.lamK cl) (F : Fits K c sc sto) {esc : Bool} {e : Expr} {ie : IE} (h : e1 K ce cl sc sto esc e ie = true) : ES (mdE esc ie) c e (dn c ie) := by
  have fa := hce c sc sto F
  have fw : ∀ e ie, ce sc sto false e ie = true → ES .wk c e (dn c ie) := fun e ie z => (fa false e ie z).wk
  have ft : ∀ e ie, ce sc sto true e ie = true → ES .st c e (dn c ie) := fun e ie z => (fa true e ie z).ds
  cases ie with
  | var i =>
    rw [mdE_no rfl]
    exact (eVar_ok F h).1.up_st
  | ovar i =>
    have h : (!esc && eVar K sc e i) = true := h
    rw [Bool.and_eq_true, Bool.not_eq_true'] at h
    obtain ⟨rfl, h⟩ := h
    exact (eVar_ok F h).2
  | lit d => exact eLit_ok F h
  | tup es =>
    have ef : dn c (.tup es) = fun ρ h => (dens c.Φ c.Ψ c.thk es ρ h).bind fun ds h => if ds.length ≤ line then .ok (.tup ds) h else .stuck := by funext ρ h; (simp only [den]) <;> rfl
    rw [ef]
    simp only [e1] at h
    split at h
    · exact es_tup (eAll_ok (wk := false) ft h).1
    · cases h
  | lst es =>
    have ef : dn c (.lst es) = fun ρ h => (dens c.Φ c.Ψ c.thk es ρ h).bind fun ds h => if ds.length ≤ line then .ok (.lst ds) h else .stuck := by funext ρ h; (simp only [den]) <;> rfl
    rw [ef]
    simp only [e1] at h
    split at h
    · exact es_lst (eAll_ok (wk := false) ft h).1
    · cases h
  | dct ks vs =>
    simp only [e1] at h
    split at h
    · have ef : dn c (.dct .nil .nil) = fun _ h => .ok (.dct [] []) h := by funext ρ h; (simp only [den, dens]) <;> rfl
      rw [ef, mdE_fr rfl]
      exact es_dct0
    · cases h
  | dctL es =>
    have ef : dn c (.dctL es) = fun ρ h => (dens c.Φ c.Ψ c.thk es ρ h).bind fun ds h => ofO (dispD ds) h := by funext ρ h; (simp only [den]) <;> rfl
    rw [ef, mdE_fr rfl]
    simp only [e1] at h
    split at h
    · simp only [Bool.and_eq_true, decide_eq_true_eq, Bool.not_eq_true'] at h
      obtain ⟨⟨h1, h2⟩, h3⟩ := h
      obtain ⟨d1, d2, d3⟩ := eDct_ok ft h3
      exact es_dctL d1 d2 d3 (fun z => by rw [z] at h1; cases h1) h2
    · cases h
  | dget o k x =>
    have ef : dn c (.dget o k x) = fun ρ h => (dn c o ρ h).bind fun a h => if isDct a then (dn c k ρ h).bind fun z h => (dn c x ρ h).bind fun d h => ofO (getD2 a z d) h else .stuck := by funext ρ h; (simp only [den]) <;> rfl
    rw [ef, mdE_no rfl]
    simp only [e1] at h
    split at h
    · simp only [Bool.and_eq_true, decide_eq_true_eq] at h
      obtain ⟨⟨rfl, ⟨h1, h2, h3⟩, h4⟩, h5, h6, h7⟩ := h
      exact (es_dget (fw _ _ h5) (fw _ _ h6) (ft _ _ h7) h1 h2 h3 h4).up_st
    · cases h
  | rngL t a b =>
    have ef : dn c (.rngL t a b) = fun ρ h => (dn c a ρ h).bind fun x h => (dn c b ρ h).bind fun y h => ofO (rngD t x y) h := by funext ρ h; (simp only [den]) <;> rfl
    simp only [e1] at h
    split at h
    · rename_i x p y p2
      simp only [Bool.and_eq_true, decide_eq_true_eq] at h
      obtain ⟨⟨rfl, hcm, h1⟩, h2⟩ := h
      have hcm := F.calm.trans hcm
      obtain ⟨g1, g2⟩ := F.gn h1
      unfold eRng at h2
      split at h2
      · simp only [Bool.and_eq_true, decide_eq_true_eq] at h2
        obtain ⟨⟨rfl, h3⟩, h4⟩ := h2
        obtain ⟨g3, g4⟩ := F.gn h3
        split at h4
        · simp only [Bool.and_eq_true] at h4
          obtain ⟨h5, h6, h7⟩ := h4
          cases a with
          | lit d =>
            have := sameD_eq h6
            subst this
            have ea : dn c (.lit (.int 0)) = fun _ h => .ok (.int 0) h := by funext ρ h; (simp only [den]) <;> rfl
            rw [ef, ea]
            exact es_rg1 F.st hcm g1 g2 g3 g4 (fw _ _ h7) h5
          | _ => cases h6
        · simp only [Bool.and_eq_true] at h4
          obtain ⟨⟨h5, h6⟩, h7, h8⟩ := h4
          rw [ef]
          exact es_rg2 F.st hcm g1 g2 g3 g4 (fw _ _ h7) (fw _ _ h8) h5 h6
        · cases h4
      · cases h2
    · cases h
  | bin o a b =>
    have ef : dn c (.bin o a b) = fun ρ h => (dn c a ρ h).bind fun x h => (dn c b ρ h).bind fun y h => ofO (binD o x y) h := by funext ρ h; (simp only [den]) <;> rfl
    rw [ef]
    simp only [e1] at h
    split at h
    · simp only [Bool.and_eq_true] at h
      obtain ⟨h1, h2, h3⟩ := h
      rw [opB_eq h1]
      exact es_bin (fw _ _ h2) (fw _ _ h3)
    · cases h
  | neg a =>
    have ef : dn c (.neg a) = fun ρ h => (dn c a ρ h).bind fun x h => ofO (negD x) h := by funext ρ h; (simp only [den]) <;> rfl
    rw [ef]
    simp only [e1] at h
    split at h
    · exact es_neg (fw _ _ h)
    · cases h
  | not a =>
    have ef : dn c (.not a) = fun ρ h => (dn c a ρ h).bind fun x h => ofO ((truthD x).map fun k => .bl (!k)) h := by funext ρ h; (simp only [den]) <;> rfl
    rw [ef]
    simp only [e1] at h
    split at h
    · exact es_not (fw _ _ h)
    · cases h
  | cmp o a b =>
    rw [dn_cmp]
    simp only [e1] at h
    split at h
    · simp only [Bool.and_eq_true] at h
      obtain ⟨⟨h1, h2⟩, h3, h4⟩ := h
      rw [copB_eq h1]
      exact es_cmp (fw _ _ h3) (fw _ _ h4) h2
    · cases h
  | chain o o' a b d =>
    rw [dn_chain]
    simp only [e1] at h
    split at h
    · simp only [Bool.and_eq_true] at h
      obtain ⟨⟨h1, h2, h3⟩, h4, h5, h6⟩ := h
      rw [copB_eq h1, copB_eq h2]
      exact es_chain (fw _ _ h4) (fw _ _ h5) (fw _ _ h6) h3
    · cases h
  | and a b =>
    have ef : dn c (.and a b) = fun ρ h => (dn c a ρ h).bind fun x h => match x with
    | .bl true => dn c b ρ h
    | .bl false => .ok (.bl false) h
    | _ => .stuck := by funext ρ h; (simp only [den]) <;> rfl
    rw [ef, mdE_no rfl]
    simp only [e1] at h
    split at h
    · simp only [Bool.and_eq_true] at h
      exact es_and (fw _ _ h.1) (fa _ _ _ h.2).es
    · cases h
  | or a b =>
    have ef : dn c (.or a b) = fun ρ h => (dn c a ρ h).bind fun x h => match x with
    | .bl true => .ok (.bl true) h
    | .bl false => dn c b ρ h
    | _ => .stuck := by funext ρ h; (simp only [den]) <;> rfl
    rw [ef, mdE_no rfl]
    simp only [e1] at h
    split at h
    · simp only [Bool.and_eq_true] at h
      exact es_or (fw _ _ h.1) (fa _ _ _ h.2).es
    · cases h
  | ite t a b =>
    have ef : dn c (.ite t a b) = fun ρ h => (dc c t ρ h).bind fun k h => if k then dn c a ρ h else dn c b ρ h := by funext ρ h; (simp only [den]) <;> rfl
    rw [ef, mdE_no rfl]
    simp only [e1] at h
    split at h
    · simp only [Bool.and_eq_true] at h
      obtain ⟨h1, h2, h3⟩ := h
      exact es_ite (eC_ok fa 40 h1).1 (fa _ _ _ h2).es (fa _ _ _ h3).es
    · cases h
  | ix a i =>
    have ef : dn c (.ix a i) = fun ρ h => (dn c a ρ h).bind fun x h => (dn c i ρ h).bind fun y h => ofO (ixD h x y) h := by funext ρ h; (simp only [den]) <;> rfl
    rw [ef, mdE_no rfl]
    simp only [e1] at h
    split at h
    · simp only [Bool.and_eq_true] at h
      exact (es_ix (fw _ _ h.2.1) (fw _ _ h.2.2) h.1).up_st
    · cases h
  | slc a lo hi =>
    have ef : dn c (.slc a lo hi) = fun ρ h => (dn c a ρ h).bind fun x h => (denO c.Φ c.Ψ c.thk lo ρ h).bind fun l h => (denO c.Φ c.Ψ c.thk hi ρ h).bind fun u h => ofO (slcD x l u) h := by funext ρ h; (simp only [den]) <;> rfl
    rw [ef]
    simp only [e1] at h
    split at h
    · simp only [Bool.and_eq_true] at h
      obtain ⟨h1, h2, h3⟩ := h
      exact es_slc (fw _ _ h1) (ePart_ok fw h2) (ePart_ok fw h3)
    · cases h
  | rev a =>
    have ef : dn c (.rev a) = fun ρ h => (dn c a ρ h).bind fun x h => ofO (revD x) h := by funext ρ h; (simp only [den]) <;> rfl
    rw [ef]
    simp only [e1] at h
    split at h
    · simp only [Bool.and_eq_true, decide_eq_true_eq] at h
      obtain ⟨rfl, h⟩ := h
      exact es_rev (fw _ _ h)
    · cases h
  | call f as =>
    have ef : dn c (.call f as) = fun ρ h => (dens c.Φ c.Ψ c.thk as ρ h).bind fun ds h => c.Φ f ds h := by funext ρ h; (simp only [den]) <;> rfl
    rw [ef, mdE_no rfl]
    simp only [e1] at h
    split at h
    · simp only [Bool.and_eq_true, decide_eq_true_eq] at h
      obtain ⟨⟨h1, hcm, h2, h3⟩, h4⟩ := h
      obtain ⟨a1, a2⟩ := eAll_ok (wk := false) ft h4
      exact (es_call F.st F.ar (by rw [F.nm]; exact h1) (F.gl h2) (F.calm.trans hcm) a1 a2 (okNm_ok h3).1).up_st
    · cases h
  | callv i as =>
    have ef : dn c (.callv i as) = fun ρ h => match ρ[i]? with
    | some (.val (.fn f)) => (dens c.Φ c.Ψ c.thk as ρ h).bind fun ds h => c.Φ f ds h
    | _ => .stuck := by funext ρ h; (simp only [den]) <;> rfl
    rw [ef, mdE_no rfl]
    simp only [e1] at h
    split at h
    · simp only [Bool.and_eq_true] at h
      obtain ⟨⟨hcm, h1⟩, h2⟩ := h
      obtain ⟨q1, q2, q3, q4⟩ := F.vn h1
      obtain ⟨a1, a2⟩ := eAll_ok (wk := false) ft h2
      exact (es_callv F.st F.ar q1 q2 (F.calm.trans hcm) a1 a2 q3 q4).up_st
    · cases h
  | thk => cases h
  | said f b =>
    have ef : dn c (.said f b) = fun ρ h => c.Ψ f (fun h => dn c b ρ h) h := by funext ρ h; (simp only [den]) <;> rfl
    rw [ef, mdE_no rfl, F.ps]
    simp only [e1] at h
    split at h
    · rename_i x p params body scope lpos pos
      simp only [Bool.and_eq_true, decide_eq_true_eq] at h
      obtain ⟨⟨⟨h1, h2⟩, h3, h4, h5⟩, ⟨h6, h7⟩, h8⟩ := h
      rw [← F.wn, List.getElem?_map, Option.map_eq_some_iff] at h1
      obtain ⟨w, hw, rfl⟩ := h1
      refine (es_said (w := w) F.wo hw (F.gl h2) (F.calm.trans h3) (F.rm h4) (F.lm h5) (by rw [F.sc]; exact LamX.lamS_by h6) (fun env => ?_) (fun q cl pm cv ctv => ?_) fun E => ?_).up_st
      · unfold noPar at h7
        split at h7
        · rfl
        · cases h7
      · unfold noPar at h7
        split at h7
        · rfl
        · cases h7
      · exact (hcl _ _ _ (F.lamK scope E) _ _ _ h8).ds
    · cases h
  | bi b as =>
    have ef : dn c (.bi b as) = fun ρ h => (dens c.Φ c.Ψ c.thk as ρ h).bind fun ds h => ofO (biD b ds) h := by funext ρ h; (simp only [den]) <;> rfl
    rw [ef]
    simp only [e1] at h
    split at h
    · simp only [Bool.and_eq_true, decide_eq_true_eq] at h
      obtain ⟨⟨rfl, hcm, h1⟩, h2⟩ := h
      obtain ⟨g1, g2⟩ := F.gn h1
      obtain ⟨a1, a2⟩ := eAll_ok (wk := true) fw h2
      have z := fun p pos => es_bi (b := b) (p := p) (pos := pos) F.st (F.calm.trans hcm) g1 g2 a1 a2
      cases hb : biFr b with
      | true =>
        simp only [hb, if_true] at z
        rw [mdE_fr (by exact hb)]
        exact z _ _
      | false =>
        simp only [hb, Bool.false_eq_true, if_false] at z
        rw [mdE_no (by exact hb)]
        exact (z _ _).up_st
    · cases h
  | isi a ts =>
    have ef : dn c (.isi a ts) = fun ρ h => (dn c a ρ h).bind fun x h => ofO ((isTys x ts).map .bl) h := by funext ρ h; (simp only [den]) <;> rfl
    rw [ef]
    simp only [e1] at h
    split at h
    · simp only [Bool.and_eq_true, decide_eq_true_eq] at h
      obtain ⟨rfl, h⟩ := h
      unfold eIsi at h
      split at h
      · simp only [Bool.and_eq_true] at h
        obtain ⟨⟨h1, h2, h3⟩, h4⟩ := h
        obtain ⟨g1, g2⟩ := F.gn h1
        split at h4
        · simp only [Bool.and_eq_true, decide_eq_true_eq] at h4
          obtain ⟨rfl, h5⟩ := h4
          obtain ⟨g3, g4⟩ := F.gn h5
          exact es_isi1 F.st g1 g2 g3 g4 (fw _ _ h3) h2
        · simp only [Bool.and_eq_true, decide_eq_true_eq] at h4
          obtain ⟨h5, h6, h7⟩ := h4
          obtain ⟨tp, rfl, rfl, q⟩ := eTys_ok F h5
          refine es_isi F.st g1 g2 q (fun z => ?_) (by simpa using h7) (fw _ _ h3) h2
          subst z
          simp at h6
        · cases h4
      · cases h
    · cases h
  | mt m o as =>
    have ef : dn c (.mt m o as) = fun ρ h => (dn c o ρ h).bind fun x h => if isLst x then (dens c.Φ c.Ψ c.thk as ρ h).bind fun ds h => ofO (mtD m x ds) h else .stuck := by funext ρ h; (simp only [den]) <;> rfl
    rw [ef]
    simp only [e1] at h
    split at h
    · simp only [Bool.and_eq_true, decide_eq_true_eq] at h
      obtain ⟨⟨rfl, h1, h2⟩, h3, h4⟩ := h
      obtain ⟨a1, a2⟩ := eAll_ok (wk := true) fw h4
      exact es_mt (fw _ _ h3) a1 h1 (by simpa using a2) h2
    · cases h
  | lc vs t s ic x =>
    simp only [e1] at h
    split at h
    · simp only [Bool.and_eq_true, decide_eq_true_eq] at h
      obtain ⟨⟨rfl, rfl⟩, h⟩ := h
      rw [lcM_eq]
      exact es_lc (eLc_ok F hce h)
    · cases h
  | isx i k =>
    have ef : dn c (.isx i k) = fun ρ h => match ρ[i]? with
    | some (.exn e) => .ok (.bl (subc e.c k)) h
    | _ => .stuck := by funext ρ h; (simp only [den]) <;> rfl
    rw [ef, mdE_no rfl]
    simp only [e1] at h
    split at h
    · simp only [Bool.and_eq_true, decide_eq_true_eq] at h
      obtain ⟨rfl, ⟨h1, h2⟩, h3, h4, h5, h6⟩ := h
      obtain ⟨g1, g2⟩ := F.gn h2
      obtain ⟨q1, q2, q3, q4⟩ := F.vn h3
      exact (es_isx F.st (F.xh h1) g1 g2 q1 q2 q3 q4 (by rw [F.xn]; exact h4) (F.gl h5) (okNm_ok h6).1).fr_st.up_st
    · cases h
  | xmost i =>
    have ef : dn c (.xmost i) = fun ρ h => match ρ[i]? with
    | some (.exn e) => ofO (e.m.map .int) h
    | _ => .stuck := by funext ρ h; (simp only [den]) <;> rfl
    rw [ef, mdE_no rfl]
    simp only [e1] at h
    split at h
    · simp only [Bool.and_eq_true, decide_eq_true_eq] at h
      obtain ⟨rfl, h1, h2⟩ := h
      obtain ⟨q1, q2, q3, q4⟩ := F.vn h2
      exact (es_xmost (F.xh h1) q1 q2 q3 q4).fr_st.up_st
    · cases h
theorem chkF_ok : ∀ n (K : CE), CeOk K (chkF n K)
  | 0, K => fun c sc sto F esc e ie h => by cases h
  | n + 1, K => fun c sc sto F esc e ie h => by
    have h : (if isOne e then chkF n K sc sto esc (oneOf e) ie else e1 K (chkF n K) (chkF n K.lamK) sc sto esc e ie) = true := h
    split at h
    · rename_i h1
      unfold isOne at h1
      split at h1
      · exact es_one (chkF_ok n K c sc sto F esc _ ie h)
      · cases h1
    · exact e1_ok (chkF_ok n K) (chkF_ok n K.lamK) F h
theorem chkE_ok (n : Nat) : CeOk K (chkE K n) := chkF_ok n K

/-! ### statements -/
noncomputable abbrev dM (c : Ctx) : IM → Mng := denM c.Φ c.Ψ c.thk
noncomputable abbrev dMs (c : Ctx) : IMs → Mng := denMs c.Φ c.Ψ c.thk
theorem dMs_cons {m : IM} {r : IMs} : dMs c (.cons m r) = thenM (dM c m) (dMs c r) := by
  funext ρ h
  simp only [dMs, denMs, thenM] <;> rfl
theorem sAll_ok {f : Stmt → IM → Bool} (hf : ∀ st m, f st m = true → MO c st (dM c m)) : ∀ {b : IMs} {sts : List Stmt}, sAll f sts b = true → MS c sts (dMs c b)
  | .nil, sts, h => by
    unfold sAll at h
    have e : sts = [] := by simpa using h
    subst e
    have ef : dMs c .nil = fun ρ h => .ok (.nx ρ) h := by funext ρ h; simp only [denMs]
    rw [ef]
    exact ms_nil
  | .cons m r, sts, h => by
    unfold sAll at h
    split at h
    · rename_i is
      have ef : dMs c (.cons (.frz is) r) = fun ρ h => dMs c r (frzL is ρ) h := by
        funext ρ h
        simp only [dMs, denMs, denM]
        rfl
      rw [ef]
      exact ms_frz (sAll_ok hf h)
    · have ef : dMs c (.cons .dead r) = fun _ _ => .stuck := by
        funext ρ h
        simp only [dMs, denMs, denM]
        rfl
      rw [ef]
      exact ms_dead
    · split at h
      · rw [Bool.and_eq_true] at h
        rw [dMs_cons]
        exact ms_cons (hf _ _ h.1) (sAll_ok hf h.2)
      · cases h

theorem nmB_ok (F : Fits K c sc sto) : ∀ {ts : List Expr} {is : List (Nat × Bool)}, nmB K sc sto ts is = true → NmOk c ts is
  | [], [], _ => trivial
  | [], _ :: _, h => by unfold nmB at h; cases h
  | e :: es, [], h => by
    unfold nmB at h
    cases e <;> cases h
  | e :: es, (i, o) :: is, h => by
    unfold nmB at h
    split at h
    · rename_i e1 e2
      cases e1
    · rename_i e1 e2
      cases e1
      cases e2
      simp only [Bool.and_eq_true, decide_eq_true_eq] at h
      obtain ⟨⟨h1, h2, h3⟩, h4⟩ := h
      exact ⟨⟨by rw [F.N]; exact h1, F.loc h2, by rw [F.sto]; exact h3⟩, nmB_ok F h4⟩
    · cases h
theorem eNames_ok {fs : Bool → Expr → IE → Bool} (hf : ∀ esc e ie, fs esc e ie = true → ES (mdE esc ie) c e (dn c ie)) : ∀ {is : List (Nat × Bool)} {es : List Expr} {r : IEs}, eNames fs is es r = true → PSn c (is.map (·.2)) es (dens c.Φ c.Ψ c.thk r)
  | [], [], .nil, _ => by
    have ef : dens c.Φ c.Ψ c.thk .nil = fun _ h => .ok [] h := by funext ρ h; simp only [dens]
    rw [ef]
    exact psn_nil
  | (i, o) :: is, e :: es, .cons x r, h => by
    unfold eNames at h
    simp only [Bool.and_eq_true] at h
    obtain ⟨⟨h1, h2, h3⟩, h4⟩ := h
    have ef : dens c.Φ c.Ψ c.thk (.cons x r) = fun ρ h => (dn c x ρ h).bind fun y h => (dens c.Φ c.Ψ c.thk r ρ h).bind fun xs h => .ok (y :: xs) h := by funext ρ h; simp only [dens]
    rw [ef]
    have z := hf true e x h2
    refine psn_cons (o := o) ?_ (eNames_ok hf h4) h3
    cases o with
    | true =>
      rw [if_pos rfl] at h1
      rw [mdE_fr h1] at z
      exact z
    | false => exact z.ds
  | [], [], .cons _ _, h => by unfold eNames at h; cases h
  | [], _ :: _, r, h => by cases r <;> (unfold eNames at h; cases h)
  | _ :: _, [], r, h => by cases r <;> (unfold eNames at h; cases h)
  | _ :: _, _ :: _, .nil, h => by unfold eNames at h; cases h
theorem lk_of {x : Str} {k : NameKind} (h : (sc.names.lookup x == some k) = true) : sc.names.lookup x = some k := eq_of_beq (α := Option NameKind) h
theorem ePar_ok {fs : Bool → Expr → IE → Bool} (F : Fits K c sc sto) (hf : ∀ esc e ie, fs esc e ie = true → ES (mdE esc ie) c e (dn c ie)) {is : List (Nat × Bool)} {es : IEs} {ts vs : List Expr} {kt k2 : Nat} {pt pt2 pos : Pos} (h : ePar K fs sc sto is es ts vs = true) :
    MO c (.Assign [.Tuple ts kt pt] (.Tuple vs k2 pt2) pos) (parM is (dens c.Φ c.Ψ c.thk es)) := by
  unfold ePar at h
  simp only [Bool.and_eq_true, Bool.or_eq_true, Bool.not_eq_true'] at h
  obtain ⟨⟨⟨hcm, h1⟩, h2, h3⟩, h4⟩ := h
  have hcm := F.calm.trans hcm
  have nm := nmB_ok F h1
  have pn := eNames_ok hf h2
  split at h4
  · rename_i hs
    exact mo_parT hcm nm (by rw [F.sc]; exact hs) (by simpa using h4) pn
  · rename_i xs hs
    replace h3 := h3.resolve_right fun z => by rw [hs] at z; cases z
    simp only [Bool.and_eq_true, Bool.or_eq_true, decide_eq_true_eq, beq_iff_eq] at h4
    obtain ⟨h5, h6, rfl, h7⟩ := h4
    rcases h7 with h7 | h7
    · obtain ⟨a, b, rfl⟩ := two_of h7
      match is, nm with
      | [(i, o), (j, o')], nm =>
        cases a with
        | Name x px =>
          cases b with
          | Name y py =>
            obtain ⟨⟨n1, _, _⟩, ⟨n2, _, _⟩, _⟩ := nm
            simp only [locN, Bool.and_eq_true, Bool.and_true] at h5
            have hij : i ≠ j := fun z => by
              subst z
              simp [distinct] at h6
            match vs, pn with
            | [v, w], pn => exact mo_par2 hcm n1 n2 hij (by rw [F.sc]; exact lk_of h5.1) (by rw [F.sc]; exact lk_of h5.2) h3 (by rw [F.sc]; exact hs) pn
            | [], pn => exact absurd hs (by unfold swL; simp)
            | [_], pn => exact absurd hs (by unfold swL; simp)
            | _ :: _ :: _ :: _, pn => exact absurd hs (by unfold swL; simp)
          | _ => exact nm.2.elim
        | _ => exact nm.elim
      | [], nm => cases a <;> exact nm.elim
      | [(i, o)], nm =>
        cases a with
        | Name x px => cases b <;> exact nm.2.elim
        | _ => exact nm.elim
      | _ :: _ :: _ :: _, nm =>
        cases a with
        | Name x px =>
          cases b with
          | Name y py => exact nm.2.2.elim
          | _ => exact nm.2.elim
        | _ => exact nm.elim
    · obtain ⟨a, b, d, rfl⟩ := three_of h7
      match is, nm with
      | [(i, o), (j, o'), (l, o2)], nm =>
        cases a with
        | Name x px =>
          cases b with
          | Name y py =>
            cases d with
            | Name z pz =>
              obtain ⟨⟨n1, _, _⟩, ⟨n2, _, _⟩, ⟨n3, _, _⟩, _⟩ := nm
              simp only [locN, Bool.and_eq_true, Bool.and_true] at h5
              simp only [distinct, List.map_cons, List.map_nil, Bool.and_eq_true, Bool.not_eq_true', List.contains_cons, List.contains_nil, Bool.or_false, Bool.or_eq_false_iff, beq_eq_false_iff_ne] at h6
              match vs, pn with
              | [u, v, w], pn => exact mo_par3 hcm n1 n2 n3 h6.1.1 h6.1.2 h6.2.1 (by rw [F.sc]; exact lk_of h5.1) (by rw [F.sc]; exact lk_of h5.2.1) (by rw [F.sc]; exact lk_of h5.2.2) h3 (by rw [F.sc]; exact hs) pn
              | [], pn => exact absurd hs (by unfold swL; simp)
              | [_], pn => exact absurd hs (by unfold swL; simp)
              | [_, _], pn => exact absurd hs (by unfold swL; simp)
              | _ :: _ :: _ :: _ :: _, pn => exact absurd hs (by unfold swL; simp)
            | _ => exact nm.2.2.elim
          | _ => exact nm.2.elim
        | _ => exact nm.elim
      | [], nm => cases a <;> exact nm.elim
      | [(i, o)], nm =>
        cases a with
        | Name x px => cases b <;> exact nm.2.elim
        | _ => exact nm.elim
      | [(i, o), (j, o')], nm =>
        cases a with
        | Name x px =>
          cases b with
          | Name y py => cases d <;> exact nm.2.2.elim
          | _ => exact nm.2.elim
        | _ => exact nm.elim
      | _ :: _ :: _ :: _ :: _, nm =>
        cases a with
        | Name x px =>
          cases b with
          | Name y py =>
            cases d with
            | Name z pz => exact nm.2.2.2.elim
            | _ => exact nm.2.2.elim
          | _ => exact nm.2.elim
        | _ => exact nm.elim
theorem dM_aug {i : Nat} {o : BOp} {e : IE} : dM c (.aug i o e) = fun ρ h => match ρ[i]? with
    | some (.val (.int x)) => (dn c e ρ h).bind fun y h => (match o, y with
      | .add, .int y => .ok (.nx (ρ.set i (.val (.int (x + y))))) h
      | .sub, .int y => .ok (.nx (ρ.set i (.val (.int (x - y))))) h
      | _, _ => .stuck)
    | _ => .stuck := by funext ρ h; (simp only [denM]) <;> rfl
theorem s1_ok {ce : CF} (F : Fits K c sc sto) (hce : CeOk K ce) {rec_ : Stmt → IM → Bool} (hr : ∀ st m, rec_ st m = true → MO c st (dM c m)) {st : Stmt} {im : IM} (h : s1 K (ce sc sto) ce sc sto rec_ st im = true) : MO c st (dM c im) := by
  have fa := hce c sc sto F
  have fw : ∀ e ie, ce sc sto false e ie = true → ES .wk c e (dn c ie) := fun e ie z => (fa false e ie z).wk
  have ft : ∀ e ie, ce sc sto true e ie = true → ES .st c e (dn c ie) := fun e ie z => (fa true e ie z).ds
  have hb : ∀ {sts b}, sAll rec_ sts b = true → MS c sts (dMs c b) := fun z => sAll_ok hr z
  cases im with
  | set i e =>
    have ef : dM c (.set i e) = fun ρ h => (dn c e ρ h).bind fun d h => .ok (.nx (ρ.set i (.val d))) h := by funext ρ h; (simp only [denM]) <;> rfl
    rw [ef]
    simp only [s1] at h
    split at h
    · simp only [Bool.and_eq_true, decide_eq_true_eq] at h
      obtain ⟨⟨h1, h2, h3⟩, h4⟩ := h
      rw [← F.N] at h1
      rw [← F.sto] at h3
      have n1 := h1
      have n3 := h3
      split at h4
      · simp only [Bool.and_eq_true, decide_eq_true_eq] at h4
        obtain ⟨⟨rfl, rfl⟩, h5⟩ := h4
        rw [lcM_eq]
        exact mo_setLc false (eLc_ok F hce h5) n1 (F.loc h2) n3
      · rw [Bool.and_eq_true] at h4
        exact mo_set n1 (F.loc h2) n3 h4.1 (ft _ _ h4.2)
    · cases h
  | setO i e =>
    have ef : dM c (.setO i e) = fun ρ h => (dn c e ρ h).bind fun d h => .ok (.nx (ρ.set i (slotOf true d))) h := by funext ρ h; (simp only [denM]) <;> rfl
    rw [ef]
    simp only [s1] at h
    split at h
    · simp only [Bool.and_eq_true, decide_eq_true_eq] at h
      obtain ⟨⟨h1, h2, h3⟩, h4⟩ := h
      rw [← F.N] at h1
      rw [← F.sto] at h3
      have n1 := h1
      have n3 := h3
      split at h4
      · simp only [Bool.and_eq_true, decide_eq_true_eq] at h4
        obtain ⟨⟨rfl, rfl⟩, h5⟩ := h4
        rw [lcM_eq]
        exact mo_setLc true (eLc_ok F hce h5) n1 (F.loc h2) n3
      · rw [Bool.and_eq_true, Bool.and_eq_true] at h4
        have z := fa _ _ _ h4.2.2
        rw [mdE_fr h4.2.1] at z
        exact mo_setO n1 (F.loc h2) n3 h4.1 z
    · cases h
  | setT t e =>
    have ef : dM c (.setT t e) = fun ρ h => (dn c e ρ h).bind fun d h => ofO ((asgT t d ρ).map .nx) h := by funext ρ h; (simp only [denM]) <;> rfl
    rw [ef]
    simp only [s1] at h
    split at h
    · simp only [Bool.and_eq_true] at h
      obtain ⟨⟨h1, h2⟩, ⟨h3, h4⟩, h5⟩ := h
      exact mo_setT (eTg_ok F h1) (ft _ _ h5) h3 h4 h2
    · cases h
  | par is es =>
    have ef : dM c (.par is es) = parM is (dens c.Φ c.Ψ c.thk es) := by funext ρ h; (simp only [denM]) <;> rfl
    rw [ef]
    simp only [s1] at h
    split at h
    · exact ePar_ok F fa h
    · cases h
  | setIx i k e =>
    have ef : dM c (.setIx i k e) = fun ρ h => (dn c e ρ h).bind fun d h => match ρ[i]? with
    | some (.own (.lst xs)) => (dn c k ρ h).bind fun z h => ofO ((setD xs z d).map fun ys => .nx (ρ.set i (.own (.lst ys)))) h
    | some (.val .hnd) => (dn c k ρ h).bind fun z h => (match setD h z d with
      | some h' => .ok (.nx ρ) h'
      | none => .stuck)
    | some (.own (.dct ks vs)) => (dn c k ρ h).bind fun z h => ofO ((setK ks vs z d).map fun r => .nx (ρ.set i (.own (.dct r.1 r.2)))) h
    | _ => .stuck := by funext ρ h; (simp only [denM]) <;> rfl
    rw [ef]
    simp only [s1] at h
    split at h
    · simp only [Bool.and_eq_true] at h
      obtain ⟨⟨h1, h2, h3⟩, h4, h5⟩ := h
      obtain ⟨q1, q2, q3, q4⟩ := F.vn h1
      exact mo_setIx q1 q2 q3 q4 h2 h3 (ft _ _ h4) (fw _ _ h5)
    · cases h
  | aug i o e =>
    have ef := dM_aug (c := c) (i := i) (o := o) (e := e)
    rw [ef]
    simp only [s1] at h
    split at h
    · simp only [Bool.and_eq_true, decide_eq_true_eq] at h
      obtain ⟨⟨h1, h2, h3⟩, h4, h5⟩ := h
      rw [opB_eq h4]
      exact mo_aug (by rw [F.N]; exact h1) (F.loc h2) (by rw [F.sto]; exact h3) (fw _ _ h5)
    · cases h
  | app i e =>
    have ef : dM c (.app i e) = fun ρ h => match ρ[i]? with
    | some (.own (.lst xs)) => (dn c e ρ h).bind fun d h => if xs.length < line then .ok (.nx (ρ.set i (.own (.lst (xs ++ [d]))))) h else .stuck
    | _ => .stuck := by funext ρ h; (simp only [denM]) <;> rfl
    rw [ef]
    simp only [s1] at h
    split at h
    · simp only [Bool.and_eq_true, decide_eq_true_eq] at h
      obtain ⟨⟨rfl, h1, h2, h3⟩, h4⟩ := h
      obtain ⟨q1, q2, q3, q4⟩ := F.vn h1
      exact mo_app q1 q2 q3 q4 h2 h3 (ft _ _ h4)
    · cases h
  | ext i e =>
    have ef : dM c (.ext i e) = fun ρ h => match ρ[i]? with
    | some (.own (.lst xs)) => (dn c e ρ h).bind fun d h => match d with
      | .lst ys => if xs.length + ys.length ≤ line then .ok (.nx (ρ.set i (.own (.lst (xs ++ ys))))) h else .stuck
      | _ => .stuck
    | _ => .stuck := by funext ρ h; (simp only [denM]) <;> rfl
    rw [ef]
    simp only [s1] at h
    split at h
    · simp only [Bool.and_eq_true, decide_eq_true_eq] at h
      obtain ⟨⟨rfl, h1, h2, h3⟩, h4⟩ := h
      obtain ⟨q1, q2, q3, q4⟩ := F.vn h1
      exact mo_ext q1 q2 q3 q4 h2 h3 (fw _ _ h4)
    · cases h
  | pop t i =>
    have ef : dM c (.pop t i) = fun ρ h => match ρ[i]? with
    | some (.own (.lst xs)) => (match xs.getLast? with
      | some d => ofO ((asgT t d (ρ.set i (.own (.lst xs.dropLast)))).map .nx) h
      | none => .stuck)
    | _ => .stuck := by funext ρ h; (simp only [denM]) <;> rfl
    rw [ef]
    simp only [s1] at h
    split at h
    · simp only [Bool.and_eq_true, decide_eq_true_eq] at h
      obtain ⟨⟨rfl, h1, h2, h3⟩, h4⟩ := h
      obtain ⟨q1, q2, q3, q4⟩ := F.vn h1
      exact mo_pop q1 q2 q3 q4 h3 (eTg_ok F h4) h2
    · cases h
  | upd i e =>
    have ef : dM c (.upd i e) = fun ρ h => match ρ[i]? with
    | some (.own (.dct ks vs)) => (dn c e ρ h).bind fun d h => ofO ((updD ks vs d).map fun r => .nx (ρ.set i (.own (.dct r.1 r.2)))) h
    | _ => .stuck := by funext ρ h; (simp only [denM]) <;> rfl
    rw [ef]
    simp only [s1] at h
    split at h
    · simp only [Bool.and_eq_true, decide_eq_true_eq] at h
      obtain ⟨⟨rfl, h1, h2, h3⟩, h4⟩ := h
      obtain ⟨q1, q2, q3, q4⟩ := F.vn h1
      exact mo_upd q1 q2 q3 q4 h2 h3 (ft _ _ h4)
    · cases h
  | augIx i k o e =>
    have ef : dM c (.augIx i k o e) = fun ρ h => match ρ[i]? with
    | some (.own (.lst xs)) => (dn c k ρ h).bind fun z h => (match ixD [] (.lst xs) z with
      | some (.int m) => (dn c e ρ h).bind fun y h => ofO ((augD o m y).bind fun d => (setD xs z d).map fun ys => .nx (ρ.set i (.own (.lst ys)))) h
      | _ => .stuck)
    | _ => .stuck := by funext ρ h; (simp only [denM]) <;> rfl
    rw [ef]
    simp only [s1] at h
    split at h
    · simp only [Bool.and_eq_true] at h
      obtain ⟨⟨h1, h2, h3⟩, h4, h5⟩ := h
      obtain ⟨q1, q2, q3, q4⟩ := F.vn h1
      rw [opB_eq h2]
      exact mo_augIx q1 q2 q3 q4 (fw _ _ h4) (fw _ _ h5) h3
    · cases h
  | ins i k e =>
    have ef : dM c (.ins i k e) = fun ρ h => match ρ[i]? with
    | some (.own (.lst xs)) => (dn c k ρ h).bind fun z h => (dn c e ρ h).bind fun d h => ofO ((insD xs z d).map fun ys => .nx (ρ.set i (.own (.lst ys)))) h
    | _ => .stuck := by funext ρ h; (simp only [denM]) <;> rfl
    rw [ef]
    simp only [s1] at h
    split at h
    · simp only [Bool.and_eq_true, decide_eq_true_eq] at h
      obtain ⟨⟨rfl, h1, ⟨h2, h2'⟩, h3⟩, h4, h5⟩ := h
      obtain ⟨q1, q2, q3, q4⟩ := F.vn h1
      exact mo_ins q1 q2 q3 q4 h2 h2' h3 (ft _ _ h4) (ft _ _ h5)
    · cases h
  | rem i e =>
    have ef : dM c (.rem i e) = fun ρ h => match ρ[i]? with
    | some (.own (.lst xs)) => (dn c e ρ h).bind fun d h => ofO ((remD xs d).map fun ys => .nx (ρ.set i (.own (.lst ys)))) h
    | _ => .stuck := by funext ρ h; (simp only [denM]) <;> rfl
    rw [ef]
    simp only [s1] at h
    split at h
    · simp only [Bool.and_eq_true, decide_eq_true_eq] at h
      obtain ⟨⟨rfl, h1, h2, h3⟩, h4⟩ := h
      obtain ⟨q1, q2, q3, q4⟩ := F.vn h1
      exact mo_rem q1 q2 q3 q4 h2 h3 (fw _ _ h4)
    · cases h
  | expr e =>
    have ef : dM c (.expr e) = fun ρ h => (dn c e ρ h).bind fun _ h => .ok (.nx ρ) h := by funext ρ h; (simp only [denM]) <;> rfl
    rw [ef]
    simp only [s1] at h
    split at h
    · rw [Bool.and_eq_true] at h
      exact mo_expr (fw _ _ h.2) h.1
    · cases h
  | ite t a b =>
    have ef : dM c (.ite t a b) = fun ρ h => (dc c t ρ h).bind fun x h => if x then dMs c a ρ h else dMs c b ρ h := by funext ρ h; (simp only [denM]) <;> rfl
    rw [ef]
    simp only [s1] at h
    split at h
    · simp only [Bool.and_eq_true] at h
      exact mo_ite (eC_ok fa 40 h.1).1 (hb h.2.1) (hb h.2.2)
    · cases h
  | whl t b =>
    have ef : dM c (.whl t b) = fun ρ h => whileL (dc c t) (dMs c b) ρ h := by funext ρ h; (simp only [denM]) <;> rfl
    rw [ef]
    simp only [s1] at h
    split at h
    · simp only [Bool.and_eq_true] at h
      exact mo_whl (eC_ok fa 40 h.1).1 (hb h.2)
    · cases h
  | for_ t s b =>
    have ef : dM c (.for_ t s b) = fun ρ h => (dS c s ρ h).bind fun its h => forL (fun d ρ h => match asgT t d ρ with
    | some ρ' => dMs c b ρ' h
    | none => .stuck) its ρ h := by funext ρ h; (simp only [denM]) <;> rfl
    rw [ef]
    simp only [s1] at h
    split at h
    · simp only [Bool.and_eq_true] at h
      obtain ⟨⟨⟨hcm, h1⟩, h2⟩, h3, h4⟩ := h
      exact mo_for (F.calm.trans hcm) (eS_ok F fa h2) (eTg_ok F h3) (hb h4) h1
    · cases h
  | ret e =>
    have ef : dM c (.ret e) = fun ρ h => (dn c e ρ h).bind fun d h => .ok (.rt d) h := by funext ρ h; (simp only [denM]) <;> rfl
    rw [ef]
    simp only [s1] at h
    split at h
    · exact mo_ret (ft _ _ h)
    · cases h
  | retN =>
    have ef : dM c .retN = fun _ h => .ok (.rt .non) h := by funext ρ h; (simp only [denM]) <;> rfl
    rw [ef]
    simp only [s1] at h
    split at h
    · exact mo_retN
    · cases h
  | rse k m =>
    have ef : dM c (.rse k m) = fun _ h => .exc ⟨k, m⟩ h := by funext ρ h; (simp only [denM]) <;> rfl
    rw [ef]
    simp only [s1] at h
    split at h
    · simp only [Bool.and_eq_true, decide_eq_true_eq] at h
      obtain ⟨⟨⟨h1, h2⟩, h3, h4⟩, h5, h6⟩ := h
      have hcm := F.calm.trans h5
      split at h6
      · exact mo_rse0 F.st hcm (by rw [F.xn]; exact h1) h2 (F.gl h3) (okNm_ok h4).1 (F.xa k (List.contains_iff_mem.mp h6))
      · simp only [Bool.and_eq_true] at h6
        obtain ⟨⟨h7, h8⟩, h9, h10⟩ := h6
        have z := fa _ _ _ h10
        rename_i m a
        have ez : dn c (.lit (.int m)) = fun _ h => .ok (.int m) h := by funext ρ h; (simp only [den]) <;> rfl
        rw [mdE_fr rfl, ez] at z
        exact mo_rse1 F.st hcm (Nat.le_of_eq (F.rm h7).symm) (by rw [F.xn]; exact h1) h2 (F.gl h3) (okNm_ok h4).1 (F.xb k (List.contains_iff_mem.mp h8)) z h9
      · cases h6
    · cases h
  | brk =>
    have ef : dM c .brk = fun ρ h => .ok (.bk ρ) h := by funext ρ h; (simp only [denM]) <;> rfl
    rw [ef]
    simp only [s1] at h
    split at h
    · exact mo_brk
    · cases h
  | cnt =>
    have ef : dM c .cnt = fun ρ h => .ok (.ct ρ) h := by funext ρ h; (simp only [denM]) <;> rfl
    rw [ef]
    simp only [s1] at h
    split at h
    · exact mo_cnt
    · cases h
  | pass =>
    have ef : dM c .pass = fun ρ h => .ok (.nx ρ) h := by funext ρ h; (simp only [denM]) <;> rfl
    rw [ef]
    simp only [s1] at h
    split at h
    · exact mo_pass
    · exact mo_doc
    · cases h
  | frz _ => cases h
  | dead =>
    have ef : dM c .dead = fun _ _ => .stuck := by funext ρ h; (simp only [denM]) <;> rfl
    rw [ef]
    exact mo_dead
theorem chkM_ok (F : Fits K c sc sto) : ∀ (n : Nat) (st : Stmt) (m : IM), chkM K sc sto n st m = true → MO c st (dM c m)
  | 0, _, _, h => by cases h
  | n + 1, st, m, h => s1_ok F (chkE_ok 40) (chkM_ok F n) h
/-- a def's body -/
theorem chkB_ok (F : Fits K c sc (fun _ => true)) {sts : List Stmt} {b : IMs} (h : chkB K sc sts b = true) : MS c sts (dMs c b) := sAll_ok (chkM_ok F 40) h
end
end PD

set_option Elab.async false
set_option linter.all false
set_option maxRecDepth 100000
set_option maxHeartbeats 2000000
/-! PW: a def that is handed a thunk, and holds what it raises. -/
namespace PD
open PySem PySem.Spec PyProof.Rows L2 RZ
def Cfg.sw (G : Cfg) (a : Addr) (d : Option Addr) (q : Exc) : Cfg := { G with xa := a, xd := d, xq := q, wd := [] }
section
variable {G : Cfg} {a : Addr} {d : Option Addr} {q : Exc} {ha : Addr} {B : Addr → Prop} {H : Hp} {hs : HS}
mutual
theorem rep_sw : ∀ {x : D} {v : V}, Rep (G.sw a d q) ha B H x v ↔ Rep G ha B H x v
  | .non, v => by simp only [Rep]
  | .bl _, v => by simp only [Rep]
  | .int _, v => by simp only [Rep]
  | .str _, v => by simp only [Rep]
  | .tup ds, v => by
    simp only [Rep]
    exact ⟨fun ⟨p, vs, e, s, r⟩ => ⟨p, vs, e, s, reps_sw.mp r⟩, fun ⟨p, vs, e, s, r⟩ => ⟨p, vs, e, s, reps_sw.mpr r⟩⟩
  | .lst ds, v => by
    simp only [Rep]
    exact ⟨fun ⟨p, vs, e, n, s, r⟩ => ⟨p, vs, e, n, s, reps_sw.mp r⟩, fun ⟨p, vs, e, n, s, r⟩ => ⟨p, vs, e, n, s, reps_sw.mpr r⟩⟩
  | .dct ks xs, v => by
    simp only [Rep]
    exact ⟨fun ⟨p, vs, e, n, s, k, r⟩ => ⟨p, vs, e, n, s, k, reps_sw.mp r⟩, fun ⟨p, vs, e, n, s, k, r⟩ => ⟨p, vs, e, n, s, k, reps_sw.mpr r⟩⟩
  | .fn _, v => by simp only [Rep]; exact Iff.rfl
  | .hnd, v => by simp only [Rep]
theorem reps_sw : ∀ {xs : List D} {vs : List V}, Reps (G.sw a d q) ha B H xs vs ↔ Reps G ha B H xs vs
  | [], vs => by simp only [Reps]
  | x :: xs, vs => by
    simp only [Reps]
    exact ⟨fun ⟨v, r, e, h1, h2⟩ => ⟨v, r, e, rep_sw.mp h1, reps_sw.mp h2⟩, fun ⟨v, r, e, h1, h2⟩ => ⟨v, r, e, rep_sw.mpr h1, reps_sw.mpr h2⟩⟩
end
theorem wrep_sw {x : D} {v : V} : WRep (G.sw a d q) ha B H x v ↔ WRep G ha B H x v := by
  cases x with
  | lst ds =>
    simp only [WRep]
    exact ⟨fun ⟨p, vs, e, n, s, r⟩ => ⟨p, vs, e, n, s, reps_sw.mp r⟩, fun ⟨p, vs, e, n, s, r⟩ => ⟨p, vs, e, n, s, reps_sw.mpr r⟩⟩
  | dct ks xs =>
    simp only [WRep]
    exact ⟨fun ⟨p, vs, e, n, s, k, r⟩ => ⟨p, vs, e, n, s, k, reps_sw.mp r⟩, fun ⟨p, vs, e, n, s, k, r⟩ => ⟨p, vs, e, n, s, k, reps_sw.mpr r⟩⟩
  | _ => exact rep_sw
theorem hnd_sw : Hnd (G.sw a d q) ha B H hs ↔ Hnd G ha B H hs := by
  constructor
  · rintro ⟨h1, ⟨vs, e, r⟩, h3, h4⟩
    exact ⟨h1, ⟨vs, e, reps_sw.mp r⟩, h3, h4⟩
  · rintro ⟨h1, ⟨vs, e, r⟩, h3, h4⟩
    exact ⟨h1, ⟨vs, e, reps_sw.mpr r⟩, h3, h4⟩
theorem stat_sw (st : Stat G) : Stat (G.sw a d q) := ⟨st.fn, fun x dd h => by
  obtain ⟨u, v, h1, h2, h3, h4⟩ := st.cst x dd h
  exact ⟨u, v, h1, h2, h3, fun ha B H => rep_sw.mpr (h4 ha B H)⟩, st.fr, st.xnm, st.xrs, st.xis⟩
end
theorem clrX_get {ρ : PEnv} {i : Nat} : (clrX ρ)[i]? = (ρ[i]?).map fun s => match s with
  | .exn _ => .no
  | s => s := by
  unfold clrX
  (rw [List.getElem?_map]) <;> rfl
theorem clrX_len {ρ : PEnv} : (clrX ρ).length = ρ.length := by
  unfold clrX
  rw [List.length_map]
/-- the held exception is let go -/
theorem SSim.clr {G : Cfg} {a a' : Addr} {d d' : Option Addr} {q q' : Exc} {ha : Addr} {B0 Wr : Addr → Prop} {H0 H : Hp} {own : Own} {ρ : PEnv} {hs : HS} {σ : St} (S : SSim (G.sw a d q) ha B0 Wr H0 own ρ hs σ H) : SSim (G.sw a' d' q') ha B0 Wr H0 own (clrX ρ) hs σ H := by
  refine ⟨S.inj, S.fr, S.ext, S.hW, S.hB, ⟨by rw [clrX_len]; exact S.sim.len, fun i s e => ?_, hnd_sw.mpr (hnd_sw.mp S.sim.hnd)⟩, fun i dd e => ?_, fun i b e => ?_⟩
  · rw [clrX_get, Option.map_eq_some_iff] at e
    obtain ⟨t, et, es⟩ := e
    have z := S.sim.at_ i t et
    subst es
    cases t with
    | no => trivial
    | exn _ => trivial
    | val x =>
      obtain ⟨v, e1, r⟩ := z
      exact ⟨v, e1, rep_sw.mpr (rep_sw.mp r)⟩
    | own x =>
      obtain ⟨v, e1, r⟩ := z
      exact ⟨v, e1, wrep_sw.mpr (wrep_sw.mp r)⟩
  · rw [clrX_get, Option.map_eq_some_iff] at e
    obtain ⟨t, et, es⟩ := e
    cases t with
    | own x =>
      cases es
      exact S.at_ i _ et
    | no => cases es
    | exn _ => cases es
    | val _ => cases es
  · obtain ⟨x, ex⟩ := S.of i b e
    exact ⟨x, by rw [clrX_get, ex]; rfl⟩
theorem psiOf_nil : psiOf [] = noPsi := by
  funext f t h
  rfl
/-! ### is the small program the def -/
def scB (N ps : List Str) (sc : Scope) : Bool :=
  (match sc.kind with | .function => true | _ => false) && ((!sc.isCoroutine && !sc.isGenerator) && (decide N.Nodup && (decide (N.take ps.length = ps) && (ps.all (fun x => locB sc x) && sc.names.all fun y => match y.2 with
    | .free => false
    | _ => true))))
theorem scB_ok {N ps : List Str} {sc : Scope} (h : scB N ps sc = true) : FnScope N ps sc := by
  unfold scB at h
  simp only [Bool.and_eq_true, decide_eq_true_eq, Bool.not_eq_true', List.all_eq_true] at h
  obtain ⟨h1, ⟨h2, h3⟩, h4, h5, h6, h7⟩ := h
  refine ⟨?_, h2, h3, h4, h5, fun x hx => ?_, fun y hy z => ?_⟩
  · split at h1
    · assumption
    · cases h1
  · have q := h6 x hx
    unfold locB at q
    rw [Bool.or_eq_true] at q
    rcases q with q | q
    · exact .inl (eq_of_beq (α := Option NameKind) q)
    · exact .inr (eq_of_beq (α := Option NameKind) q)
  · have q := h7 y hy
    rw [z] at q
    cases q
def callB (rt : Bool) (a : Str) : Stmt → Bool
  | .Return (some (.Call (.Name x _) [] [] _)) _ => rt && decide (x = a)
  | .Expr (.Call (.Name x _) [] [] _) _ => !rt && decide (x = a)
  | _ => false
def CE.wordK (K : CE) (N : List Str) (xh : Bool) : CE := { K with N := N, wn := [], cm := false, fl := false, lm := false, xh := xh }
def hdB (K : CE) (w : WordX) : ExceptHandler → Bool
  | .ExceptHandler (some (.Name x _)) (some n) (b0 :: suite) _ => ((decide (K.xn[w.c]? = some x) && decide (1 ≤ w.c)) && (glB w.scope x && okNm x)) && ((decide (w.N[w.i]? = some n) && w.scope.names.lookup n == some .local) && chkB (K.wordK w.N true) w.scope (b0 :: suite) w.b)
  | _ => false
def tryB (K : CE) (w : WordX) : List Stmt → Bool
  | .Try [st] [hd] [] [] _ :: post => callB w.rt w.a st && (hdB K w hd && chkB (K.wordK w.N false) w.scope post w.post)
  | _ => false
def chkW (K : CE) (w : WordX) : Bool := ((scB w.N [w.a] w.scope && decide (w.N[0]? = some w.a)) && ((visB w.scope w.a && okNm w.a) && (okNm w.x && decide (w.nx = K.xn.length)))) && (match w.pre, w.body with
  | none, sts => tryB K w sts
  | some m, st :: sts => chkM (K.wordK w.N false) w.scope (fun _ => true) 40 st m && tryB K w sts
  | some _, [] => false)
/-! ### contexts -/
abbrev wCx (G : Cfg) (P : Cx) (w : WordX) (f : Addr) (cdv : Value) (s : Shared) (H : Hp) : Cx := cxOf C8.CX0 P.prog P.w P.K P.mg P.base w.N w.x w.scope f cdv P.A P.stack s H C8.E0
abbrev wC (G : Cfg) (w : WordX) (xh : Bool) : Ctx := ⟨G, noPhi, noPsi, w.N, w.scope, fun _ => true, false, fun _ _ _ => False, 0, 0, noThk, false, xh⟩
theorem fn_none {G : Cfg} {P : Program} {w : World} {K : PySem.W.Frag} {mg : Str → Option Value} {base : Heap} {CX : CXT} {k : Nat} {f : Addr} {fd : FuncData} {ps : List Str} : FnOk P w K mg base CX k f fd ps (spD G (noPhi 0) ps.length) := ⟨fun vs H Q E h => h.1, fun A outer s H args us vs Q E hr e0 hb r h => by
  obtain ⟨_, ha, B, ds, hs, _, _, p⟩ := h
  exact p.elim⟩
section
variable {G : Cfg} {K : CE} {w : WordX} {X : Cx} {f : Addr} {cdv : Value} {s : Shared} {H : Hp} {a : Addr} {d : Option Addr} {q : Exc}
theorem xok_w (eP : X.prog = G.P) (eW : X.w = G.w) (eK : X.K = G.K) (eM : X.mg = G.mg) (eB : X.base = G.base) (hu : X.A.units + 200 < cLine) (S : FnScope w.N [w.a] w.scope) : XOk (wC (G.sw a d q) w false) (wCx G X w f cdv s H).nox where
  eN := rfl
  eS := rfl
  eC := fun h => by cases h
  eK := eK
  eM := eM
  eP := eP
  eW := eW
  eB := eB
  fns := fun _ => fn_none
  tk := fun _ _ x => by
    obtain ⟨_, _, _, _, _, _, _, _, _, _, _, _, _, _, _, _, z⟩ := x
    exact z.elim
  hr := fun h => by cases h
  hu := by
    show X.A.units + 3 + 80 < cLine
    omega
  nd := S.nd
  fnl := fun _ _ => .inl rfl
  own := fun _ _ h => h.elim
  lam := fun h => by cases h
  xis := fun h => by cases h
/-- isinstance, and the number, of the exception that is held -/
theorem held_w {Z : Cx} {C : Addr} {oe : Obj} {pn : List (Addr × Obj)} (eK : Z.K = G.K) (hC : G.cv q.c = .ref C) (I : XIs G.K C) (hj : ∀ j, j < G.xn.length → PySem.W.kitOne G.K (G.cv q.c) (G.cv j) = some (subc q.c j)) (hz : Zc (.ref C) d oe) (hf : ∃ vs, oe.data = .fields vs) :
    XHeld (G.sw a d q) q (Z.suite a ((a, oe) :: pn)) := by
  have inst : ∀ {pins : List (Addr × Obj)} {σ : St} {H : Hp} {s : Shared}, Inv (Z.suite a ((a, oe) :: pn)) pins σ H s → ExcAt q d H → ∃ od, PySem.W.InstAt s.heap a oe C od ∧ ∀ m, q.m = some m → ∃ o u, od = some o ∧ PySem.W.lookIn ("most" : Str) o = some (some u) ∧ RelV (.int m) u := fun {pins σ H s} J x => by
    obtain ⟨hget, _⟩ := J.pin (a, oe) (List.mem_append.mpr (.inl List.mem_cons_self))
    obtain ⟨vs, hv⟩ := hf
    unfold ExcAt at x
    split at x
    · rename_i hm
      refine ⟨none, ⟨hget, hz.1, by unfold PySem.W.notCls; rw [hv] <;> rfl, by rw [hz.2, x]; trivial⟩, fun m h => ?_⟩
      rw [hm] at h
      cases h
    · rename_i m hm
      obtain ⟨b, eb, hb⟩ := x
      have hx : ObjOk Z.prog Z.w H s.heap b (.xd [(("most" : Str), .int m)]) := J.hok b _ hb
      obtain ⟨mA, hns, hr⟩ := hx
      obtain ⟨od, ho, hl⟩ := lookIn_ns hns
      have z := hr ("most" : Str)
      have e0 : ([(("most" : Str), V.int m)] : List (Str × V)).lookup ("most" : Str) = some (.int m) := rfl
      rw [e0] at z
      obtain ⟨u, hu, ru⟩ := RelO.some_of (v := .int m) (o := mA ("most" : Str)) z
      refine ⟨some od, ⟨hget, hz.1, by unfold PySem.W.notCls; rw [hv] <;> rfl, by rw [hz.2, eb]; exact ho⟩, fun m' h => ?_⟩
      rw [hm] at h
      cases h
      exact ⟨od, u, rfl, by rw [hl, hu], ru⟩
  refine ⟨fun pins s σ H xs us Q J r h => ?_, fun e te pos he hb => ⟨fun pins s σ H Q J h => ?_⟩⟩
  · obtain ⟨v, j, rfl, hv, hlt, hx, qq⟩ := h
    cases r with
    | cons rx rr =>
      cases rr with
      | cons rt rr =>
        cases rr
        cases rx
        have ec := hv _ rt
        obtain ⟨od, IA, _⟩ := inst J hx
        have KIn : PySem.W.Frag.In Z.K s.heap := J.kIn
        rw [eK] at KIn
        have kj := hj j hlt
        rw [hC] at kj
        rw [ec]
        exact PySem.W.kia_one (K := G.K) (H := fun h => PySem.W.InstAt h a oe C od) (PySem.W.kitx_exc I.cl I.ga I.gg I.sb I.cc I.gs I.tk I.mo) KIn IA kj (fun z => nomatch z) fun tk => ⟨.bl (subc q.c j), H, J.kept (t' := tk) fun _ _ z => z, rfl, qq⟩
  · refine attr_of hb (thn (he.run pins s σ H _ J h) fun u s1 hh => ?_)
    obtain ⟨x, H1, J1, rx, ex, hx, m, hm, qq⟩ := hh
    subst ex
    obtain rfl : u = Value.ref a := rx
    obtain ⟨od, IA, hmo⟩ := inst J1 hx
    obtain ⟨o, u, rfl, hl, ru⟩ := hmo m hm
    have KIn : PySem.W.Frag.In Z.K s1.heap := J1.kIn
    rw [eK] at KIn
    exact HandSPX.exc_get KIn IA I.ga I.gg I.sb (PySem.W.findObj_own I.hd I.nm rfl (by rw [hl])) (handed_of ru) ⟨.int m, H1, J1.tok _, ru, qq⟩
theorem xok_s {pn : List (Addr × Obj)} {C : Addr} {oe : Obj} (eP : X.prog = G.P) (eW : X.w = G.w) (eK : X.K = G.K) (eM : X.mg = G.mg) (eB : X.base = G.base) (hu : X.A.units + 200 < cLine) (S : FnScope w.N [w.a] w.scope)
    (hC : G.cv q.c = .ref C) (I : XIs G.K C) (hj : ∀ j, j < G.xn.length → PySem.W.kitOne G.K (G.cv q.c) (G.cv j) = some (subc q.c j)) (hz : Zc (.ref C) d oe) (hf : ∃ vs, oe.data = .fields vs) : XOk (wC (G.sw a d q) w true) ((wCx G X w f cdv s H).nox.suite a ((a, oe) :: pn)) where
  eN := rfl
  eS := rfl
  eC := fun h => by cases h
  eK := eK
  eM := eM
  eP := eP
  eW := eW
  eB := eB
  fns := fun _ => fn_none
  tk := fun _ _ x => by
    obtain ⟨_, _, _, _, _, _, _, _, _, _, _, _, _, _, _, _, z⟩ := x
    exact z.elim
  hr := fun h => by cases h
  hu := by
    show X.A.units + 3 + 80 < cLine
    omega
  nd := S.nd
  fnl := fun _ _ => .inl rfl
  own := fun _ _ h => h.elim
  lam := fun h => by cases h
  xis := fun _ => held_w (Z := (wCx G X w f cdv s H).nox) eK hC I hj hz hf
theorem fits_w (st : Stat G) (nm : G.nm = K.nm) (cs : G.cs = K.cs) (fr : G.fr = K.fr) (xn : G.xn = K.xn) (xa : ∀ k ∈ K.xa, ∃ C, G.cv k = .ref C ∧ PySem.W.excIn G.K C PySem.HandSPX.veTail "ValueError.__new__" = true)
    (xb : ∀ k ∈ K.xb, ∃ C, G.cv k = .ref C ∧ ¬ PySem.W.excIn G.K C PySem.HandSPX.veTail "ValueError.__new__" = true) (xh : Bool) : Fits (K.wordK w.N xh) (wC (G.sw a d q) w xh) w.scope (fun _ => true) where
  N := rfl
  sc := rfl
  sto := rfl
  nm := nm
  cs := cs
  fr := fr
  st := stat_sw st
  ar := fun f ds h n => absurd rfl n
  calm := rfl
  rm := fun h => by cases h
  lm := fun h => by cases h
  xh := fun h => h
  xc := fun h => by cases h
  xn := xn
  xa := xa
  xb := xb
  wn := rfl
  wo := fun f w h => by cases h
  ps := psiOf_nil.symm
end
section
variable {G : Cfg} {ha : Addr} {B : Addr → Prop} {H H1 : Hp} {Q : VK}
theorem calm_post {α β : Type} {R : Rl α β} {Q : β → Hp → Prop} {E : XK} {r : Res α} (p : RPost G ha B H R Q E (calmR r)) : RPost G ha B H R Q E r := by
  cases r with
  | ok a h => exact p
  | exc _ _ => exact p.elim
  | stuck => exact p.elim
abbrev endD (Q : VK) : Ends := { nx := fun _ H' => Q .non H', rt := Q }
/-- a def's end, from its block's -/
theorem fin_post {a : Addr} {d : Option Addr} {q : Exc} {r : Res Fl} (p : EPost G .st ha B H Q C8.E0 (r.bind finR)) : SPost (G.sw a d q) ha B (fun b => b = ha) H (endD Q) (fun _ _ _ => False) r := by
  cases r with
  | stuck => exact p.elim
  | exc e h => exact fun dx H' k hh x => p dx H' k (hnd_sw.mp hh) x
  | ok x h =>
    cases x with
    | rt dd => exact fun v H' k hh r => p v H' k (hnd_sw.mp hh) (rep_sw.mp r)
    | nx ρ => exact fun own σ H' S' => p .non H' S'.ext (hnd_sw.mp S'.h0) (by simp only [RepM, Rep])
    | bk ρ => exact p.elim
    | ct ρ => exact p.elim
end
theorem names_w {X : Cx} {x : Str} {c : Value} (hg : Gl X x) (hd : (x == ("__debug__" : Str)) = false) (h : X.mg x = some c) : Names X x c := ⟨hg, hd, .inl h⟩
section
variable {G : Cfg} {K : CE} {f : Nat} {w : WordX}
/-- what the def is, for its promise -/
theorem word_gives (hw : G.wd[f]? = some w) (st : Stat G) (nm : G.nm = K.nm) (cs : G.cs = K.cs) (fr : G.fr = K.fr) (xn : G.xn = K.xn) (xa : ∀ k ∈ K.xa, ∃ C, G.cv k = .ref C ∧ PySem.W.excIn G.K C PySem.HandSPX.veTail "ValueError.__new__" = true)
    (xb : ∀ k ∈ K.xb, ∃ C, G.cv k = .ref C ∧ ¬ PySem.W.excIn G.K C PySem.HandSPX.veTail "ValueError.__new__" = true) (h : chkW K w = true) (X : Cx) (cdv : Value) (q : Str) (eP : X.prog = G.P) (eW : X.w = G.w) (eK : X.K = G.K) (eM : X.mg = G.mg) (eB : X.base = G.base) (hu : X.A.units + 200 < cLine) :
    LamX.GivesTo X w.N w.x w.scope (G.wa f) cdv w.body w.a q (TTw G f) := by
  unfold chkW at h
  simp only [Bool.and_eq_true, decide_eq_true_eq] at h
  obtain ⟨⟨⟨h1, h2⟩, ⟨h3, h4⟩, h5, h6⟩, hb⟩ := h
  have S := scB_ok h1
  intro f0 c' s H Q tl act hc ht
  obtain ⟨ha, B, hs, t, hh, htl, p⟩ := ht
  unfold psiOf at p
  rw [hw] at p
  have p := calm_post p
  have X0 : XOk (wC (G.sw f0 none ⟨0, none⟩) w false) (wCx G X w (G.wa f) cdv s H).nox := xok_w eP eW eK eM eB hu S
  have F0 : Fits (K.wordK w.N false) (wC (G.sw f0 none ⟨0, none⟩) w false) w.scope (fun _ => true) := fits_w st nm cs fr xn xa xb false
  -- the try, and what stands behind it
  have key : ∀ sts, tryB K w sts = true → ∃ t', PSs (wCx G X w (G.wa f) cdv s H).nox sts t' ∧ ∀ own ρ hs1 σ1 H1, SSim (G.sw f0 none ⟨0, none⟩) ha B (fun b => b = ha) H own ρ hs1 σ1 H1 →
      EPost G .st ha B H Q C8.E0 (if ρ.all notOwn && isExn ρ[0]? then (match t hs1 with
      | .ok d h => if w.rt then .ok d h else (dens0 w.post ρ h).bind finR
      | .exc e h => catchR w e h
      | .stuck => .stuck) else .stuck) → t' (endD Q) σ1 H1 := by
    intro sts hT
    unfold tryB at hT
    split at hT
    case h_2 => cases hT
    rename_i cst hd0 tpos post
    simp only [Bool.and_eq_true] at hT
    obtain ⟨hT1, hT2, hT3⟩ := hT
    obtain ⟨t3, p3, q3⟩ := chkB_ok F0 hT3
    unfold hdB at hT2
    split at hT2
    case h_2 => cases hT2
    rename_i xcn np xn' b0 suite hpos
    simp only [Bool.and_eq_true, decide_eq_true_eq, beq_iff_eq] at hT2
    obtain ⟨⟨⟨g1, g0⟩, g2, g3⟩, ⟨g4, g5⟩, g6⟩ := hT2
    have g5 : w.scope.names.lookup xn' = some .local := g5
    have g1' : G.xn[w.c]? = some xcn := by rw [xn]; exact g1
    have Fs := fun (a : Addr) (d : Option Addr) (e : Exc) => chkB_ok (fits_w (a := a) (d := d) (q := e) st nm cs fr xn xa xb true) g6
    let ts : Addr → Value → Option Addr → TS := fun a cls d D σ H => ∃ e : Exc, cls = G.cv e.c ∧ 2 ≤ e.c ∧ e.c < G.xn.length ∧ Classical.choose (Fs a d e) D σ H
    obtain ⟨Cc, hz, hv⟩ : ∃ Cc, X.mg xcn = some (.ref Cc) ∧ G.cv w.c = .ref Cc := by
      rcases st.xnm w.c xcn g1' with ⟨hz, _⟩ | ⟨C, hz, hv⟩
      · omega
      · exact ⟨C, by rw [eM]; exact hz, hv⟩
    let tb : WX → TS := fun W D σ H' => σ[0]? = some (some (.ref f0)) ∧ H' c' = some (LamX.CodeO c' q) ∧ tl (fun cls d H2 => ∀ σ' : St, σ'.length = w.N.length → W cls d σ' H2) H' (if w.rt = true then D.rt else fun _ H2 => D.nx σ H2)
    have pt : PS (wCx G X w (G.wa f) cdv s H).nox (.Try [cst] [.ExceptHandler (some (.Name xcn np)) (some xn') (b0 :: suite) hpos] [] [] tpos) (fun D σ H => tb (wAs (wCx G X w (G.wa f) cdv s H).nox.K (.ref Cc) w.i ts (fun _ _ _ _ => False) D) D σ H) := by
      refine ps_try_as (X := (wCx G X w (G.wa f) cdv s H).nox) (c := .ref Cc) rfl rfl S.nd g4 g5 ⟨eq_of_beq (α := Option NameKind) g2, (okNm_ok g3).1, .inl hz⟩ (fun _ _ x => by
        obtain ⟨_, _, _, _, _, _, _, _, _, _, _, _, _, _, _, _, z⟩ := x
        exact z.elim) (fun W pn xe tk own => ?_) (fun a oe cls d pn hz hf => ?_)
      · have tk' : Takes ((wCx G X w (G.wa f) cdv s H).tr pn xe) (fun cls d σ' H' => σ'.length = w.N.length → W cls d σ' H') := fun u s' ⟨a, B, sI, pins, σ, H, cls, d, e, I, nb, up, sky, na, os, ag, hw⟩ => tk u s' ⟨a, B, sI, pins, σ, H, cls, d, e, I, nb, up, sky, na, os, ag, hw I.len⟩
        refine ⟨fun pins s' σ H' D I h' => ?_⟩
        obtain ⟨z1, z2, z3⟩ := h'
        have hp := fun p1 p2 => act _ pn xe _ p1 p2 tk' (fun cls d σ' H' (e : ∀ σ' : St, σ'.length = w.N.length → W cls d σ' H') hl => e σ' hl)
        unfold callB at hT1
        split at hT1
        · simp only [Bool.and_eq_true, decide_eq_true_eq] at hT1
          obtain ⟨hrt, rfl⟩ := hT1
          rw [if_pos hrt] at z3
          exact (pss_one (ps_ret (hp _ _))).run pins s' σ H' D I ⟨z1, z2, z3⟩
        · simp only [Bool.and_eq_true, decide_eq_true_eq, Bool.not_eq_true'] at hT1
          obtain ⟨hrt, rfl⟩ := hT1
          rw [if_neg (by rw [hrt]; exact Bool.false_ne_true)] at z3
          exact (pss_one (ps_expr (hp _ _) (sw_of rfl))).run pins s' σ H' D I ⟨z1, z2, z3⟩
        · cases hT1
      · refine ⟨fun pins s' σ H' D I h' => ?_⟩
        obtain ⟨e, ec, e2, e3, h'⟩ := h'
        obtain ⟨C, hC, XI, hj⟩ := st.xis e.c e2 e3
        rw [ec, hC] at hz
        have z := (Classical.choose_spec (Fs a d e)).1 _ (xok_s (pn := pn) (s := s) (H := H) (f := G.wa f) (cdv := cdv) eP eW eK eM eB hu S hC XI (fun j hj' => (hj j hj').1) hz hf)
        exact z.run pins s' σ H' D I h'
    refine ⟨_, pss_cons pt (p3 _ X0), fun own ρ hs1 σ1 H1 S1 pp => ?_⟩
    split at pp
    case isFalse => exact pp.elim
    rename_i hcond
    rw [Bool.and_eq_true] at hcond
    obtain ⟨hno, hex⟩ := hcond
    have own0 : ∀ i, own i = none := fun i => by
      cases ho : own i with
      | none => rfl
      | some b =>
        obtain ⟨x, ex⟩ := S1.of i b ho
        have := List.all_eq_true.mp hno _ (List.mem_of_getElem? ex)
        cases this
    have eBB : BB B own = B := funext fun b => propext ⟨fun z => z.elim id fun ⟨i, y⟩ => (by rw [own0 i] at y; cases y), .inl⟩
    have s0 : σ1[0]? = some (some (.ref f0)) := by
      unfold isExn at hex
      split at hex
      · rename_i e he
        exact (S1.sim.at_ 0 _ he).1
      · cases hex
    have hc1 : H1 c' = some (LamX.CodeO c' q) := S1.ext.at_ c' _ (fun z => by
      have z : c' = ha := z
      obtain ⟨vs, e, _⟩ := hh.at_
      rw [z] at hc
      rw [e] at hc
      unfold LamX.CodeO at hc
      cases hc) hc LamX.codeO_ne
    refine ⟨s0, hc1, htl _ H1 hs1 _ S1.ext (hnd_sw.mp S1.h0) ?_⟩
    cases et : t hs1 with
    | stuck =>
      rw [et] at pp
      exact pp.elim
    | ok d hs2 =>
      rw [et] at pp
      intro v H2 k2 h2 r2
      dsimp only at pp
      cases hrt : w.rt with
      | true =>
        rw [hrt, if_pos rfl] at pp
        rw [if_pos rfl]
        exact pp v H2 (S1.ext.trans k2) h2 r2
      | false =>
        rw [hrt, if_neg Bool.false_ne_true] at pp
        rw [if_neg Bool.false_ne_true]
        exact q3 ha B _ H own ρ hs2 σ1 H2 (endD Q) (S1.later k2 (by rw [eBB]; exact hnd_sw.mpr h2)) (fin_post pp)
    | exc e hs2 =>
      rw [et] at pp
      dsimp only at pp
      intro dx H2 k2 h2 x2 σ' hl
      unfold catchR at pp
      split at pp
      case isFalse => exact pp.elim
      rename_i hcc
      simp only [Bool.and_eq_true, decide_eq_true_eq] at hcc
      obtain ⟨⟨c1, c2⟩, c3⟩ := hcc
      rw [h6, ← xn] at c2
      obtain ⟨C, hC, XI, hj⟩ := st.xis e.c c1 c2
      have hex2 := (hj w.c (List.getElem?_eq_some_iff.mp g1').1).2
      rw [c3, hv] at hex2
      refine ⟨true, by show PySem.W.exmOne X.K _ _ = _; rw [eK]; exact hex2, fun _ a na => ?_, fun h => by cases h⟩
      refine ⟨e, rfl, c1, c2, ?_⟩
      have kk := S1.ext.trans k2
      refine (Classical.choose_spec (Fs a dx e)).2 ha B (fun b => b = ha) H (fun _ => none) ((List.replicate w.N.length .no).set w.i (.exn e)) hs2 _ H2 _ ?_ ?_
      · have eB2 : BB B (fun _ => none) = B := funext fun b => propext ⟨fun z => z.elim id fun ⟨i, y⟩ => (by cases y), .inl⟩
        refine ⟨fun i j b h => (nomatch h), fun i b h => (nomatch h), kk, rfl, hh.hB, ⟨by rw [List.length_set, List.length_set, List.length_replicate]; exact hl, fun i sl es => ?_, by rw [eB2]; exact hnd_sw.mpr h2⟩, fun i dd es => ?_, fun i b h => (nomatch h)⟩
        · rcases set_get es with ⟨rfl, rfl, hlt⟩ | ⟨hne, es⟩
          · refine ⟨?_, x2, rfl⟩
            rw [List.getElem?_set_self (by rw [hl]; rwa [List.length_replicate] at hlt)]
            rfl
          · rw [List.getElem?_replicate] at es
            split at es
            · cases es
              trivial
            · cases es
        · rcases set_get es with ⟨_, h, _⟩ | ⟨hne, es⟩
          · cases h
          · rw [List.getElem?_replicate] at es
            split at es <;> cases es
      · show SPost (G.sw a dx e) ha B (fun b => b = ha) H _ (fun _ _ _ => False) (dens0 w.b ((List.replicate w.N.length .no).set w.i (.exn e)) hs2)
        cases er : dens0 w.b ((List.replicate w.N.length .no).set w.i (.exn e)) hs2 with
        | stuck =>
          rw [er] at pp
          exact pp.elim
        | exc e' h3 =>
          rw [er] at pp
          exact fun dx' H' k hh x => pp dx' H' k (hnd_sw.mp hh) x
        | ok fl h3 =>
          rw [er] at pp
          cases fl with
          | nx ρ' => exact fun own' σ3 H3 S3 => q3 ha B _ H (unown own' w.i) _ h3 _ H3 (endD Q) (SSim.no (SSim.clr S3)) (fin_post pp)
          | rt dd => exact fun v H' k hh r => pp v H' k (hnd_sw.mp hh) (rep_sw.mp r)
          | bk _ => exact pp.elim
          | ct _ => exact pp.elim
  have S0 : SSim (G.sw f0 none ⟨0, none⟩) ha B (fun b => b = ha) H (fun _ => none) ((List.replicate w.N.length .no).set 0 (.exn ⟨0, none⟩)) hs (L2.start w.N [V.ref f0]) H := by
    have eB2 : BB B (fun _ => none) = B := funext fun b => propext ⟨fun z => z.elim id fun ⟨i, y⟩ => (by cases y), .inl⟩
    have hl0 : 0 < w.N.length := (List.getElem?_eq_some_iff.mp h2).1
    refine ⟨fun i j b h => (nomatch h), fun i b h => (nomatch h), .refl, rfl, hh.hB, ⟨?_, fun i sl es => ?_, by rw [eB2]; exact hnd_sw.mpr hh⟩, fun i dd es => ?_, fun i b h => (nomatch h)⟩
    · unfold L2.start
      rw [List.length_set, List.length_replicate, List.length_append, List.length_map, List.length_replicate, List.length_singleton]
      omega
    · rcases set_get es with ⟨rfl, rfl, hlt⟩ | ⟨hne, es⟩
      · exact ⟨rfl, rfl, rfl⟩
      · rw [List.getElem?_replicate] at es
        split at es
        · cases es
          trivial
        · cases es
    · rcases set_get es with ⟨_, h, _⟩ | ⟨hne, es⟩
      · cases h
      · rw [List.getElem?_replicate] at es
        split at es <;> cases es
  unfold wordR preR at p
  split at hb
  · rename_i hpre
    rw [hpre] at p
    obtain ⟨t', pt, qt⟩ := key _ hb
    exact ⟨t', pt, qt _ _ _ _ _ S0 p⟩
  · rename_i m st0 sts hpre hbody
    rw [Bool.and_eq_true] at hb
    rw [hpre] at p
    obtain ⟨t', pt, qt⟩ := key _ hb.2
    obtain ⟨t1, p1, q1⟩ := chkM_ok F0 40 st0 m hb.1
    rw [hbody]
    refine ⟨_, pss_cons (p1 _ X0) pt, ?_⟩
    refine q1 ha B _ H _ _ hs _ H { endD Q with nx := t' (endD Q) } S0 ?_
    show SPost (G.sw f0 none ⟨0, none⟩) ha B (fun b => b = ha) H _ (fun _ _ _ => False) (denM noPhi noPsi noThk m ((List.replicate w.N.length .no).set 0 (.exn ⟨0, none⟩)) hs)
    dsimp only at p
    cases er : denM noPhi noPsi noThk m ((List.replicate w.N.length .no).set 0 (.exn ⟨0, none⟩)) hs with
    | stuck =>
      rw [er] at p
      exact p.elim
    | exc e h3 =>
      rw [er] at p
      exact fun dx' H' k hh x => p dx' H' k (hnd_sw.mp hh) x
    | ok fl h3 =>
      rw [er] at p
      cases fl with
      | nx ρ' => exact fun own' σ3 H3 S3 => qt own' ρ' h3 σ3 H3 S3 p
      | rt dd => exact p.elim
      | bk _ => exact p.elim
      | ct _ => exact p.elim
  · cases hb
end
end PD

set_option Elab.async false
set_option linter.all false
set_option maxRecDepth 100000
set_option maxHeartbeats 2000000
/-! P19: defs, one after another. -/
namespace PD
open PySem PySem.Spec PyProof.Rows L2 RZ
/-- a def: its text, its slots' names, its small program -/
structure DefX where
  x : Str
  params : Arguments
  body : List Stmt
  scope : Scope
  N : List Str
  ps : List Str
  b : IMs
  lm : Bool := false
structure DefT where
  b : IMs
  n : Nat
  ar : Nat
def DefX.t (d : DefX) : DefT := ⟨d.b, d.N.length, d.ps.length⟩
/-- what the defs compute; the last one first -/
noncomputable def PhiL (wd : List WordX) : List DefT → Nat → List D → HS → Res D
  | [], _, _, _ => .stuck
  | t :: r, f, ds, h => if f = r.length then (if ds.length = t.ar then denF (PhiL wd r) (psiOf wd) noThk t.b t.n ds h else .stuck) else PhiL wd r f ds h
def BindP (d : DefX) : Prop := ∀ (kV doc pm : Value) (an : Option Addr) (cdv ct : Value) (us : List Value), us.length = d.ps.length → bindArgs (PySem.W.fnOf d.x d.x d.params d.body d.scope .none kV doc pm an cdv ct) ⟨us, []⟩ = pure (d.ps.zip us)
/-- a def stands as it is told -/
abbrev lamQ (x : Str) : Str := (x ++ ".<locals>.") ++ "<lambda>"
def LamD (G : Cfg) (x : Str) (fd : FuncData) : Prop := ∀ c, fd.code = .ref c → ∃ P, LamX.TabB G.base G.mg c P ∧ (P, lamQ x) ∈ G.T ∧ ∀ p ∈ G.T, p.1 = P → p.2 = lamQ x
def DefOk (G : Cfg) (f : Nat) (d : DefX) : Prop := FunD G.K d.x d.x d.params d.body d.scope [] [] (G.fa f) (G.fd f) ∧ G.ps f = d.ps ∧ (d.lm = true → LamD G d.x (G.fd f))
def CE.at (K : CE) (N : List Str) (lm : Bool) : CE := { K with N := N, cm := true, fl := true, lm := lm, xh := false }
/-- what is known of a law's defs -/
structure Tab (G : Cfg) (K : CE) (dx : List DefX) : Prop where
  st : Stat G
  nm : G.nm = K.nm
  cs : G.cs = K.cs
  fr : G.fr = K.fr
  xn : G.xn = K.xn
  xa : ∀ k ∈ K.xa, ∃ C, G.cv k = .ref C ∧ PySem.W.excIn G.K C PySem.HandSPX.veTail "ValueError.__new__" = true
  xb : ∀ k ∈ K.xb, ∃ C, G.cv k = .ref C ∧ ¬ PySem.W.excIn G.K C PySem.HandSPX.veTail "ValueError.__new__" = true
  wn : G.wd.map (·.x) = K.wn
  wo : WdOk G
  ok : ∀ f d, dx[f]? = some d → DefOk G f d
  chk : ∀ d ∈ dx, scB d.N d.ps d.scope = true ∧ chkB (K.at d.N d.lm) d.scope d.body d.b = true
/-- a body's context -/
noncomputable abbrev dC (G : Cfg) (Φ : Nat → List D → HS → Res D) (N : List Str) (sc : Scope) (E : XK) (k : Nat) (lm : Bool) : Ctx := ⟨G, Φ, psiOf G.wd, N, sc, fun _ => true, true, E, k, 2, noThk, lm, false⟩
theorem okX {G : Cfg} {Φ : Nat → List D → HS → Res D} {N ps : List Str} {sc : Scope} {k : Nat} {qual : Str} {f : Addr} {cdv : Value} {A : Around} {outer : List Env} {s : Shared} {H : Hp} {E : XK} {lm : Bool}
    (hS : FnScope N ps sc) (hr : Room (k + 2) (A.deeper (envOfC qual sc s.heap.objs.size f cdv))) (hF : ∀ f, FnOk G.P G.w G.K G.mg G.base (L2.CX G.P G.w) k (G.fa f) (G.fd f) (G.ps f) (spD G (Φ f) (G.ps f).length))
    (hl : lm = true → ∃ c P, cdv = .ref c ∧ LamX.TabB G.base G.mg c P ∧ (P, lamQ qual) ∈ G.T ∧ ∀ p ∈ G.T, p.1 = P → p.2 = lamQ qual) :
    XOk (dC G Φ N sc E k lm) (cxOf (L2.CX G.P G.w) G.P G.w G.K G.mg G.base N qual sc f cdv A outer s H E) where
  eN := rfl
  eS := rfl
  eC := fun _ => rfl
  eK := rfl
  eM := rfl
  eP := rfl
  eW := rfl
  eB := rfl
  fns := hF
  tk := takes_of rfl rfl rfl rfl
  hr := fun _ => hr
  hu := by
    have := hr.un
    show (A.deeper (envOfC qual sc s.heap.objs.size f cdv)).units + 80 < cLine
    omega
  nd := hS.nd
  fnl := fun _ _ => .inl rfl
  own := passes_of rfl
  lam := fun h => hl h
  xis := fun h => by cases h
theorem fits_d {G : Cfg} {K : CE} {dx : List DefX} {Φ : Nat → List D → HS → Res D} {N : List Str} {sc : Scope} {E : XK} {k : Nat} {lm : Bool} (T : Tab G K dx) (ar : ∀ f ds h, Φ f ds h ≠ .stuck → ds.length = (G.ps f).length) : Fits (K.at N lm) (dC G Φ N sc E k lm) sc (fun _ => true) where
  N := rfl
  sc := rfl
  sto := rfl
  nm := T.nm
  cs := T.cs
  fr := T.fr
  st := T.st
  ar := ar
  calm := rfl
  rm := fun _ => rfl
  lm := fun h => h
  xh := fun h => by cases h
  xc := fun _ => rfl
  xn := T.xn
  xa := T.xa
  xb := T.xb
  wn := T.wn
  wo := T.wo
  ps := rfl
theorem phi_ar {G : Cfg} {wd : List WordX} {dx : List DefX} (hp : ∀ f d, dx[f]? = some d → G.ps f = d.ps) : ∀ j, j ≤ dx.length → ∀ f ds h, PhiL wd ((dx.take j).map DefX.t).reverse f ds h ≠ .stuck → ds.length = (G.ps f).length
  | 0, _, f, ds, h, n => absurd rfl n
  | j + 1, hj, f, ds, h, n => by
    have hj' : j < dx.length := hj
    rw [List.take_succ_eq_append_getElem hj', List.map_append, List.map_cons, List.map_nil, List.reverse_append, List.reverse_singleton, List.singleton_append] at n
    unfold PhiL at n
    have hl : ((dx.take j).map DefX.t).reverse.length = j := by
      rw [List.length_reverse, List.length_map, List.length_take]
      omega
    rw [hl] at n
    split at n
    · rename_i e
      subst e
      split at n
      · rename_i e
        rw [e, hp f dx[f] (List.getElem?_eq_getElem hj')]
        rfl
      · exact absurd rfl n
    · exact phi_ar hp j (by omega) f ds h n
theorem tabs_all {G : Cfg} {K : CE} {dx : List DefX} (T : Tab G K dx) : ∀ j, j ≤ dx.length → ∀ f, FnOk G.P G.w G.K G.mg G.base (L2.CX G.P G.w) (3 * j) (G.fa f) (G.fd f) (G.ps f) (spD G (PhiL G.wd ((dx.take j).map DefX.t).reverse f) (G.ps f).length)
  | 0, _, f => ⟨fun vs H Q E h => h.1, fun A outer s H args us vs Q E hr e0 hb r h => by
    obtain ⟨_, ha, B, ds, hs, _, _, p⟩ := h
    exact p.elim⟩
  | j + 1, hj, f => by
    have hj' : j < dx.length := hj
    have hl : ((dx.take j).map DefX.t).reverse.length = j := by
      rw [List.length_reverse, List.length_map, List.length_take]
      omega
    have ih := tabs_all T j (by omega)
    rw [List.take_succ_eq_append_getElem hj', List.map_append, List.map_cons, List.map_nil, List.reverse_append, List.reverse_singleton, List.singleton_append]
    by_cases e : f = j
    · subst e
      have hd : dx[f]? = some dx[f] := List.getElem?_eq_getElem hj'
      generalize dx[f] = d at hd
      obtain ⟨F, hps, hlm⟩ := T.ok f d hd
      obtain ⟨c1, c2⟩ := T.chk d (List.mem_of_getElem? hd)
      have hS := scB_ok c1
      rw [hps]
      obtain ⟨oc, od, dV, kV, doc, pm, an, cdv, ct, osl, efd, lk, hcd, _, _⟩ := F.ex
      rw [efd] at lk hlm ⊢
      refine (fn_of (k := 3 * f + 2) lk hcd hS (fun vs H Q E h => h.1) fun A outer s H vs Q E hr h => ?_).mono (by omega)
      obtain ⟨hvl, ha, B, ds, hs, rv, hh, p⟩ := h
      have X := okX (G := G) (Φ := PhiL G.wd ((dx.take f).map DefX.t).reverse) (qual := d.x) (f := G.fa f) (cdv := cdv) (outer := outer) (s := s) (H := H) (E := E) (lm := d.lm) hS hr ih (fun h => by
        obtain ⟨c, ec⟩ := He.codeIn_ref hcd
        obtain ⟨P, q⟩ := hlm h c ec
        exact ⟨c, P, ec, q⟩)
      have FF : Fits (K.at d.N d.lm) (dC G (PhiL G.wd ((dx.take f).map DefX.t).reverse) d.N d.scope E (3 * f) d.lm) d.scope (fun _ => true) := fits_d T (phi_ar (fun f d hd => (T.ok f d hd).2.1) f (by omega))
      obtain ⟨t, pt, qt⟩ := chkB_ok FF c2
      refine ⟨t, pt _ X, ?_⟩
      have hNl : d.ps.length ≤ d.N.length := by
        have := congrArg List.length hS.pre
        rw [List.length_take] at this
        omega
      have hdl := rv.length
      have S : SSim G ha B (fun b => b = ha) H (fun _ => none) (ds.map .val ++ List.replicate (d.N.length - ds.length) .no) hs (start d.N vs) H := by
        refine ⟨fun i j a h => (nomatch h), fun i a h => (nomatch h), .refl, rfl, hh.hB, ⟨?_, fun i sl e => ?_, hh.sub (.inl hh.hB) fun b z => z.elim id fun ⟨i, y⟩ => (nomatch y)⟩, fun i d' e => ?_, fun i a h => (nomatch h)⟩
        · unfold L2.start
          rw [List.length_append, List.length_append, List.length_map, List.length_map, List.length_replicate, List.length_replicate, hdl]
        · by_cases hi : i < ds.length
          · rw [List.getElem?_append_left (by rw [List.length_map]; exact hi), List.getElem?_map] at e
            rw [List.getElem?_eq_getElem hi] at e
            cases e
            obtain ⟨v, e1, r1⟩ := rv.get (List.getElem?_eq_getElem hi)
            refine ⟨v, ?_, Rep.sub r1 fun b z => z.elim id fun ⟨i, y⟩ => (nomatch y)⟩
            unfold L2.start
            rw [List.getElem?_append_left (by rw [List.length_map, ← hdl]; exact hi), List.getElem?_map, e1]
            rfl
          · rw [List.getElem?_append_right (by rw [List.length_map]; omega), List.getElem?_replicate] at e
            split at e
            · cases e
              trivial
            · cases e
        · by_cases hi : i < ds.length
          · rw [List.getElem?_append_left (by rw [List.length_map]; exact hi), List.getElem?_map, List.getElem?_eq_getElem hi] at e
            cases e
          · rw [List.getElem?_append_right (by rw [List.length_map]; omega), List.getElem?_replicate] at e
            split at e <;> cases e
      refine qt ha B _ H _ _ hs _ H _ S ?_
      -- from the def's meaning to the block's
      have p : EPost G .st ha B H Q E (PhiL G.wd (d.t :: ((dx.take f).map DefX.t).reverse) f ds hs) := p
      unfold PhiL at p
      rw [if_pos hl.symm, if_pos (show ds.length = d.t.ar from hdl.trans hvl)] at p
      unfold denF at p
      show SPost G ha B (fun b => b = ha) H _ E (denMs _ _ _ d.b _ hs)
      cases er : denMs (PhiL G.wd ((dx.take f).map DefX.t).reverse) (psiOf G.wd) noThk d.b (ds.map .val ++ List.replicate (d.N.length - ds.length) .no) hs with
      | stuck =>
        have p : EPost G .st ha B H Q E ((denMs (PhiL G.wd ((dx.take f).map DefX.t).reverse) (psiOf G.wd) noThk d.b (ds.map .val ++ List.replicate (d.N.length - ds.length) .no) hs).bind _) := p
        rw [er] at p
        exact p.elim
      | exc e h =>
        have p : EPost G .st ha B H Q E ((denMs (PhiL G.wd ((dx.take f).map DefX.t).reverse) (psiOf G.wd) noThk d.b (ds.map .val ++ List.replicate (d.N.length - ds.length) .no) hs).bind _) := p
        rw [er] at p
        exact fun dx H' k hh x => p dx H' k hh x
      | ok x h =>
        have p : EPost G .st ha B H Q E ((denMs (PhiL G.wd ((dx.take f).map DefX.t).reverse) (psiOf G.wd) noThk d.b (ds.map .val ++ List.replicate (d.N.length - ds.length) .no) hs).bind _) := p
        rw [er] at p
        cases x with
        | rt dd => exact fun v H' k hh r => p v H' k hh r
        | nx ρ => exact fun own σ H' S' => p .non H' S'.ext S'.h0 (by simp only [RepM, Rep])
        | bk ρ => exact p.elim
        | ct ρ => exact p.elim
    · have ep : PhiL G.wd (DefX.t dx[j] :: ((dx.take j).map DefX.t).reverse) f = PhiL G.wd ((dx.take j).map DefX.t).reverse f := by
        funext ds h
        conv => lhs; unfold PhiL
        rw [hl, if_neg e]
      rw [ep]
      exact (ih f).mono (by omega)
end PD

set_option Elab.async false
set_option linter.all false
set_option maxRecDepth 100000
set_option maxHeartbeats 2000000
/-! P20: the hand, the law's own def. -/
namespace PD
open PySem PySem.Spec PyProof.Rows L2 RZ
def absI (n : Int) : Int := if n < 0 then -n else n
/-- how a hand begins: its cells as they are, or left over by 10 ** 36 -/
inductive Hd
  | pl (m : Int)
  | md (m : Int)
  | pk (k m : Int)
def cellOf : Hd → Int → Int
  | .pl _, n => absI n
  | .md _, n => (absI n).fmod ((10 : Int) ^ 36)
  | .pk _ _, n => absI n
def startOf : Hd → Int → Int
  | .pl m, n => m + n
  | .md m, n => m + 7 * n
  | .pk k m, n => m + k * n
def cellsOf (m0 : Hd) (ns : List Int) : List Int := (ns.take 63).map (cellOf m0)
/-- what _law_hand(script) promises -/
def spHand (m0 : Hd) (K : PySem.W.Frag) : Sp := fun vs H Q _ => ∃ (a : Addr) (ns : List Int), vs = [.ref a] ∧ SqL K H a (ns.map V.int) ∧ ∀ (p D : Addr) (H' : Hp), Same H H' → H p = none → H D = none → p ≠ D →
  H' p = some (.lst [.ref D, .int 0, .int 0, .int (startOf m0 (cellsOf m0 ns).length), .int 0]) → H' D = some (.lst ((cellsOf m0 ns).map V.int)) → Q (.ref p) H'
def hN : List Str := ["script", "cells", "cell"]
def isHand1 (m0 : Int) (sc : Scope) : List Stmt → Bool
  | [.Assign [.Name x0 _] (.ListComp (.Call (.Name xa _) [.Call (.Name xi _) [.Name xc _] [] _] [] _) [⟨.Name xt _, .Subscript (.Name xs _) (.Slice none (some (.Constant (.int m) _ _)) none _) _, [], az⟩] scope _) _,
     .Return (some (.List [.Name y1 _, .Constant (.int z1) _ _, .Constant (.int z2) _ _, .BinOp (.Constant (.int o1) _ _) .Add (.Call (.Name xl _) [.Name y2 _] [] _) _, .Constant (.int z3) _ _] _)) _] =>
    (decide (x0 = ("cells" : Str)) && (decide (xa = ("abs" : Str)) && (decide (xi = ("int" : Str)) && (decide (xc = ("cell" : Str)) && (decide (xt = ("cell" : Str)) && (decide (xs = ("script" : Str)) && (decide (y1 = ("cells" : Str)) && (decide (xl = ("len" : Str)) && decide (y2 = ("cells" : Str)))))))))) &&
    ((decide (m = 63) && (decide (az = 0) && (decide (z1 = 0) && (decide (z2 = 0) && (decide (o1 = m0) && decide (z3 = 0)))))) &&
      ((blkC hN sc scope [(("cell" : Str), 2)] && (glB (relS scope sc) ("abs" : Str) && (glB (relS scope sc) ("int" : Str) && (visB (relS scope sc) ("cell" : Str) && (locB (relS scope sc) ("cell" : Str) && stoI scope sc ("cell" : Str)))))) &&
        (visB sc ("script" : Str) && (locB sc ("cells" : Str) && (visB sc ("cells" : Str) && glB sc ("len" : Str))))))
  | _ => false
def isHand3 (k0 m0 : Int) (sc : Scope) : List Stmt → Bool
  | [.Assign [.Name x0 _] (.ListComp (.Call (.Name xa _) [.Call (.Name xi _) [.Name xc _] [] _] [] _) [⟨.Name xt _, .Subscript (.Name xs _) (.Slice none (some (.Constant (.int m) _ _)) none _) _, [], az⟩] scope _) _,
     .Return (some (.List [.Name y1 _, .Constant (.int z1) _ _, .Constant (.int z2) _ _, .BinOp (.Constant (.int o1) _ _) .Add (.BinOp (.Constant (.int o2) _ _) .Mult (.Call (.Name xl _) [.Name y2 _] [] _) _) _, .Constant (.int z3) _ _] _)) _] =>
    (decide (x0 = ("cells" : Str)) && (decide (xa = ("abs" : Str)) && (decide (xi = ("int" : Str)) && (decide (xc = ("cell" : Str)) && (decide (xt = ("cell" : Str)) && (decide (xs = ("script" : Str)) && (decide (y1 = ("cells" : Str)) && (decide (xl = ("len" : Str)) && decide (y2 = ("cells" : Str)))))))))) &&
    ((decide (m = 63) && (decide (az = 0) && (decide (z1 = 0) && (decide (z2 = 0) && (decide (o1 = m0) && (decide (z3 = 0) && (decide (o2 = k0) && (decide (0 ≤ o2) && decide (o2 < 1000))))))))) &&
      ((blkC hN sc scope [(("cell" : Str), 2)] && (glB (relS scope sc) ("abs" : Str) && (glB (relS scope sc) ("int" : Str) && (visB (relS scope sc) ("cell" : Str) && (locB (relS scope sc) ("cell" : Str) && stoI scope sc ("cell" : Str)))))) &&
        (visB sc ("script" : Str) && (locB sc ("cells" : Str) && (visB sc ("cells" : Str) && glB sc ("len" : Str))))))
  | _ => false
def isHand2 (m0 : Int) (sc : Scope) : List Stmt → Bool
  | [.Assign [.Name x0 _] (.ListComp (.BinOp (.Call (.Name xi2 _) [.Call (.Name xa _) [.Call (.Name xi _) [.Name xc _] [] _] [] _] [] _) .Mod (.BinOp (.Constant (.int t1) _ _) .Pow (.Constant (.int t2) _ _) _) _) [⟨.Name xt _, .Subscript (.Name xs _) (.Slice none (some (.Constant (.int m) _ _)) none _) _, [], az⟩] scope _) _,
     .Return (some (.List [.Name y1 _, .Constant (.int z1) _ _, .Constant (.int z2) _ _, .BinOp (.Constant (.int o1) _ _) .Add (.BinOp (.Constant (.int o2) _ _) .Mult (.Call (.Name xl _) [.Name y2 _] [] _) _) _, .Constant (.int z3) _ _] _)) _] =>
    (decide (x0 = ("cells" : Str)) && (decide (xi2 = ("int" : Str)) && (decide (xa = ("abs" : Str)) && (decide (xi = ("int" : Str)) && (decide (xc = ("cell" : Str)) && (decide (xt = ("cell" : Str)) && (decide (xs = ("script" : Str)) && (decide (y1 = ("cells" : Str)) && (decide (xl = ("len" : Str)) && decide (y2 = ("cells" : Str))))))))))) &&
    ((decide (m = 63) && (decide (az = 0) && (decide (z1 = 0) && (decide (z2 = 0) && (decide (o1 = m0) && (decide (z3 = 0) && (decide (t1 = 10) && (decide (t2 = 36) && decide (o2 = 7))))))))) &&
      ((blkC hN sc scope [(("cell" : Str), 2)] && (glB (relS scope sc) ("abs" : Str) && (glB (relS scope sc) ("int" : Str) && (visB (relS scope sc) ("cell" : Str) && (locB (relS scope sc) ("cell" : Str) && stoI scope sc ("cell" : Str)))))) &&
        (visB sc ("script" : Str) && (locB sc ("cells" : Str) && (visB sc ("cells" : Str) && glB sc ("len" : Str))))))
  | _ => false
def isHand (m0 : Hd) (sc : Scope) (b : List Stmt) : Bool := match m0 with
  | .pl m => isHand1 m sc b
  | .md m => isHand2 m sc b
  | .pk k m => isHand3 k m sc b
theorem pe_lenN {X : Cx} {p p2 pos : Pos} {i : Nat} {x : Str} (hg : Gl X "len") (hm : X.mg "len" = none) (h : PE X (.Name x p2) (tVar i)) : PE X (.Call (.Name "len" p) [.Name x p2] [] pos) (tCB (rBi X.K .len) (tCons (tVar i) tNil)) :=
  pe_bi (b := .len) (call_len_seq.or call_lenDK) hg hm (pa_cons h pa_nil) rfl rfl
theorem take_set {α β : Type} (f : α → β) (xs : List α) (i : Nat) (x : α) (h : xs[i]? = some x) : (xs.take i).map f ++ [f x] = (xs.take (i + 1)).map f := by
  obtain ⟨hi, e⟩ := List.getElem?_eq_some_iff.mp h
  rw [List.take_succ_eq_append_getElem hi, List.map_append, e]
  rfl
section
variable {k0 m0 : Int} {G : Cfg} {x qual : Str} {params : Arguments} {body : List Stmt} {scope : Scope} {f : Addr} {fd : FuncData}
theorem hand_ok1 (F : FunD G.K x qual params body scope [] [] f fd) (hS : scB hN ["script"] scope = true) (hb : isHand1 m0 scope body = true) (mA : G.mg "abs" = none) (mI : G.mg "int" = none) (mL : G.mg "len" = none) :
    FnOk G.P G.w G.K G.mg G.base (L2.CX G.P G.w) 3 f fd ["script"] (spHand (.pl m0) G.K) := by
  have S := scB_ok hS
  refine F.ok S (fun vs H Q E h => ?_) fun cdv A outer s H vs Q E hr h => ?_
  · obtain ⟨a, ns, rfl, _⟩ := h
    rfl
  obtain ⟨a, ns, rfl, hq, q⟩ := h
  have X := okX (G := { G with ps := fun _ => [] }) (Φ := fun _ _ _ => .stuck) (qual := qual) (f := f) (cdv := cdv) (outer := outer) (s := s) (H := H) (E := E) (k := 0) (lm := false) S hr (fun f => ⟨fun vs H Q E h => h.1, fun A outer s H args us vs Q E hr e0 hb r h => by
    obtain ⟨_, ha, B, ds, hs, _, _, p⟩ := h
    exact p.elim⟩) (fun h => by cases h)
  unfold isHand1 at hb
  split at hb
  case h_2 => cases hb
  simp only [Bool.and_eq_true, decide_eq_true_eq] at hb
  obtain ⟨⟨rfl, rfl, rfl, rfl, rfl, rfl, rfl, rfl, rfl⟩, ⟨rfl, rfl, rfl, rfl, rfl, rfl⟩, ⟨b1, b2, b3, b4, b5, b6⟩, b7, b8, b9, b10⟩ := hb
  rename_i px0 pa pi pxc pint pabs pt ps j1 pc1 psl psub sc2 plc pas py1 j2 pz1 j3 pz2 o1v j4 po1 pl py2 plen pbin j5 pz3 plst pret
  have gl : ∀ {sc' : Scope} {y : Str}, glB sc' y = true → sc'.names.lookup y = some .globalImplicit := fun {sc' y} h => eq_of_beq (α := Option NameKind) h
  have vs : ∀ {sc' : Scope} {y : Str}, visB sc' y = true → Vis sc' y := fun {sc' y} h => by
    unfold visB at h
    rw [Bool.or_eq_true, Bool.or_eq_true] at h
    rcases h with h | h | h
    · exact .inl (eq_of_beq (α := Option NameKind) h)
    · exact .inr (.inl (eq_of_beq (α := Option NameKind) h))
    · exact .inr (.inr (eq_of_beq (α := Option NameKind) h))
  have lc : ∀ {sc' : Scope} {y : Str}, locB sc' y = true → Loc sc' y := fun {sc' y} h => by
    unfold locB at h
    rw [Bool.or_eq_true] at h
    rcases h with h | h
    · exact .inl (eq_of_beq (α := Option NameKind) h)
    · exact .inr (eq_of_beq (α := Option NameKind) h)
  -- the first statement's rule
  have nd : (hN : List Str).Nodup := S.nd
  have r0 : ∀ pos, PE (cxOf (L2.CX G.P G.w) G.P G.w G.K G.mg G.base hN qual scope f cdv A outer s H E) (.Name ("script" : Str) pos) (tVar 0) := fun pos => pe_var (i := 0) rfl (vs b7) (by decide) (by decide)
  have r1 : ∀ pos, PE (cxOf (L2.CX G.P G.w) G.P G.w G.K G.mg G.base hN qual scope f cdv A outer s H E) (.Name ("cells" : Str) pos) (tVar 1) := fun pos => pe_var (i := 1) rfl (vs b9) (by decide) (by decide)
  have inn := fun (s' : Shared) (H' : Hp) (C : Addr) (cl : List (Str × Addr)) (fp : List Addr) => X.inn sc2 s' H' C cl fp
  have hi := fun tg => pi_list (tg := tg) (pe_slice (pos := psub) (p2 := psl) sl_list (r0 ps) po_none (po_some (te := tC (.int 63)) (pe_int (j := j1) (pos := pc1))))
  have he : ∀ (s' : Shared) (H' : Hp) (C : Addr) (cl : List (Str × Addr)) (fp : List Addr), PE ((cxOf (L2.CX G.P G.w) G.P G.w G.K G.mg G.base hN qual scope f cdv A outer s H E).blk s' H' sc2 (compEnvC sc2 cl C (cxOf (L2.CX G.P G.w) G.P G.w G.K G.mg G.base hN qual scope f cdv A outer s H E).env) fp) (.Call (.Name ("abs" : Str) pa) [.Call (.Name ("int" : Str) pi) [.Name ("cell" : Str) pxc] [] pint] [] pabs)
      (tCB (rBi G.K .abs) (tCons (tCB (rBi G.K .int) (tCons (tVar 2) tNil)) tNil)) := fun s' H' C cl fp =>
    pe_bi (b := .abs) call_abs ((inn s' H' C cl fp).gl (gl b2)) mA (pa_cons (pe_bi (b := .int) call_int1 ((inn s' H' C cl fp).gl (gl b3)) mI (pa_cons (pe_var (i := 2) rfl ((inn s' H' C cl fp).vis (vs b4)) (by decide) (by decide)) pa_nil) rfl rfl) pa_nil) rfl rfl
  have hg : ∀ (s' : Shared) (H' : Hp) (C : Addr) (cl : List (Str × Addr)) (fp : List Addr), PG ((cxOf (L2.CX G.P G.w) G.P G.w G.K G.mg G.base hN qual scope f cdv A outer s H E).blk s' H' sc2 (compEnvC sc2 cl C (cxOf (L2.CX G.P G.w) G.P G.w G.K G.mg G.base hN qual scope f cdv A outer s H E).env) fp) (.Name ("cell" : Str) pt) (gName 2) := fun s' H' C cl fp =>
    pg_name nd rfl (by rw [(inn s' H' C cl fp).eS]; exact lc b5) (by rw [(inn s' H' C cl fp).eS]; exact (inn s' H' C cl fp).fnl _ b6)
  have bk : BlkOk hN scope sc2 [(("cell" : Str), 2)] := blkOk_by b1
  have st1 : PS (cxOf (L2.CX G.P G.w) G.P G.w G.K G.mg G.base hN qual scope f cdv A outer s H E) (.Assign [.Name ("cells" : Str) px0] (.ListComp (.Call (.Name ("abs" : Str) pa) [.Call (.Name ("int" : Str) pi) [.Name ("cell" : Str) pxc] [] pint] [] pabs) [⟨.Name ("cell" : Str) pt, .Subscript (.Name ("script" : Str) ps) (.Slice none (some (.Constant (.int 63) j1 pc1)) none psl) psub, [], 0⟩] sc2 plc) pas)
      (tAsg (tLc (iList G.K (tSl (rSlL G.K) (tVar 0) tNoPart (tPart (tC (.int 63))))) (gName 2) tYes (tCB (rBi G.K .abs) (tCons (tCB (rBi G.K .int) (tCons (tVar 2) tNil)) tNil)) [2]) (gName 1)) := by
    cases hw : swB scope ("cells" : Str) px0.line plc.line sc2 with
    | true =>
      have hl : scope.names.lookup ("cells" : Str) = some .local := by
        unfold swB at hw
        simp only [Bool.and_eq_true] at hw
        exact eq_of_beq (α := Option NameKind) hw.1.1.2
      exact ps_setLc rfl nd rfl hl (by rw [swB_ok]; exact congrArg pure hw) (hi _) bk hg (fun _ _ _ _ _ => pts_nil) he
    | false => exact ps_set nd rfl (lc b8) (pe_lc rfl nd (hi _) bk hg (fun _ _ _ _ _ => pts_nil) he) (by rw [swB_ok]; exact congrArg pure hw) (.inl rfl)
  refine ⟨_, pss_cons st1 (pss_one (ps_ret (pe_lst (pa_cons (r1 py1) (pa_cons pe_int (pa_cons pe_int (pa_cons (pe_op op_add pe_int (pe_lenN (gl b10) mL (r1 py2))) (pa_cons pe_int pa_nil)))))))), ?_⟩
  -- what it computes
  have eZ : cutV (ns.map V.int) none (some 63) = (ns.take 63).map V.int := by
    unfold cutV
    show ((ns.map V.int).drop 0).take (min 63 (ns.map V.int).length - 0) = _
    rw [List.drop_zero, Nat.sub_zero, ← List.map_take]
    congr 1
    rw [List.length_map]
    by_cases h : ns.length ≤ 63
    · rw [Nat.min_eq_right h, List.take_length, List.take_of_length_le h]
    · rw [Nat.min_eq_left (by omega)]
  refine ⟨.ref a, rfl, 63, rfl, a, ns.map V.int, rfl, hq, fun q0 n0 => ?_⟩
  rw [eZ]
  refine ⟨q0, rfl, ⟨_, .inl (.inl upd_same)⟩, fun D nD => ?_⟩
  have hD0 : D ≠ q0 := fun z => by rw [z, upd_same] at nD; cases nD
  have nDH : H D = none := by rwa [upd_ne hD0] at nD
  refine lc_it (walk_list (xs := (ns.take 63).map V.int)) (fun i Hi => Hi = upd (upd H q0 (.lst ((ns.take 63).map V.int))) D (.lst (((ns.take 63).take i).map fun n => V.int (absI n)))) rfl ?_ ?_ ?_
  · rintro i Hi _ rfl
    exact .inl (.inl (by rw [upd_ne (Ne.symm hD0), upd_same]))
  · rintro i xv Hi Hi' hlt rfl ⟨rfl, hx⟩
    rw [List.getElem?_map, Option.map_eq_some_iff] at hx
    obtain ⟨n, hn, rfl⟩ := hx
    refine ⟨?_, ?_⟩
    · rfl
    · refine ⟨_, rfl, .inl ⟨n, rfl, n, rfl, _, upd_same, ?_, ?_⟩⟩
      · rw [List.length_map, List.length_take]
        have := sizeLine_eq
        have h63 : (ns.take 63).length ≤ 63 := List.length_take_le _ _
        omega
      · rw [upd_upd]
        congr 2
        exact take_set (fun n => V.int (absI n)) (ns.take 63) i n hn
  · rintro Hn rfl
    have eC : ((ns.take 63).take ((ns.take 63).map V.int).length).map (fun n => V.int (absI n)) = (cellsOf (.pl o1v) ns).map V.int := by
      rw [List.length_map, List.take_length]
      unfold cellsOf
      rw [List.map_map]
      rfl
    rw [eC]
    refine ⟨_, rfl, _, rfl, .inl ⟨D, (cellsOf (.pl o1v) ns).map V.int, rfl, .inl (.inl (.inl upd_same)), _, (((cellsOf (.pl o1v) ns).map V.int).length : Int), rfl, rfl, ?_, fun p np => ?_⟩⟩
    · show 5 ≤ sizeLine
      decide
    · have hpD : p ≠ D := fun z => by rw [z, upd_same] at np; cases np
      rw [upd_ne hpD] at np
      have hp0 : p ≠ q0 := fun z => by rw [z, upd_same] at np; cases np
      rw [upd_ne hp0] at np
      have k1 : Same H (upd H q0 (.lst ((ns.take 63).map V.int))) := same_new n0
      have k2 := k1.trans (same_new (o := .lst ((cellsOf (.pl o1v) ns).map V.int)) nD)
      have nD' : (upd (upd H q0 (.lst ((ns.take 63).map V.int))) D (.lst ((cellsOf (.pl o1v) ns).map V.int))) p = none := by rw [upd_ne hpD, upd_ne hp0]; exact np
      refine q p D _ (k2.trans (same_new nD')) np nDH hpD ?_ ?_
      · rw [upd_same, List.length_map]
        rfl
      · rw [upd_ne (Ne.symm hpD), upd_same]
theorem hand_ok3 (F : FunD G.K x qual params body scope [] [] f fd) (hS : scB hN ["script"] scope = true) (hb : isHand3 k0 m0 scope body = true) (mA : G.mg "abs" = none) (mI : G.mg "int" = none) (mL : G.mg "len" = none) :
    FnOk G.P G.w G.K G.mg G.base (L2.CX G.P G.w) 3 f fd ["script"] (spHand (.pk k0 m0) G.K) := by
  have S := scB_ok hS
  refine F.ok S (fun vs H Q E h => ?_) fun cdv A outer s H vs Q E hr h => ?_
  · obtain ⟨a, ns, rfl, _⟩ := h
    rfl
  obtain ⟨a, ns, rfl, hq, q⟩ := h
  have X := okX (G := { G with ps := fun _ => [] }) (Φ := fun _ _ _ => .stuck) (qual := qual) (f := f) (cdv := cdv) (outer := outer) (s := s) (H := H) (E := E) (k := 0) (lm := false) S hr (fun f => ⟨fun vs H Q E h => h.1, fun A outer s H args us vs Q E hr e0 hb r h => by
    obtain ⟨_, ha, B, ds, hs, _, _, p⟩ := h
    exact p.elim⟩) (fun h => by cases h)
  unfold isHand3 at hb
  split at hb
  case h_2 => cases hb
  simp only [Bool.and_eq_true, decide_eq_true_eq] at hb
  obtain ⟨⟨rfl, rfl, rfl, rfl, rfl, rfl, rfl, rfl, rfl⟩, ⟨rfl, rfl, rfl, rfl, rfl, rfl, rfl, ko1, ko2⟩, ⟨b1, b2, b3, b4, b5, b6⟩, b7, b8, b9, b10⟩ := hb
  rename_i px0 pa pi pxc pint pabs pt ps j1 pc1 psl psub sc2 plc pas py1 j2 pz1 j3 pz2 o1v j4 po1 o2v j6 po2 pl py2 plen pmul pbin j5 pz3 plst pret
  have gl : ∀ {sc' : Scope} {y : Str}, glB sc' y = true → sc'.names.lookup y = some .globalImplicit := fun {sc' y} h => eq_of_beq (α := Option NameKind) h
  have vs : ∀ {sc' : Scope} {y : Str}, visB sc' y = true → Vis sc' y := fun {sc' y} h => by
    unfold visB at h
    rw [Bool.or_eq_true, Bool.or_eq_true] at h
    rcases h with h | h | h
    · exact .inl (eq_of_beq (α := Option NameKind) h)
    · exact .inr (.inl (eq_of_beq (α := Option NameKind) h))
    · exact .inr (.inr (eq_of_beq (α := Option NameKind) h))
  have lc : ∀ {sc' : Scope} {y : Str}, locB sc' y = true → Loc sc' y := fun {sc' y} h => by
    unfold locB at h
    rw [Bool.or_eq_true] at h
    rcases h with h | h
    · exact .inl (eq_of_beq (α := Option NameKind) h)
    · exact .inr (eq_of_beq (α := Option NameKind) h)
  -- the first statement's rule
  have nd : (hN : List Str).Nodup := S.nd
  have r0 : ∀ pos, PE (cxOf (L2.CX G.P G.w) G.P G.w G.K G.mg G.base hN qual scope f cdv A outer s H E) (.Name ("script" : Str) pos) (tVar 0) := fun pos => pe_var (i := 0) rfl (vs b7) (by decide) (by decide)
  have r1 : ∀ pos, PE (cxOf (L2.CX G.P G.w) G.P G.w G.K G.mg G.base hN qual scope f cdv A outer s H E) (.Name ("cells" : Str) pos) (tVar 1) := fun pos => pe_var (i := 1) rfl (vs b9) (by decide) (by decide)
  have inn := fun (s' : Shared) (H' : Hp) (C : Addr) (cl : List (Str × Addr)) (fp : List Addr) => X.inn sc2 s' H' C cl fp
  have hi := fun tg => pi_list (tg := tg) (pe_slice (pos := psub) (p2 := psl) sl_list (r0 ps) po_none (po_some (te := tC (.int 63)) (pe_int (j := j1) (pos := pc1))))
  have he : ∀ (s' : Shared) (H' : Hp) (C : Addr) (cl : List (Str × Addr)) (fp : List Addr), PE ((cxOf (L2.CX G.P G.w) G.P G.w G.K G.mg G.base hN qual scope f cdv A outer s H E).blk s' H' sc2 (compEnvC sc2 cl C (cxOf (L2.CX G.P G.w) G.P G.w G.K G.mg G.base hN qual scope f cdv A outer s H E).env) fp) (.Call (.Name ("abs" : Str) pa) [.Call (.Name ("int" : Str) pi) [.Name ("cell" : Str) pxc] [] pint] [] pabs)
      (tCB (rBi G.K .abs) (tCons (tCB (rBi G.K .int) (tCons (tVar 2) tNil)) tNil)) := fun s' H' C cl fp =>
    pe_bi (b := .abs) call_abs ((inn s' H' C cl fp).gl (gl b2)) mA (pa_cons (pe_bi (b := .int) call_int1 ((inn s' H' C cl fp).gl (gl b3)) mI (pa_cons (pe_var (i := 2) rfl ((inn s' H' C cl fp).vis (vs b4)) (by decide) (by decide)) pa_nil) rfl rfl) pa_nil) rfl rfl
  have hg : ∀ (s' : Shared) (H' : Hp) (C : Addr) (cl : List (Str × Addr)) (fp : List Addr), PG ((cxOf (L2.CX G.P G.w) G.P G.w G.K G.mg G.base hN qual scope f cdv A outer s H E).blk s' H' sc2 (compEnvC sc2 cl C (cxOf (L2.CX G.P G.w) G.P G.w G.K G.mg G.base hN qual scope f cdv A outer s H E).env) fp) (.Name ("cell" : Str) pt) (gName 2) := fun s' H' C cl fp =>
    pg_name nd rfl (by rw [(inn s' H' C cl fp).eS]; exact lc b5) (by rw [(inn s' H' C cl fp).eS]; exact (inn s' H' C cl fp).fnl _ b6)
  have bk : BlkOk hN scope sc2 [(("cell" : Str), 2)] := blkOk_by b1
  have st1 : PS (cxOf (L2.CX G.P G.w) G.P G.w G.K G.mg G.base hN qual scope f cdv A outer s H E) (.Assign [.Name ("cells" : Str) px0] (.ListComp (.Call (.Name ("abs" : Str) pa) [.Call (.Name ("int" : Str) pi) [.Name ("cell" : Str) pxc] [] pint] [] pabs) [⟨.Name ("cell" : Str) pt, .Subscript (.Name ("script" : Str) ps) (.Slice none (some (.Constant (.int 63) j1 pc1)) none psl) psub, [], 0⟩] sc2 plc) pas)
      (tAsg (tLc (iList G.K (tSl (rSlL G.K) (tVar 0) tNoPart (tPart (tC (.int 63))))) (gName 2) tYes (tCB (rBi G.K .abs) (tCons (tCB (rBi G.K .int) (tCons (tVar 2) tNil)) tNil)) [2]) (gName 1)) := by
    cases hw : swB scope ("cells" : Str) px0.line plc.line sc2 with
    | true =>
      have hl : scope.names.lookup ("cells" : Str) = some .local := by
        unfold swB at hw
        simp only [Bool.and_eq_true] at hw
        exact eq_of_beq (α := Option NameKind) hw.1.1.2
      exact ps_setLc rfl nd rfl hl (by rw [swB_ok]; exact congrArg pure hw) (hi _) bk hg (fun _ _ _ _ _ => pts_nil) he
    | false => exact ps_set nd rfl (lc b8) (pe_lc rfl nd (hi _) bk hg (fun _ _ _ _ _ => pts_nil) he) (by rw [swB_ok]; exact congrArg pure hw) (.inl rfl)
  refine ⟨_, pss_cons st1 (pss_one (ps_ret (pe_lst (pa_cons (r1 py1) (pa_cons pe_int (pa_cons pe_int (pa_cons (pe_op op_add pe_int (pe_op op_mul pe_int (pe_lenN (gl b10) mL (r1 py2)))) (pa_cons pe_int pa_nil)))))))), ?_⟩
  -- what it computes
  have eZ : cutV (ns.map V.int) none (some 63) = (ns.take 63).map V.int := by
    unfold cutV
    show ((ns.map V.int).drop 0).take (min 63 (ns.map V.int).length - 0) = _
    rw [List.drop_zero, Nat.sub_zero, ← List.map_take]
    congr 1
    rw [List.length_map]
    by_cases h : ns.length ≤ 63
    · rw [Nat.min_eq_right h, List.take_length, List.take_of_length_le h]
    · rw [Nat.min_eq_left (by omega)]
  refine ⟨.ref a, rfl, 63, rfl, a, ns.map V.int, rfl, hq, fun q0 n0 => ?_⟩
  rw [eZ]
  refine ⟨q0, rfl, ⟨_, .inl (.inl upd_same)⟩, fun D nD => ?_⟩
  have hD0 : D ≠ q0 := fun z => by rw [z, upd_same] at nD; cases nD
  have nDH : H D = none := by rwa [upd_ne hD0] at nD
  refine lc_it (walk_list (xs := (ns.take 63).map V.int)) (fun i Hi => Hi = upd (upd H q0 (.lst ((ns.take 63).map V.int))) D (.lst (((ns.take 63).take i).map fun n => V.int (absI n)))) rfl ?_ ?_ ?_
  · rintro i Hi _ rfl
    exact .inl (.inl (by rw [upd_ne (Ne.symm hD0), upd_same]))
  · rintro i xv Hi Hi' hlt rfl ⟨rfl, hx⟩
    rw [List.getElem?_map, Option.map_eq_some_iff] at hx
    obtain ⟨n, hn, rfl⟩ := hx
    refine ⟨?_, ?_⟩
    · rfl
    · refine ⟨_, rfl, .inl ⟨n, rfl, n, rfl, _, upd_same, ?_, ?_⟩⟩
      · rw [List.length_map, List.length_take]
        have := sizeLine_eq
        have h63 : (ns.take 63).length ≤ 63 := List.length_take_le _ _
        omega
      · rw [upd_upd]
        congr 2
        exact take_set (fun n => V.int (absI n)) (ns.take 63) i n hn
  · rintro Hn rfl
    have eC : ((ns.take 63).take ((ns.take 63).map V.int).length).map (fun n => V.int (absI n)) = (cellsOf (.pk o2v o1v) ns).map V.int := by
      rw [List.length_map, List.take_length]
      unfold cellsOf
      rw [List.map_map]
      rfl
    rw [eC]
    refine ⟨_, rfl, _, rfl, .inl ⟨D, (cellsOf (.pk o2v o1v) ns).map V.int, rfl, .inl (.inl (.inl upd_same)), o2v, (((cellsOf (.pk o2v o1v) ns).map V.int).length : Int), rfl, rfl, .inl ⟨by omega, by omega⟩, _, _, rfl, rfl, ?_, fun p np => ?_⟩⟩
    · show 5 ≤ sizeLine
      decide
    · have hpD : p ≠ D := fun z => by rw [z, upd_same] at np; cases np
      rw [upd_ne hpD] at np
      have hp0 : p ≠ q0 := fun z => by rw [z, upd_same] at np; cases np
      rw [upd_ne hp0] at np
      have k1 : Same H (upd H q0 (.lst ((ns.take 63).map V.int))) := same_new n0
      have k2 := k1.trans (same_new (o := .lst ((cellsOf (.pk o2v o1v) ns).map V.int)) nD)
      have nD' : (upd (upd H q0 (.lst ((ns.take 63).map V.int))) D (.lst ((cellsOf (.pk o2v o1v) ns).map V.int))) p = none := by rw [upd_ne hpD, upd_ne hp0]; exact np
      refine q p D _ (k2.trans (same_new nD')) np nDH hpD ?_ ?_
      · rw [upd_same, List.length_map]
        rfl
      · rw [upd_ne (Ne.symm hpD), upd_same]
theorem hand_ok2 (F : FunD G.K x qual params body scope [] [] f fd) (hS : scB hN ["script"] scope = true) (hb : isHand2 m0 scope body = true) (mA : G.mg "abs" = none) (mI : G.mg "int" = none) (mL : G.mg "len" = none) :
    FnOk G.P G.w G.K G.mg G.base (L2.CX G.P G.w) 3 f fd ["script"] (spHand (.md m0) G.K) := by
  have S := scB_ok hS
  refine F.ok S (fun vs H Q E h => ?_) fun cdv A outer s H vs Q E hr h => ?_
  · obtain ⟨a, ns, rfl, _⟩ := h
    rfl
  obtain ⟨a, ns, rfl, hq, q⟩ := h
  have X := okX (G := { G with ps := fun _ => [] }) (Φ := fun _ _ _ => .stuck) (qual := qual) (f := f) (cdv := cdv) (outer := outer) (s := s) (H := H) (E := E) (k := 0) (lm := false) S hr (fun f => ⟨fun vs H Q E h => h.1, fun A outer s H args us vs Q E hr e0 hb r h => by
    obtain ⟨_, ha, B, ds, hs, _, _, p⟩ := h
    exact p.elim⟩) (fun h => by cases h)
  unfold isHand2 at hb
  split at hb
  case h_2 => cases hb
  simp only [Bool.and_eq_true, decide_eq_true_eq] at hb
  obtain ⟨⟨rfl, rfl, rfl, rfl, rfl, rfl, rfl, rfl, rfl, rfl⟩, ⟨rfl, rfl, rfl, rfl, rfl, rfl, rfl, rfl, rfl⟩, ⟨b1, b2, b3, b4, b5, b6⟩, b7, b8, b9, b10⟩ := hb
  rename_i px0 pi2 pa pi pxc pint pabs pint2 jt1 pt1 jt2 pt2 ppow pmod pt ps j1 pc1 psl psub sc2 plc pas py1 j2 pz1 j3 pz2 o1v j4 po1 jo2 po2 pl py2 plen pmul pbin j5 pz3 plst pret
  have gl : ∀ {sc' : Scope} {y : Str}, glB sc' y = true → sc'.names.lookup y = some .globalImplicit := fun {sc' y} h => eq_of_beq (α := Option NameKind) h
  have vs : ∀ {sc' : Scope} {y : Str}, visB sc' y = true → Vis sc' y := fun {sc' y} h => by
    unfold visB at h
    rw [Bool.or_eq_true, Bool.or_eq_true] at h
    rcases h with h | h | h
    · exact .inl (eq_of_beq (α := Option NameKind) h)
    · exact .inr (.inl (eq_of_beq (α := Option NameKind) h))
    · exact .inr (.inr (eq_of_beq (α := Option NameKind) h))
  have lc : ∀ {sc' : Scope} {y : Str}, locB sc' y = true → Loc sc' y := fun {sc' y} h => by
    unfold locB at h
    rw [Bool.or_eq_true] at h
    rcases h with h | h
    · exact .inl (eq_of_beq (α := Option NameKind) h)
    · exact .inr (eq_of_beq (α := Option NameKind) h)
  -- the first statement's rule
  have nd : (hN : List Str).Nodup := S.nd
  have r0 : ∀ pos, PE (cxOf (L2.CX G.P G.w) G.P G.w G.K G.mg G.base hN qual scope f cdv A outer s H E) (.Name ("script" : Str) pos) (tVar 0) := fun pos => pe_var (i := 0) rfl (vs b7) (by decide) (by decide)
  have r1 : ∀ pos, PE (cxOf (L2.CX G.P G.w) G.P G.w G.K G.mg G.base hN qual scope f cdv A outer s H E) (.Name ("cells" : Str) pos) (tVar 1) := fun pos => pe_var (i := 1) rfl (vs b9) (by decide) (by decide)
  have inn := fun (s' : Shared) (H' : Hp) (C : Addr) (cl : List (Str × Addr)) (fp : List Addr) => X.inn sc2 s' H' C cl fp
  have hi := fun tg => pi_list (tg := tg) (pe_slice (pos := psub) (p2 := psl) sl_list (r0 ps) po_none (po_some (te := tC (.int 63)) (pe_int (j := j1) (pos := pc1))))
  have he : ∀ (s' : Shared) (H' : Hp) (C : Addr) (cl : List (Str × Addr)) (fp : List Addr), PE ((cxOf (L2.CX G.P G.w) G.P G.w G.K G.mg G.base hN qual scope f cdv A outer s H E).blk s' H' sc2 (compEnvC sc2 cl C (cxOf (L2.CX G.P G.w) G.P G.w G.K G.mg G.base hN qual scope f cdv A outer s H E).env) fp) (.BinOp (.Call (.Name ("int" : Str) pi2) [.Call (.Name ("abs" : Str) pa) [.Call (.Name ("int" : Str) pi) [.Name ("cell" : Str) pxc] [] pint] [] pabs] [] pint2) .Mod (.BinOp (.Constant (.int 10) jt1 pt1) .Pow (.Constant (.int 36) jt2 pt2) ppow) pmod)
      (tOp (rI (fun _ j => j ≠ 0) fun i j => .int (i.fmod j)) (tCB (rBi G.K .int) (tCons (tCB (rBi G.K .abs) (tCons (tCB (rBi G.K .int) (tCons (tVar 2) tNil)) tNil)) tNil)) (tOp (rI CPow fun i j => .int (i ^ j.toNat)) (tC (.int 10)) (tC (.int 36)))) := fun s' H' C cl fp =>
    pe_op op_modN (pe_bi (b := .int) call_int1 ((inn s' H' C cl fp).gl (gl b3)) mI (pa_cons (pe_bi (b := .abs) call_abs ((inn s' H' C cl fp).gl (gl b2)) mA (pa_cons (pe_bi (b := .int) call_int1 ((inn s' H' C cl fp).gl (gl b3)) mI (pa_cons (pe_var (i := 2) rfl ((inn s' H' C cl fp).vis (vs b4)) (by decide) (by decide)) pa_nil) rfl rfl) pa_nil) rfl rfl) pa_nil) rfl rfl) (pe_op op_pow pe_int pe_int)
  have hg : ∀ (s' : Shared) (H' : Hp) (C : Addr) (cl : List (Str × Addr)) (fp : List Addr), PG ((cxOf (L2.CX G.P G.w) G.P G.w G.K G.mg G.base hN qual scope f cdv A outer s H E).blk s' H' sc2 (compEnvC sc2 cl C (cxOf (L2.CX G.P G.w) G.P G.w G.K G.mg G.base hN qual scope f cdv A outer s H E).env) fp) (.Name ("cell" : Str) pt) (gName 2) := fun s' H' C cl fp =>
    pg_name nd rfl (by rw [(inn s' H' C cl fp).eS]; exact lc b5) (by rw [(inn s' H' C cl fp).eS]; exact (inn s' H' C cl fp).fnl _ b6)
  have bk : BlkOk hN scope sc2 [(("cell" : Str), 2)] := blkOk_by b1
  have st1 : PS (cxOf (L2.CX G.P G.w) G.P G.w G.K G.mg G.base hN qual scope f cdv A outer s H E) (.Assign [.Name ("cells" : Str) px0] (.ListComp (.BinOp (.Call (.Name ("int" : Str) pi2) [.Call (.Name ("abs" : Str) pa) [.Call (.Name ("int" : Str) pi) [.Name ("cell" : Str) pxc] [] pint] [] pabs] [] pint2) .Mod (.BinOp (.Constant (.int 10) jt1 pt1) .Pow (.Constant (.int 36) jt2 pt2) ppow) pmod) [⟨.Name ("cell" : Str) pt, .Subscript (.Name ("script" : Str) ps) (.Slice none (some (.Constant (.int 63) j1 pc1)) none psl) psub, [], 0⟩] sc2 plc) pas)
      (tAsg (tLc (iList G.K (tSl (rSlL G.K) (tVar 0) tNoPart (tPart (tC (.int 63))))) (gName 2) tYes (tOp (rI (fun _ j => j ≠ 0) fun i j => .int (i.fmod j)) (tCB (rBi G.K .int) (tCons (tCB (rBi G.K .abs) (tCons (tCB (rBi G.K .int) (tCons (tVar 2) tNil)) tNil)) tNil)) (tOp (rI CPow fun i j => .int (i ^ j.toNat)) (tC (.int 10)) (tC (.int 36)))) [2]) (gName 1)) := by
    cases hw : swB scope ("cells" : Str) px0.line plc.line sc2 with
    | true =>
      have hl : scope.names.lookup ("cells" : Str) = some .local := by
        unfold swB at hw
        simp only [Bool.and_eq_true] at hw
        exact eq_of_beq (α := Option NameKind) hw.1.1.2
      exact ps_setLc rfl nd rfl hl (by rw [swB_ok]; exact congrArg pure hw) (hi _) bk hg (fun _ _ _ _ _ => pts_nil) he
    | false => exact ps_set nd rfl (lc b8) (pe_lc rfl nd (hi _) bk hg (fun _ _ _ _ _ => pts_nil) he) (by rw [swB_ok]; exact congrArg pure hw) (.inl rfl)
  refine ⟨_, pss_cons st1 (pss_one (ps_ret (pe_lst (pa_cons (r1 py1) (pa_cons pe_int (pa_cons pe_int (pa_cons (pe_op op_add pe_int (pe_op op_mul pe_int (pe_lenN (gl b10) mL (r1 py2)))) (pa_cons pe_int pa_nil)))))))), ?_⟩
  -- what it computes
  have eZ : cutV (ns.map V.int) none (some 63) = (ns.take 63).map V.int := by
    unfold cutV
    show ((ns.map V.int).drop 0).take (min 63 (ns.map V.int).length - 0) = _
    rw [List.drop_zero, Nat.sub_zero, ← List.map_take]
    congr 1
    rw [List.length_map]
    by_cases h : ns.length ≤ 63
    · rw [Nat.min_eq_right h, List.take_length, List.take_of_length_le h]
    · rw [Nat.min_eq_left (by omega)]
  refine ⟨.ref a, rfl, 63, rfl, a, ns.map V.int, rfl, hq, fun q0 n0 => ?_⟩
  rw [eZ]
  refine ⟨q0, rfl, ⟨_, .inl (.inl upd_same)⟩, fun D nD => ?_⟩
  have hD0 : D ≠ q0 := fun z => by rw [z, upd_same] at nD; cases nD
  have nDH : H D = none := by rwa [upd_ne hD0] at nD
  refine lc_it (walk_list (xs := (ns.take 63).map V.int)) (fun i Hi => Hi = upd (upd H q0 (.lst ((ns.take 63).map V.int))) D (.lst (((ns.take 63).take i).map fun n => V.int (cellOf (.md o1v) n)))) rfl ?_ ?_ ?_
  · rintro i Hi _ rfl
    exact .inl (.inl (by rw [upd_ne (Ne.symm hD0), upd_same]))
  · rintro i xv Hi Hi' hlt rfl ⟨rfl, hx⟩
    rw [List.getElem?_map, Option.map_eq_some_iff] at hx
    obtain ⟨n, hn, rfl⟩ := hx
    refine ⟨?_, ?_⟩
    · rfl
    · refine ⟨_, rfl, .inl ⟨n, rfl, n, rfl, .inl ⟨_, rfl, 10, 36, rfl, rfl, ⟨by decide, by decide, by decide⟩, _, _, rfl, rfl, (show ((10 : Int) ^ Int.toNat 36) ≠ 0 by decide), _, upd_same, ?_, ?_⟩⟩⟩
      · rw [List.length_map, List.length_take]
        have := sizeLine_eq
        have h63 : (ns.take 63).length ≤ 63 := List.length_take_le _ _
        omega
      · rw [upd_upd]
        congr 2
        exact take_set (fun n => V.int (cellOf (.md o1v) n)) (ns.take 63) i n hn
  · rintro Hn rfl
    have eC : ((ns.take 63).take ((ns.take 63).map V.int).length).map (fun n => V.int (cellOf (.md o1v) n)) = (cellsOf (.md o1v) ns).map V.int := by
      rw [List.length_map, List.take_length]
      unfold cellsOf
      rw [List.map_map]
      rfl
    rw [eC]
    refine ⟨_, rfl, _, rfl, .inl ⟨D, (cellsOf (.md o1v) ns).map V.int, rfl, .inl (.inl (.inl upd_same)), 7, (((cellsOf (.md o1v) ns).map V.int).length : Int), rfl, rfl, .inl ⟨by decide, by decide⟩, _, _, rfl, rfl, ?_, fun p np => ?_⟩⟩
    · show 5 ≤ sizeLine
      decide
    · have hpD : p ≠ D := fun z => by rw [z, upd_same] at np; cases np
      rw [upd_ne hpD] at np
      have hp0 : p ≠ q0 := fun z => by rw [z, upd_same] at np; cases np
      rw [upd_ne hp0] at np
      have k1 : Same H (upd H q0 (.lst ((ns.take 63).map V.int))) := same_new n0
      have k2 := k1.trans (same_new (o := .lst ((cellsOf (.md o1v) ns).map V.int)) nD)
      have nD' : (upd (upd H q0 (.lst ((ns.take 63).map V.int))) D (.lst ((cellsOf (.md o1v) ns).map V.int))) p = none := by rw [upd_ne hpD, upd_ne hp0]; exact np
      refine q p D _ (k2.trans (same_new nD')) np nDH hpD ?_ ?_
      · rw [upd_same, List.length_map]
        rfl
      · rw [upd_ne (Ne.symm hpD), upd_same]
theorem hand_ok {m0 : Hd} (F : FunD G.K x qual params body scope [] [] f fd) (hS : scB hN ["script"] scope = true) (hb : isHand m0 scope body = true) (mA : G.mg "abs" = none) (mI : G.mg "int" = none) (mL : G.mg "len" = none) :
    FnOk G.P G.w G.K G.mg G.base (L2.CX G.P G.w) 3 f fd ["script"] (spHand m0 G.K) := by
  cases m0 with
  | pl m => exact hand_ok1 F hS hb mA mI mL
  | md m => exact hand_ok2 F hS hb mA mI mL
  | pk k m => exact hand_ok3 F hS hb mA mI mL
end
end PD

set_option Elab.async false
set_option linter.all false
set_option maxRecDepth 100000
set_option maxHeartbeats 2000000
/-! P21: the law's own def, and the facts of a head. -/
namespace PD
open PySem PySem.Spec PyProof.Rows L2 RZ
/-- the drawn hand, as it begins -/
def hand0 (m0 : Hd) (ns : List Int) : HS := [.lst ((cellsOf m0 ns).map D.int), .int 0, .int 0, .int (startOf m0 (cellsOf m0 ns).length), .int 0]
def spLaw (K : PySem.W.Frag) (T : List (Addr × Str)) : Sp := fun vs H Q _ => ∃ (a : Addr) (ns : List Int), vs = [.ref a] ∧ ns.length ≤ 63 ∧ (∀ z ∈ ns, Builtin.Int.intBits z ≤ 1048576) ∧ SqL K H a (ns.map V.int) ∧ LamX.Tabs T H ∧ ∀ H', Q (.bl true) H'
/-- the law's first line -/
def isLaw (hx hf : Str) (sc : Scope) : List Stmt → Bool
  | .Assign [.Name x _] (.Call (.Name y _) [.Name z _] [] _) _ :: _ => (decide (x = hx) && (decide (y = hf) && decide (z = ("script" : Str)))) && ((locB sc hx && (glB sc hf && visB sc ("script" : Str))) && okNm hf)
  | _ => false
def restOf : List Stmt → List Stmt
  | _ :: r => r
  | [] => []
/-- the law's small program says True at each script -/
def LawTrue (wd : List WordX) (m0 : Hd) (dx : List DefX) (d : DefX) : Prop := ∀ ns : List Int, ns.length ≤ 63 → (∀ z ∈ ns, Builtin.Int.intBits z ≤ 1048576) →
  ∃ hs, denMs (PhiL wd (dx.map DefX.t).reverse) (psiOf wd) noThk d.b (.no :: .val .hnd :: List.replicate (d.N.length - 2) .no) (hand0 m0 ns) = .ok (.rt (.bl true)) hs
theorem reps_ints {G : Cfg} {ha : Addr} {B : Addr → Prop} {H : Hp} : ∀ (ns : List Int), Reps G ha B H (ns.map D.int) (ns.map V.int)
  | [] => .nil
  | n :: ns => .cons (by simp only [Rep]) (reps_ints ns)
theorem law_ok {G : Cfg} {K : CE} {m0 : Hd} {hx hf : Str} {dx : List DefX} {d : DefX} {f fh : Addr} {fd fdh : FuncData} {xh qh : Str} {ph : Arguments} {bh : List Stmt} {sh : Scope} (T : Tab G K dx)
    (F : FunD G.K d.x d.x d.params d.body d.scope [] [] f fd) (hlm : d.lm = true → LamD G d.x fd) (hps : d.ps = [("script" : Str)]) (hS : scB d.N d.ps d.scope = true) (hN : d.N.take 2 = [("script" : Str), hx]) (hl : isLaw hx hf d.scope d.body = true) (hc : chkB (K.at d.N d.lm) d.scope (restOf d.body) d.b = true)
    (FH : FunD G.K xh qh ph bh sh [] [] fh fdh) (hSh : scB PD.hN ["script"] sh = true) (hbh : isHand m0 sh bh = true) (mA : G.mg "abs" = none) (mI : G.mg "int" = none) (mL : G.mg "len" = none) (mH : G.mg hf = some (.ref fh)) (bH : Binds G.K fdh ["script"] [])
    (ht : LawTrue G.wd m0 dx d) : FnOk G.P G.w G.K G.mg G.base (L2.CX G.P G.w) (3 * dx.length + 4) f fd ["script"] (spLaw G.K G.T) := by
  have S := scB_ok hS
  rw [hps] at S
  have hand := hand_ok FH hSh hbh mA mI mL
  obtain ⟨oc, od, dV, kV, doc, pm, an, cdv, ct, osl, efd, lk, hcd, _, _⟩ := F.ex
  rw [efd] at lk hlm ⊢
  refine fn_of (k := 3 * dx.length + 3) lk hcd S (fun vs H Q E h => ?_) fun A outer s H vs Q E hr h => ?_
  · obtain ⟨a, ns, rfl, _⟩ := h
    rfl
  obtain ⟨a, ns, rfl, hlen, hbits, hq, hT, q⟩ := h
  have hF := tabs_all T dx.length (Nat.le_refl _)
  rw [List.take_length] at hF
  have X := okX (G := G) (Φ := PhiL G.wd (dx.map DefX.t).reverse) (qual := d.x) (f := f) (cdv := cdv) (outer := outer) (s := s) (H := H) (E := E) (k := 3 * dx.length) (lm := d.lm) S (hr.mono (by omega)) hF (fun h => by
    obtain ⟨c, ec⟩ := He.codeIn_ref hcd
    obtain ⟨P, q⟩ := hlm h c ec
    exact ⟨c, P, ec, q⟩)
  have ar := phi_ar (G := G) (wd := G.wd) (fun f d hd => (T.ok f d hd).2.1) dx.length (Nat.le_refl _)
  rw [List.take_length] at ar
  have FF : Fits (K.at d.N d.lm) (dC G (PhiL G.wd (dx.map DefX.t).reverse) d.N d.scope E (3 * dx.length) d.lm) d.scope (fun _ => true) := fits_d T ar
  obtain ⟨t, pt, qt⟩ := chkB_ok FF hc
  have hN0 : d.N[0]? = some ("script" : Str) := by
    have z := congrArg (fun l : List Str => l[0]?) hN
    simpa [List.getElem?_take] using z
  have hN1 : d.N[1]? = some hx := by
    have z := congrArg (fun l : List Str => l[1]?) hN
    simpa [List.getElem?_take] using z
  have hNl : 2 ≤ d.N.length := by
    have := (List.getElem?_eq_some_iff.mp hN1).1
    omega
  unfold isLaw at hl
  split at hl
  case h_2 => cases hl
  rename_i x1 p1 y1 p2 z1 p3 p4 p5 rest ebody
  simp only [Bool.and_eq_true, decide_eq_true_eq] at hl
  obtain ⟨⟨rfl, rfl, rfl⟩, ⟨l1, l2, l3⟩, l4⟩ := hl
  have er : restOf d.body = rest := by rw [ebody]; rfl
  rw [er] at pt
  rw [ebody]
  have vs3 : Vis d.scope ("script" : Str) := by
    unfold visB at l3
    rw [Bool.or_eq_true, Bool.or_eq_true] at l3
    rcases l3 with h | h | h
    · exact .inl (eq_of_beq (α := Option NameKind) h)
    · exact .inr (.inl (eq_of_beq (α := Option NameKind) h))
    · exact .inr (.inr (eq_of_beq (α := Option NameKind) h))
  have lc1 : Loc d.scope x1 := by
    unfold locB at l1
    rw [Bool.or_eq_true] at l1
    rcases l1 with h | h
    · exact .inl (eq_of_beq (α := Option NameKind) h)
    · exact .inr (eq_of_beq (α := Option NameKind) h)
  have gl2 : d.scope.names.lookup y1 = some .globalImplicit := eq_of_beq (α := Option NameKind) l2
  have hand1 := hand.mono (k := 3 * dx.length + 3) (by omega)
  have st1 : PS (cxOf (L2.CX G.P G.w) G.P G.w G.K G.mg G.base d.N d.x d.scope f cdv A outer s H E) (.Assign [.Name x1 p1] (.Call (.Name y1 p2) [.Name ("script" : Str) p3] [] p4) p5) (tAsg (tCall (spHand m0 G.K) [] E (tCons (tVar 0) tNil)) (gName 1)) :=
    ps_set S.nd hN1 lc1 (pe_call (k := 3 * dx.length + 3) hand1 hr gl2 mH FH.kp bH .nil X.px (pa_cons (pe_var hN0 vs3 (by decide) (by decide)) pa_nil) (okNm_ok l4).1) rfl (.inl rfl)
  refine ⟨_, pss_cons st1 (pt _ X), ?_⟩
  have e0 : (L2.start d.N [V.ref a])[0]? = some (some (.ref a)) := rfl
  refine ⟨.ref a, e0, a, ns, rfl, hq, fun p Dd H' sm np nD hpD e1 e2 => ?_⟩
  show t { nx := fun _ H' => Q .non H', rt := Q } ((L2.start d.N [V.ref a]).set 1 (some (.ref p))) H'
  have eσ : (L2.start d.N [V.ref a]).set 1 (some (.ref p)) = some (.ref a) :: some (.ref p) :: List.replicate (d.N.length - 2) none := by
    unfold L2.start
    obtain ⟨m, hm⟩ : ∃ m, d.N.length = m + 2 := ⟨d.N.length - 2, by omega⟩
    rw [hm]
    show (some (V.ref a) :: List.replicate (m + 1) none).set 1 (some (.ref p)) = _
    rw [List.replicate_succ]
    rfl
  rw [eσ]
  have hh : Hnd G p (fun b => b = p) H' (hand0 m0 ns) := by
    refine ⟨rfl, ⟨_, e1, ?_⟩, fun b (z : b = p) => ⟨.lst [.ref Dd, .int 0, .int 0, .int (startOf m0 (cellsOf m0 ns).length), .int 0], by rw [z]; exact e1, nt_lst⟩, hT.ext sm⟩
    refine .cons ?_ (.cons (by simp only [Rep]) (.cons (by simp only [Rep]) (.cons (by simp only [Rep]) (.cons (by simp only [Rep]) .nil))))
    simp only [Rep]
    exact ⟨Dd, _, rfl, fun z => hpD z.symm, e2, reps_ints _⟩
  have SS : SSim G p (fun b => b = p) (fun b => b = p) H' (fun _ => none) (.no :: .val .hnd :: List.replicate (d.N.length - 2) .no) (hand0 m0 ns) (some (.ref a) :: some (.ref p) :: List.replicate (d.N.length - 2) none) H' := by
    refine ⟨fun i j a h => (nomatch h), fun i a h => (nomatch h), .refl, rfl, rfl, ⟨by simp, fun i sl e => ?_, hh.sub (.inl rfl) fun b z => z.elim id fun ⟨i, y⟩ => (nomatch y)⟩, fun i d' e => ?_, fun i a h => (nomatch h)⟩
    · match i with
      | 0 => cases e; trivial
      | 1 => cases e; exact ⟨_, rfl, by simp only [Rep]⟩
      | i + 2 =>
        simp only [List.getElem?_cons_succ, List.getElem?_replicate] at e
        split at e
        · cases e; trivial
        · cases e
    · match i with
      | 0 => cases e
      | 1 => cases e
      | i + 2 =>
        simp only [List.getElem?_cons_succ, List.getElem?_replicate] at e
        split at e <;> cases e
  refine qt p _ _ H' _ _ _ _ H' _ SS ?_
  obtain ⟨hs, e⟩ := ht ns hlen hbits
  show SPost G p (fun b => b = p) (fun b => b = p) H' _ E (denMs _ _ _ d.b _ _)
  rw [e]
  intro v H2 k hh2 r
  simp only [Rep] at r
  subst r
  exact q H2

/-! ### an own class with a number -/
def oexB (K : PySem.W.Frag) (C : Addr) : Bool := (match K.lookup C with
  | some ⟨.type "type", _, .cls cd, sl⟩ => (match cd.mro, sl.toList with
    | .ref C' :: bm, [_, _, _, _, some (.builtin n), _] => decide (C' = C) && (decide (n = "ValueError.__new__") && ((!cd.hasDel && cd.hasDict) && PySem.HandSPX.refsVE bm))
    | _, _ => false)
  | _ => false) && (decide (PySem.W.findIn K (.ref C) "__setattr__" = some (some (.builtin "object.__setattr__"))) && (decide (PySem.W.subIn K (.ref C) (.type "BaseException") = some true) && (decide (PySem.W.typeIn K (.ref C) = some (.type "type")) && PySem.W.keepIn K (.ref C))))
theorem oexB_ok {K : PySem.W.Frag} {C : Addr} (h : oexB K C = true) : OexC K C := by
  unfold oexB at h
  simp only [Bool.and_eq_true, decide_eq_true_eq] at h
  obtain ⟨h0, h1, h2, h3, h4⟩ := h
  refine ⟨?_, h1, h2, h3, h4⟩
  split at h0
  · rename_i dd cd sl ho
    split at h0
    · rename_i C' bm k0 k1 k2 k3 n k5 hm hs
      simp only [Bool.and_eq_true, decide_eq_true_eq, Bool.not_eq_true'] at h0
      obtain ⟨rfl, rfl, ⟨hdel, hdc⟩, hv⟩ := h0
      obtain ⟨nm, bs, mro, ns, qn, hd, sn, sub, ab, col, del⟩ := cd
      dsimp only at hm hdel hdc
      subst hm hdel hdc
      have hsl : sl = #[k0, k1, k2, k3, some (.builtin "ValueError.__new__"), k5] := by
        obtain ⟨l⟩ := sl
        simp only at hs
        rw [hs]
      subst hsl
      exact ⟨nm, qn, ns, bs, bm, sn, sub, ab, col, dd, k0, k1, k2, k3, k5, ho, hv⟩
    · cases h0
  · cases h0
def xisB (K : PySem.W.Frag) (C : Addr) : Bool := ((PySem.W.clsIn K C).isSome && (decide (PySem.W.findIn K (.ref C) "__getattribute__" = some (some (.builtin "BaseException.__getattribute__"))) && (decide (PySem.W.findIn K (.ref C) "__getattr__" = some none) &&
  (decide (PySem.W.subIn K (.ref C) (.type "BaseException") = some true) && decide (PySem.W.findIn K (.ref C) "__class__" = some (some (.builtin "object.__class__"))))))) &&
  (decide (PySem.W.specialIn K (.builtin "object.__class__") "__get__" = some (some (.builtin "getset_descriptor.__get__"))) && (decide (PySem.W.takesIn K (.builtin "object.__class__") = some true) && (decide (PySem.W.mroIn K C (.type "object") = some true) && (PySem.W.hasDictIn K C && decide (PySem.W.findIn K (.ref C) ("most" : Str) = some none)))))
theorem xisB_ok {K : PySem.W.Frag} {C : Addr} (h : xisB K C = true) : XIs K C := by
  unfold xisB at h
  simp only [Bool.and_eq_true, decide_eq_true_eq] at h
  obtain ⟨⟨h1, h2, h3, h4, h5⟩, h6, h7, h8, h9, h10⟩ := h
  exact ⟨h1, h2, h3, h4, h5, h6, h7, h8, h9, h10⟩
/-- the value of class k -/
def cvOf (K : PySem.W.Frag) (xn : List Str) (k : Nat) : Value := if k = 0 then .type "ValueError" else .ref (He.ga K (xn.getD k Str.empty))
/-- class k, raised -/
def rsB (K : PySem.W.Frag) (xa xb : List Nat) (k : Nat) (C : Addr) : Bool := (PySem.W.keepIn K (.ref C) && (decide (PySem.W.subIn K (.ref C) (.type "BaseException") = some true) && decide (PySem.W.typeIn K (.ref C) = some (.type "type")))) &&
  ((xa.contains k && PySem.W.excIn K C PySem.HandSPX.veTail "ValueError.__new__") || (xb.contains k && (!PySem.W.excIn K C PySem.HandSPX.veTail "ValueError.__new__" && (oexB K C && (decide (PySem.W.findIn K (.ref C) ("most" : Str) = some none) &&
    (decide (PySem.W.findIn K (.ref C) "__init__" = some (some (.ref (He.ma K C "__init__")))) && decide (PySem.W.typeIn K (.ref (He.ma K C "__init__")) = some (.type "function"))))))))
/-- all classes, and that no two makers' tables are one -/
def clsesB (xn : List Str) (xa xb : List Nat) (tf : List He.Defn) (K : PySem.W.Frag) : Bool := (((List.range xn.length).all fun k => decide (k < 2) || ((rsB K xa xb k (He.ga K (xn.getD k Str.empty)) && xisB K (He.ga K (xn.getD k Str.empty))) &&
  (List.range xn.length).all fun j => decide (PySem.W.kitOne K (cvOf K xn k) (cvOf K xn j) = some (subc k j)) && decide (PySem.W.exmOne K (cvOf K xn k) (cvOf K xn j) = some (subc k j)))) && ((xa ++ xb).all fun k => decide (2 ≤ k) && decide (k < xn.length))) && (distinct (tf.map fun p => (He.cT K p).2) && !((xa.any fun k => xb.contains k)))
theorem distinct_nd : ∀ {l : List Nat}, distinct l = true → l.Nodup
  | [], _ => .nil
  | i :: r, h => by
    unfold distinct at h
    rw [Bool.and_eq_true, Bool.not_eq_true'] at h
    refine List.nodup_cons.mpr ⟨fun z => ?_, distinct_nd h.2⟩
    rw [List.contains_iff_mem.mpr z] at h
    cases h.1
/-- def __init__(self, most): self.most = most -/
structure InitX where
  params : Arguments
  body : List Stmt
  scope : Scope
def isInit (i : InitX) : Bool := scB ["self", "most"] ["self", "most"] i.scope && (match i.body with
  | [.Assign [.Attribute (.Name x _) f _] (.Name y _) _] => (decide (x = ("self" : Str)) && (decide (f = ("most" : Str)) && decide (y = ("most" : Str)))) && (visB i.scope ("self" : Str) && visB i.scope ("most" : Str))
  | _ => false)
theorem vis_of {sc : Scope} {x : Str} (h : visB sc x = true) : Vis sc x := by
  unfold visB at h
  rw [Bool.or_eq_true, Bool.or_eq_true] at h
  rcases h with h | h | h
  · exact .inl (eq_of_beq (α := Option NameKind) h)
  · exact .inr (.inl (eq_of_beq (α := Option NameKind) h))
  · exact .inr (.inr (eq_of_beq (α := Option NameKind) h))
theorem init_ok {P : Program} {w : World} {K : PySem.W.Frag} {mg : Str → Option Value} {base : Heap} {x q : Str} {i : InitX} {f : Addr} {fd : FuncData} (F : FunD K x q i.params i.body i.scope [] [] f fd) (h : isInit i = true) :
    FnOk P w K mg base (L2.CX P w) 1 f fd [("self" : Str), ("most" : Str)] (spMost K) := by
  unfold isInit at h
  rw [Bool.and_eq_true] at h
  obtain ⟨h1, h⟩ := h
  have S := scB_ok h1
  refine F.ok S (fun vs H Q E h => ?_) fun cdv A outer s H vs Q E hr hq => ?_
  · obtain ⟨a, C, m, rfl, _⟩ := h
    rfl
  split at h
  · rename_i x p1 f' p2 y p3 p4 ebody
    simp only [Bool.and_eq_true, decide_eq_true_eq] at h
    obtain ⟨⟨rfl, rfl, rfl⟩, h2, h3⟩ := h
    obtain ⟨a, C, m, rfl, O, nm, ea, qe⟩ := hq
    rw [ebody]
    have e0 : PE (cxOf (L2.CX P w) P w K mg base ["self", "most"] q i.scope f cdv A outer s H E) (.Name ("self" : Str) p1) (tVar 0) := pe_var (i := 0) rfl (vis_of h2) (by decide) (by decide)
    have e1 : PE (cxOf (L2.CX P w) P w K mg base ["self", "most"] q i.scope f cdv A outer s H E) (.Name ("most" : Str) p3) (tVar 1) := pe_var (i := 1) rfl (vis_of h3) (by decide) (by decide)
    refine ⟨_, pss_one (ps_ost e0 e1 (sw_of rfl)), ?_⟩
    refine ⟨.int m, rfl, .ref a, rfl, a, C, rfl, O, nm, .inl ⟨ea, fun dx nd ndx => qe dx nd ndx⟩⟩
  · cases h
end PD

set_option Elab.async false
set_option linter.all false
set_option maxRecDepth 100000
set_option maxHeartbeats 2000000
/-! P22: from a head's facts. -/
namespace PD
open PySem PySem.Spec PyProof.Rows L2 RZ
/-- all of a law -/
structure LX where
  dx : List DefX
  ws : List WordX
  it : List (Nat × InitX)
  dh : DefX
  d : DefX
  xn : List Str
  xa : List Nat
  xb : List Nat
  cs : List (Str × D)
  fr : List Str
  m0 : Hd
  hx : Str
def LX.K (l : LX) : CE := ⟨[], l.dx.map (·.x), l.cs, l.fr, l.xn, l.xa, l.xb, l.ws.map (·.x), true, true, false, false⟩
def LX.tf (l : LX) : List He.Defn := ((l.dx ++ [l.d]).filter (·.lm)).map fun d => (d.x, none)
def atOf (d : DefX) : He.DefD := ⟨(d.x, none), d.x, d.x, d.params, d.body, d.scope, [], []⟩
def wAt (d : WordX) : He.DefD := ⟨(d.x, none), d.x, d.x, d.params, d.body, d.scope, [], []⟩
def iAt (xn : List Str) (p : Nat × InitX) : He.DefD := ⟨(xn.getD p.1 Str.empty, some "__init__"), "__init__", xn.getD p.1 Str.empty ++ ".__init__", p.2.params, p.2.body, p.2.scope, [], []⟩
def LX.fn (l : LX) : List He.DefD := (l.dx ++ [l.dh, l.d]).map atOf ++ (l.ws.map wAt ++ l.it.map (iAt l.xn))
/-- the facts' list: the names of defs, of own classes, free names, constants -/
def LX.fa (l : LX) : List He.Fa := (l.dx ++ [l.dh, l.d]).map (fun d => He.Fa.glo d.x) ++ (l.ws.map (fun w => He.Fa.glo w.x) ++ ((l.xn.drop 1).map He.Fa.glo ++ (l.fr.map He.Fa.free ++ l.cs.map fun p => match p.2 with
    | .int i => He.Fa.int p.1 i
    | .str z => He.Fa.str p.1 z
    | _ => He.Fa.free p.1)))
def LX.ex (l : LX) : PySem.W.Frag → Bool := clsesB l.xn l.xa l.xb l.tf
def csB (cs : List (Str × D)) : Bool := cs.all fun p => match p.2 with
  | .int _ => true
  | .str _ => true
  | _ => false
theorem lookup_mem {x : Str} {d : D} : ∀ {cs : List (Str × D)}, cs.lookup x = some d → (x, d) ∈ cs
  | [], h => by simp at h
  | (y, e) :: r, h => by
    rw [List.lookup_cons] at h
    split at h
    · rename_i hb
      cases h
      rw [eq_of_beq hb]
      exact List.mem_cons_self
    · exact List.mem_cons_of_mem _ (lookup_mem h)
def BindQ (x q : Str) (params : Arguments) (body : List Stmt) (scope : Scope) (ps : List Str) : Prop := ∀ (kV doc pm : Value) (an : Option Addr) (cdv ct : Value) (us : List Value), us.length = ps.length → bindArgs (PySem.W.fnOf x q params body scope .none kV doc pm an cdv ct) ⟨us, []⟩ = pure (ps.zip us)
/-- what is computed of a law, once -/
structure LX.Ok (l : LX) : Prop where
  b1 : ∀ e ∈ l.dx ++ [l.dh, l.d], BindP e
  b2 : ∀ w ∈ l.ws, BindQ w.x w.x w.params w.body w.scope [w.a]
  b3 : ∀ p ∈ l.it, BindQ "__init__" (l.xn.getD p.1 Str.empty ++ ".__init__") p.2.params p.2.body p.2.scope ["self", "most"]
  cs : csB l.cs = true
  ck : ∀ e ∈ l.dx, scB e.N e.ps e.scope = true ∧ chkB (l.K.at e.N e.lm) e.scope e.body e.b = true
  cw : ∀ w ∈ l.ws, chkW l.K w = true
  ci : ∀ p ∈ l.it, isInit p.2 = true
  xb : l.xb = l.it.map (·.1)
  x0 : l.xn = [] ∨ (l.xn.head? = some ("ValueError" : Str) ∧ l.fr.contains ("ValueError" : Str) = true)
  dx : l.d.x = ("law" : Str)
  ps : l.d.ps = [("script" : Str)]
  sc : scB l.d.N l.d.ps l.d.scope = true
  n2 : l.d.N.take 2 = [("script" : Str), l.hx]
  la : isLaw l.hx l.dh.x l.d.scope l.d.body = true
  cl : chkB (l.K.at l.d.N l.d.lm) l.d.scope (restOf l.d.body) l.d.b = true
  hp : l.dh.ps = [("script" : Str)]
  hs : scB PD.hN ["script"] l.dh.scope = true
  hb : isHand l.m0 l.dh.scope l.dh.body = true
  f1 : l.fr.contains ("abs" : Str) = true
  f2 : l.fr.contains ("int" : Str) = true
  f3 : l.fr.contains ("len" : Str) = true
theorem nd_inj {α : Type} {f : α → Nat} : ∀ {l : List α}, (l.map f).Nodup → ∀ a ∈ l, ∀ b ∈ l, f a = f b → a = b
  | [], _, a, ha, _, _, _ => nomatch ha
  | x :: r, nd, a, ha, b, hb, e => by
    rw [List.map_cons, List.nodup_cons] at nd
    rcases List.mem_cons.mp ha with h1 | h1 <;> rcases List.mem_cons.mp hb with h2 | h2
    · rw [h1, h2]
    · exact absurd (List.mem_map.mpr ⟨b, h2, by rw [← e, h1]⟩) nd.1
    · exact absurd (List.mem_map.mpr ⟨a, h1, by rw [e, h2]⟩) nd.1
    · exact nd_inj nd.2 a h1 b h2 e
/-- a law's facts -/
theorem law_at {ol : PySem.W.OpenLaw} {w : World} {KF : PySem.W.Frag} {mg : Str → Option Value} {h : Heap} {fa : Addr} {l : LX} (o : l.Ok) (X : KF.In h) (Gn : h.Ns mainGlobals mg) (hfa : mg ("law" : Str) = some (.ref fa))
    (cx : He.SaysX l.fa l.fn [] l.tf l.ex w h KF) (ht : LawTrue l.ws l.m0 l.dx l.d) : LamX.LawAtS ol w KF (L2.CX ol.prog w) (3 * l.dx.length + 4) 63 "script" mg fa h := by
  have c := cx.t.d
  have fact : ∀ f, f ∈ l.fa → f.ok KF = true := fun f hf => c.facts hf
  have glo : ∀ e ∈ l.dx ++ [l.dh, l.d], mg e.x = some (.ref (He.ga KF e.x)) := fun e he => He.glo_ok X Gn (fact _ (List.mem_append_left _ (List.mem_map.mpr ⟨e, he, rfl⟩)))
  have glw : ∀ e ∈ l.ws, mg e.x = some (.ref (He.ga KF e.x)) := fun e he => He.glo_ok X Gn (fact _ (List.mem_append_right _ (List.mem_append_left _ (List.mem_map.mpr ⟨e, he, rfl⟩))))
  have glx : ∀ x ∈ l.xn.drop 1, mg x = some (.ref (He.ga KF x)) := fun e he => He.glo_ok X Gn (fact _ (List.mem_append_right _ (List.mem_append_right _ (List.mem_append_left _ (List.mem_map.mpr ⟨e, he, rfl⟩)))))
  have fre : ∀ x, l.fr.contains x = true → mg x = none := fun x hx => He.free_ok X Gn (fact (.free x) (List.mem_append_right _ (List.mem_append_right _ (List.mem_append_right _ (List.mem_append_left _ (List.mem_map.mpr ⟨x, List.contains_iff_mem.mp hx, rfl⟩))))))
  have fun_ : ∀ e ∈ l.dx ++ [l.dh, l.d], ∃ fd, FunD KF e.x e.x e.params e.body e.scope [] [] (He.ga KF e.x) fd := fun e he => c.defs (d := atOf e) (List.mem_append_left _ (List.mem_map.mpr ⟨e, he, rfl⟩))
  have funw : ∀ e ∈ l.ws, ∃ fd, FunD KF e.x e.x e.params e.body e.scope [] [] (He.ga KF e.x) fd := fun e he => c.defs (d := wAt e) (List.mem_append_right _ (List.mem_append_left _ (List.mem_map.mpr ⟨e, he, rfl⟩)))
  have funi : ∀ p ∈ l.it, ∃ fd, FunD KF "__init__" (l.xn.getD p.1 Str.empty ++ ".__init__") p.2.params p.2.body p.2.scope [] [] (He.ma KF (He.ga KF (l.xn.getD p.1 Str.empty)) "__init__") fd := fun p hp => c.defs (d := iAt l.xn p) (List.mem_append_right _ (List.mem_append_right _ (List.mem_map.mpr ⟨p, hp, rfl⟩)))
  have mL : l.d ∈ l.dx ++ [l.dh, l.d] := by simp
  have mH : l.dh ∈ l.dx ++ [l.dh, l.d] := by simp
  have mD : ∀ e ∈ l.dx, e ∈ l.dx ++ [l.dh, l.d] := fun e he => List.mem_append_left _ he
  obtain ⟨fdL, FL⟩ := fun_ l.d mL
  obtain ⟨fdH, FH⟩ := fun_ l.dh mH
  have hall : ∀ i : Nat, ∃ fd, ∀ e, l.dx[i]? = some e → FunD KF e.x e.x e.params e.body e.scope [] [] (He.ga KF e.x) fd := fun i => by
    cases hi : l.dx[i]? with
    | none => exact ⟨fdL, fun e z => nomatch z⟩
    | some e =>
      obtain ⟨fd, F⟩ := fun_ e (mD e (List.mem_of_getElem? hi))
      refine ⟨fd, fun e' z => ?_⟩
      cases z
      exact F
  have eL : fa = He.ga KF l.d.x := by
    have z := glo l.d mL
    rw [o.dx] at z ⊢
    rw [hfa] at z
    cases z
    rfl
  -- the classes
  have ex : clsesB l.xn l.xa l.xb l.tf KF = true := cx.more
  unfold clsesB at ex
  simp only [Bool.and_eq_true, Bool.not_eq_true'] at ex
  obtain ⟨⟨x1, x2⟩, x3, x4⟩ := ex
  have x2 : ∀ k ∈ l.xa ++ l.xb, 2 ≤ k ∧ k < l.xn.length := fun k hk => by
    have z := List.all_eq_true.mp x2 k hk
    rw [Bool.and_eq_true, decide_eq_true_eq, decide_eq_true_eq] at z
    exact z
  have x1 : ∀ k, 2 ≤ k → k < l.xn.length → (rsB KF l.xa l.xb k (He.ga KF (l.xn.getD k Str.empty)) = true ∧ xisB KF (He.ga KF (l.xn.getD k Str.empty)) = true) ∧ ∀ j, j < l.xn.length → PySem.W.kitOne KF (cvOf KF l.xn k) (cvOf KF l.xn j) = some (subc k j) ∧ PySem.W.exmOne KF (cvOf KF l.xn k) (cvOf KF l.xn j) = some (subc k j) := fun k h2 hk => by
    have z := List.all_eq_true.mp x1 k (List.mem_range.mpr hk)
    rw [Bool.or_eq_true, decide_eq_true_eq, Bool.and_eq_true, Bool.and_eq_true] at z
    rcases z with z | ⟨z1, z2⟩
    · omega
    · refine ⟨z1, fun j hj => ?_⟩
      have y := List.all_eq_true.mp z2 j (List.mem_range.mpr hj)
      rw [Bool.and_eq_true, decide_eq_true_eq, decide_eq_true_eq] at y
      exact y
  have gD : ∀ {k : Nat} {x : Str}, l.xn[k]? = some x → l.xn.getD k Str.empty = x := fun {k x} h => by rw [List.getD_eq_getElem?_getD, h]; rfl
  have cv2 : ∀ {k : Nat}, 2 ≤ k → cvOf KF l.xn k = .ref (He.ga KF (l.xn.getD k Str.empty)) := fun {k} h => by
    unfold cvOf
    rw [if_neg (by omega)]
  have tf_mem : ∀ e, (e ∈ l.dx ∨ e = l.d) → e.lm = true → ((e.x, none) : He.Defn) ∈ l.tf := fun e he hl => by
    refine List.mem_map.mpr ⟨e, List.mem_filter.mpr ⟨?_, hl⟩, rfl⟩
    rcases he with he | rfl
    · exact List.mem_append_left _ he
    · exact List.mem_append_right _ (by simp)
  let T : List (Addr × Str) := l.tf.map fun p => ((He.cT KF p).2, lamQ p.1)
  refine ⟨fdL, l.tf.map (He.cT KF), spLaw KF T, fun p hp => ?_, fun p hp => ?_, fun p hp => ?_, fun s u => ?_, fun H a ns h1 h2 hT h3 => ⟨a, ns, rfl, h1, h2, h3, fun p hp => ?_, fun _ => rfl⟩, fun base KB GB TBs => ?_⟩
  · obtain ⟨p, hp2, rfl⟩ := List.mem_map.mp hp
    exact cx.empty p hp2
  · obtain ⟨p, hp2, rfl⟩ := List.mem_map.mp hp
    exact cx.out p hp2
  · obtain ⟨p, hp2, rfl⟩ := List.mem_map.mp hp
    exact PySem.W.codeHd_of_K X (cx.hd p hp2)
  · have z := FunD.bindsA (ps := [("script" : Str)]) FL (by have q := o.b1 l.d mL; unfold BindP at q; rw [o.ps] at q; exact q) s [u] rfl
    exact z
  · obtain ⟨p, hp2, rfl⟩ := List.mem_map.mp hp
    exact LamX.TabS.nil (hT _ (List.mem_map.mpr ⟨p, hp2, rfl⟩))
  · let G : Cfg := ⟨ol.prog, w, KF, mg, base, l.dx.map (·.x), fun i => ((l.dx[i]?).map fun e => He.ga KF e.x).getD 0, fun i => Classical.choose (hall i), fun i => ((l.dx[i]?).map fun e => e.ps).getD [], l.cs, l.fr, l.xn, cvOf KF l.xn, T, l.ws, fun i => ((l.ws[i]?).map fun e => He.ga KF e.x).getD 0, 0, none, ⟨0, none⟩⟩
    have gfa : ∀ {i e}, l.dx[i]? = some e → G.fa i = He.ga KF e.x := fun {i e} hi => by show ((l.dx[i]?).map fun e => He.ga KF e.x).getD 0 = _; rw [hi]; rfl
    have gwa : ∀ {i e}, l.ws[i]? = some e → G.wa i = He.ga KF e.x := fun {i e} hi => by show ((l.ws[i]?).map fun e => He.ga KF e.x).getD 0 = _; rw [hi]; rfl
    have gps : ∀ {i e}, l.dx[i]? = some e → G.ps i = e.ps := fun {i e} hi => by show ((l.dx[i]?).map fun e => e.ps).getD [] = _; rw [hi]; rfl
    have gF : ∀ {i e}, l.dx[i]? = some e → FunD KF e.x e.x e.params e.body e.scope [] [] (G.fa i) (G.fd i) := fun {i e} hi => by
      rw [gfa hi]
      exact Classical.choose_spec (hall i) e hi
    have lam : ∀ e fd, (e ∈ l.dx ∨ e = l.d) → FunD KF e.x e.x e.params e.body e.scope [] [] (He.ga KF e.x) fd → e.lm = true → LamD G e.x fd := fun e fd he F hl cc ecc => by
      have hm := tf_mem e he hl
      obtain ⟨oc, od, dV, kV, doc, pm, an, cdv, ct, osl, efd, lk, hcd, _, _⟩ := F.ex
      have ek := He.codeOf_eq (K := KF) (p := ((e.x, none) : He.Defn)) lk ecc
      have tb := TBs _ (List.mem_map.mpr ⟨_, hm, rfl⟩)
      have e1 : (He.cT KF ((e.x, none) : He.Defn)).1 = cc := ek
      rw [e1] at tb
      refine ⟨(He.cT KF ((e.x, none) : He.Defn)).2, tb, List.mem_map.mpr ⟨_, hm, rfl⟩, fun p hp hP => ?_⟩
      obtain ⟨p', hp', rfl⟩ := List.mem_map.mp hp
      have nd := distinct_nd x3
      have hinj : p' = ((e.x, none) : He.Defn) := nd_inj nd p' hp' _ hm hP
      rw [hinj]
    have st : Stat G := by
      refine ⟨fun f x hx => ?_, fun x dd hx => ?_, fun x hx => fre x hx, fun k x hx => ?_, fun k x hx hk => ?_, fun k h2 hk => ?_⟩
      · have hx : (l.dx.map (·.x))[f]? = some x := hx
        rw [List.getElem?_map, Option.map_eq_some_iff] at hx
        obtain ⟨e, hi, rfl⟩ := hx
        have F := gF hi
        refine ⟨?_, F.kp, ?_⟩
        · rw [gfa hi]
          exact glo e (mD e (List.mem_of_getElem? hi))
        · rw [gps hi]
          exact F.bindsN (o.b1 e (mD e (List.mem_of_getElem? hi)))
      · have hm := lookup_mem hx
        have q := List.all_eq_true.mp o.cs _ hm
        have fc := fun f hf => fact f (List.mem_append_right _ (List.mem_append_right _ (List.mem_append_right _ (List.mem_append_right _ (List.mem_map.mpr ⟨(x, dd), hm, hf⟩)))))
        cases dd with
        | int i =>
          obtain ⟨t, e⟩ := He.int_ok X Gn (fc (.int x i) rfl)
          exact ⟨_, .int i, e, ⟨t, rfl⟩, rfl, fun _ _ _ => by simp only [Rep]⟩
        | str z =>
          obtain ⟨t, e⟩ := He.str_ok X Gn (fc (.str x z) rfl)
          exact ⟨_, .str z, e, ⟨t, rfl⟩, rfl, fun _ _ _ => by simp only [Rep]⟩
        | _ => cases q
      · have hx : l.xn[k]? = some x := hx
        cases k with
        | zero =>
          left
          rcases o.x0 with z | ⟨z1, z2⟩
          · rw [z] at hx
            cases hx
          · have : l.xn.head? = l.xn[0]? := List.head?_eq_getElem?
            rw [this, hx] at z1
            cases z1
            exact ⟨rfl, rfl, fre _ z2, rfl⟩
        | succ k =>
          right
          have hm : x ∈ l.xn.drop 1 := by
            refine List.mem_iff_getElem?.mpr ⟨k, ?_⟩
            rw [List.getElem?_drop, Nat.add_comm]
            exact hx
          refine ⟨He.ga KF x, glx x hm, ?_⟩
          show cvOf KF l.xn (k + 1) = _
          unfold cvOf
          rw [if_neg (by omega), gD hx]
      · have hx : l.xn[k]? = some x := hx
        have hkl := (List.getElem?_eq_some_iff.mp hx).1
        obtain ⟨⟨r, _⟩, _⟩ := x1 k hk hkl
        rw [gD hx] at r
        unfold rsB at r
        simp only [Bool.and_eq_true, Bool.or_eq_true, decide_eq_true_eq, Bool.not_eq_true'] at r
        obtain ⟨⟨r1, r2, r3⟩, r4⟩ := r
        have hm : x ∈ l.xn.drop 1 := by
          obtain ⟨k, rfl⟩ : ∃ j, k = j + 1 := ⟨k - 1, by omega⟩
          refine List.mem_iff_getElem?.mpr ⟨k, ?_⟩
          rw [List.getElem?_drop, Nat.add_comm]
          exact hx
        refine ⟨He.ga KF x, by show cvOf KF l.xn k = _; rw [cv2 hk, gD hx], glx x hm, r1, r2, r3, ?_⟩
        rcases r4 with ⟨_, r5⟩ | ⟨r5, r6, r7, r8, r9, r10⟩
        · exact .inl r5
        · right
          have hxb := List.contains_iff_mem.mp r5
          rw [o.xb] at hxb
          obtain ⟨p, hp, rfl⟩ := List.mem_map.mp hxb
          obtain ⟨fd, F⟩ := funi p hp
          rw [gD hx] at F
          have b3 := o.b3 p hp
          rw [gD hx] at b3
          refine ⟨oexB_ok r7, r8, _, fd, r9, r10, ?_, init_ok F (o.ci p hp)⟩
          obtain ⟨oc, od, dV, kV, doc, pm, an, cdv, ct, osl, rfl, lk, hcd, hD, hK⟩ := F.ex
          rcases hD with ⟨_, rfl⟩ | ⟨e, _⟩
          · exact .all (b3 kV doc pm an cdv ct)
          · exact absurd rfl e
      · have hk : k < l.xn.length := hk
        obtain ⟨⟨_, r⟩, q⟩ := x1 k h2 hk
        exact ⟨_, cv2 h2, xisB_ok r, fun j hj => q j hj⟩
    have xa : ∀ k ∈ l.xa, ∃ C, G.cv k = .ref C ∧ PySem.W.excIn G.K C PySem.HandSPX.veTail "ValueError.__new__" = true := fun k hk => by
      obtain ⟨h2, hl⟩ := x2 k (List.mem_append_left _ hk)
      obtain ⟨⟨r, _⟩, _⟩ := x1 k h2 hl
      unfold rsB at r
      simp only [Bool.and_eq_true, Bool.or_eq_true, decide_eq_true_eq, Bool.not_eq_true'] at r
      refine ⟨_, cv2 h2, ?_⟩
      rcases r.2 with ⟨_, r5⟩ | ⟨r5, _⟩
      · exact r5
      · exfalso
        have : (l.xa.any fun k => l.xb.contains k) = true := List.any_eq_true.mpr ⟨k, hk, r5⟩
        rw [x4] at this
        cases this
    have xb : ∀ k ∈ l.xb, ∃ C, G.cv k = .ref C ∧ ¬ PySem.W.excIn G.K C PySem.HandSPX.veTail "ValueError.__new__" = true := fun k hk => by
      obtain ⟨h2, hl⟩ := x2 k (List.mem_append_right _ hk)
      obtain ⟨⟨r, _⟩, _⟩ := x1 k h2 hl
      unfold rsB at r
      simp only [Bool.and_eq_true, Bool.or_eq_true, decide_eq_true_eq, Bool.not_eq_true'] at r
      refine ⟨_, cv2 h2, ?_⟩
      rcases r.2 with ⟨r5, _⟩ | ⟨_, r6, _⟩
      · exfalso
        have : (l.xa.any fun k => l.xb.contains k) = true := List.any_eq_true.mpr ⟨k, List.contains_iff_mem.mp r5, List.contains_iff_mem.mpr hk⟩
        rw [x4] at this
        cases this
      · rw [r6]
        exact Bool.false_ne_true
    have wo : WdOk G := fun f wx hf => by
      have hf' : l.ws[f]? = some wx := hf
      have hm := List.mem_of_getElem? hf'
      obtain ⟨fd, F⟩ := funw wx hm
      have ck := o.cw wx hm
      have ck2 := ck
      unfold chkW at ck2
      simp only [Bool.and_eq_true, decide_eq_true_eq] at ck2
      obtain ⟨⟨⟨h1, h2⟩, ⟨h3, h4⟩, h5, h6⟩, hb⟩ := ck2
      refine ⟨by rw [gwa hf']; exact glw wx hm, by rw [gwa hf']; exact F.kp, ⟨fd, by rw [gwa hf']; exact F, ?_⟩, scB_ok h1, h2, vis_of h3, (okNm_ok h5).1, okNm_ok h4, fun X cdv q e1 e2 e3 e4 e5 hu => word_gives (K := l.K) hf st rfl rfl rfl rfl xa xb ck X cdv q e1 e2 e3 e4 e5 hu⟩
      have b2 := o.b2 wx hm
      exact F.bindsN b2
    have Tb : Tab G l.K l.dx := ⟨st, rfl, rfl, rfl, rfl, xa, xb, rfl, wo, fun f e hi => ⟨gF hi, gps hi, fun hl => lam e _ (.inl (List.mem_of_getElem? hi)) (by rw [← gfa hi]; exact gF hi) hl⟩, o.ck⟩
    rw [eL]
    refine law_ok (G := G) Tb FL (fun hl => lam l.d fdL (.inr rfl) FL hl) o.ps o.sc o.n2 o.la o.cl FH o.hs o.hb (fre _ o.f1) (fre _ o.f2) (fre _ o.f3) (glo l.dh mH) (FH.bindsN ?_) ht
    have q := o.b1 l.dh mH
    unfold BindP at q
    rw [o.hp] at q
    exact q
end PD

set_option Elab.async false
set_option linter.all false
set_option maxRecDepth 100000
set_option maxHeartbeats 2000000
/-! Q0: small programs run by counting down, without a hand; what they give so, they give. -/
namespace PD
open PySem PySem.Spec
section
variable (k : Nat) (Φ : Nat → List D → HS → Res D) (Ψ : Nat → (HS → Res D) → HS → Res D) (thk : HS → Res D)
mutual
/-- as denM, each while at most k turns -/
def denMx : IM → PEnv → HS → Res Fl
  | .set i e, ρ, h => (den Φ Ψ thk e ρ h).bind fun d h => .ok (.nx (ρ.set i (.val d))) h
  | .setO i e, ρ, h => (den Φ Ψ thk e ρ h).bind fun d h => .ok (.nx (ρ.set i (slotOf true d))) h
  | .setT t e, ρ, h => (den Φ Ψ thk e ρ h).bind fun d h => ofO ((asgT t d ρ).map .nx) h
  | .par is es, ρ, h => (dens Φ Ψ thk es ρ h).bind fun ds h => ofO ((parSet is ds ρ).map .nx) h
  | .setIx i z e, ρ, h => (den Φ Ψ thk e ρ h).bind fun d h => match ρ[i]? with
    | some (.own (.lst xs)) => (den Φ Ψ thk z ρ h).bind fun z h => ofO ((setD xs z d).map fun ys => .nx (ρ.set i (.own (.lst ys)))) h
    | some (.val .hnd) => (den Φ Ψ thk z ρ h).bind fun z h => (match setD h z d with
      | some h' => .ok (.nx ρ) h'
      | none => .stuck)
    | some (.own (.dct ks vs)) => (den Φ Ψ thk z ρ h).bind fun z h => ofO ((setK ks vs z d).map fun r => .nx (ρ.set i (.own (.dct r.1 r.2)))) h
    | _ => .stuck
  | .aug i o e, ρ, h => (match ρ[i]? with
    | some (.val (.int x)) => (den Φ Ψ thk e ρ h).bind fun y h => (match o, y with
      | .add, .int y => .ok (.nx (ρ.set i (.val (.int (x + y))))) h
      | .sub, .int y => .ok (.nx (ρ.set i (.val (.int (x - y))))) h
      | _, _ => .stuck)
    | _ => .stuck)
  | .app i e, ρ, h => (match ρ[i]? with
    | some (.own (.lst xs)) => (den Φ Ψ thk e ρ h).bind fun d h => if xs.length < line then .ok (.nx (ρ.set i (.own (.lst (xs ++ [d]))))) h else .stuck
    | _ => .stuck)
  | .ext i e, ρ, h => (match ρ[i]? with
    | some (.own (.lst xs)) => (den Φ Ψ thk e ρ h).bind fun d h => match d with
      | .lst ys => if xs.length + ys.length ≤ line then .ok (.nx (ρ.set i (.own (.lst (xs ++ ys))))) h else .stuck
      | _ => .stuck
    | _ => .stuck)
  | .pop t i, ρ, h => (match ρ[i]? with
    | some (.own (.lst xs)) => (match xs.getLast? with
      | some d => ofO ((asgT t d (ρ.set i (.own (.lst xs.dropLast)))).map .nx) h
      | none => .stuck)
    | _ => .stuck)
  | .upd i e, ρ, h => (match ρ[i]? with
    | some (.own (.dct ks vs)) => (den Φ Ψ thk e ρ h).bind fun d h => ofO ((updD ks vs d).map fun r => .nx (ρ.set i (.own (.dct r.1 r.2)))) h
    | _ => .stuck)
  | .augIx i z o e, ρ, h => (match ρ[i]? with
    | some (.own (.lst xs)) => (den Φ Ψ thk z ρ h).bind fun z h => (match ixD [] (.lst xs) z with
      | some (.int m) => (den Φ Ψ thk e ρ h).bind fun y h => ofO ((augD o m y).bind fun d => (setD xs z d).map fun ys => .nx (ρ.set i (.own (.lst ys)))) h
      | _ => .stuck)
    | _ => .stuck)
  | .ins i z e, ρ, h => (match ρ[i]? with
    | some (.own (.lst xs)) => (den Φ Ψ thk z ρ h).bind fun z h => (den Φ Ψ thk e ρ h).bind fun d h => ofO ((insD xs z d).map fun ys => .nx (ρ.set i (.own (.lst ys)))) h
    | _ => .stuck)
  | .rem i e, ρ, h => (match ρ[i]? with
    | some (.own (.lst xs)) => (den Φ Ψ thk e ρ h).bind fun d h => ofO ((remD xs d).map fun ys => .nx (ρ.set i (.own (.lst ys)))) h
    | _ => .stuck)
  | .expr e, ρ, h => (den Φ Ψ thk e ρ h).bind fun _ h => .ok (.nx ρ) h
  | .ite c a b, ρ, h => (denC Φ Ψ thk c ρ h).bind fun t h => if t then denMsx a ρ h else denMsx b ρ h
  | .whl c b, ρ, h => whileN (fun ρ h => denC Φ Ψ thk c ρ h) (fun ρ h => denMsx b ρ h) k ρ h
  | .for_ t s b, ρ, h => (denS Φ Ψ thk s ρ h).bind fun its h => forL (fun d ρ h => match asgT t d ρ with
    | some ρ' => denMsx b ρ' h
    | none => .stuck) its ρ h
  | .ret e, ρ, h => (den Φ Ψ thk e ρ h).bind fun d h => .ok (.rt d) h
  | .retN, _, h => .ok (.rt .non) h
  | .rse c m, _, h => .exc ⟨c, m⟩ h
  | .brk, ρ, h => .ok (.bk ρ) h
  | .cnt, ρ, h => .ok (.ct ρ) h
  | .pass, ρ, h => .ok (.nx ρ) h
  | .frz is, ρ, h => .ok (.nx (frzL is ρ)) h
  | .dead, _, _ => .stuck
def denMsx : IMs → PEnv → HS → Res Fl
  | .nil, ρ, h => .ok (.nx ρ) h
  | .cons s r, ρ, h => (denMx s ρ h).bind fun f h => match f with
    | .nx ρ' => denMsx r ρ' h
    | f => .ok f h
end
def denFx (b : IMs) (n : Nat) (ds : List D) (h : HS) : Res D := (denMsx k Φ Ψ thk b (ds.map .val ++ List.replicate (n - ds.length) .no) h).bind fun f h => match f with
    | .rt d => .ok d h
    | .nx _ => .ok .non h
    | _ => .stuck
end
def catchX (k : Nat) (w : WordX) (e : Exc) (h : HS) : Res D :=
  if (decide (2 ≤ e.c) && decide (e.c < w.nx)) && subc e.c w.c then (denMsx k noPhi noPsi noThk w.b ((List.replicate w.N.length .no).set w.i (.exn e)) h).bind fun f h => (match f with
      | .nx ρ => (denMsx k noPhi noPsi noThk w.post ((clrX ρ).set w.i .no) h).bind finR
      | .rt d => .ok d h
      | _ => .stuck)
    else .stuck
def preX (k : Nat) (w : WordX) (h : HS) : Res Fl := match w.pre with
  | none => .ok (.nx ((List.replicate w.N.length .no).set 0 (.exn ⟨0, none⟩))) h
  | some m => denMx k noPhi noPsi noThk m ((List.replicate w.N.length .no).set 0 (.exn ⟨0, none⟩)) h
def wordX (k : Nat) (w : WordX) (t : HS → Res D) (h : HS) : Res D := (preX k w h).bind fun f h => match f with
  | .nx ρ => if ρ.all notOwn && isExn ρ[0]? then (match t h with
      | .ok d h => if w.rt then .ok d h else (denMsx k noPhi noPsi noThk w.post ρ h).bind finR
      | .exc e h => catchX k w e h
      | .stuck => .stuck) else .stuck
  | _ => .stuck
def psiX (k : Nat) (wd : List WordX) : Nat → (HS → Res D) → HS → Res D := fun f t h => match wd[f]? with
  | some w => calmR (wordX k w t h)
  | none => .stuck
def PhiX (k : Nat) (wd : List WordX) : List DefT → Nat → List D → HS → Res D
  | [], _, _, _ => .stuck
  | t :: r, f, ds, h => if f = r.length then (if ds.length = t.ar then denFx k (PhiX k wd r) (psiX k wd) noThk t.b t.n ds h else .stuck) else PhiX k wd r f ds h
/-! ### what is said without a hand is so with one -/
def Up (h : HS) {α : Type} (a b : Res α) : Prop := match a with
  | .stuck => True
  | .ok x g => g = [] ∧ b = .ok x h
  | .exc e g => g = [] ∧ b = .exc e h
section
variable {h : HS} {α β : Type}
theorem Up.stuck {b : Res α} : Up h .stuck b := True.intro
theorem Up.ok {x : α} : Up h (.ok x []) (.ok x h) := ⟨rfl, rfl⟩
theorem Up.exc {e : Exc} : Up h (α := α) (.exc e []) (.exc e h) := ⟨rfl, rfl⟩
theorem Up.bind {a b : Res α} {f g : α → HS → Res β} (u : Up h a b) (v : ∀ x, Up h (f x []) (g x h)) : Up h (a.bind f) (b.bind g) := by
  cases a with
  | stuck => trivial
  | ok x g0 =>
    obtain ⟨rfl, rfl⟩ := u
    exact v x
  | exc e g0 =>
    obtain ⟨rfl, rfl⟩ := u
    exact ⟨rfl, rfl⟩
theorem Up.ofO {o : Option α} : Up h (ofO o []) (PD.ofO o h) := by
  cases o with
  | none => trivial
  | some x => exact ⟨rfl, rfl⟩
theorem Up.calm {a b : Res α} (u : Up h a b) : Up h (calmR a) (calmR b) := by
  cases a with
  | stuck => trivial
  | ok x g0 =>
    obtain ⟨rfl, rfl⟩ := u
    exact ⟨rfl, rfl⟩
  | exc e g0 => trivial
theorem Up.ite {c : Prop} [Decidable c] {a b a' b' : Res α} (u : Up h a b) (v : Up h a' b') : Up h (if c then a else a') (if c then b else b') := by
  split
  · exact u
  · exact v
theorem up_lcL {f g : D → HS → Res (Option D)} (u : ∀ d, Up h (f d []) (g d h)) : ∀ its, Up h (lcL f its []) (lcL g its h)
  | [] => .ok
  | d :: r => by
    simp only [lcL]
    exact (u d).bind fun o => (up_lcL u r).bind fun ds => .ok
theorem up_forL {f g : D → PEnv → HS → Res Fl} (u : ∀ d ρ, Up h (f d ρ []) (g d ρ h)) : ∀ its ρ, Up h (forL f its ρ []) (forL g its ρ h)
  | [], ρ => .ok
  | d :: r, ρ => by
    simp only [forL]
    refine (u d ρ).bind fun x => ?_
    cases x with
    | nx ρ' => exact up_forL u r ρ'
    | ct ρ' => exact up_forL u r ρ'
    | bk ρ' => exact .ok
    | rt d => exact .ok
theorem up_while {c c' : PEnv → HS → Res Bool} {f g : PEnv → HS → Res Fl} (u : ∀ ρ, Up h (c ρ []) (c' ρ h)) (v : ∀ ρ, Up h (f ρ []) (g ρ h)) : ∀ k ρ, Up h (whileN c f k ρ []) (whileN c' g k ρ h)
  | 0, ρ => trivial
  | k + 1, ρ => by
    simp only [whileN]
    refine (u ρ).bind fun b => .ite ((v ρ).bind fun x => ?_) .ok
    cases x with
    | nx ρ' => exact up_while u v k ρ'
    | ct ρ' => exact up_while u v k ρ'
    | bk ρ' => exact .ok
    | rt d => exact .ok
theorem up_whileL {c c' : PEnv → HS → Res Bool} {f g : PEnv → HS → Res Fl} (u : ∀ ρ, Up h (c ρ []) (c' ρ h)) (v : ∀ ρ, Up h (f ρ []) (g ρ h)) (k : Nat) (ρ : PEnv) : Up h (whileN c f k ρ []) (whileL c' g ρ h) := by
  have z := up_while u v k ρ
  cases e : whileN c f k ρ [] with
  | stuck => trivial
  | ok x g0 =>
    rw [e] at z
    obtain ⟨rfl, z⟩ := z
    exact ⟨rfl, by rw [whileL_of (n := k) (by rw [z]; exact fun y => by cases y), z]⟩
  | exc x g0 =>
    rw [e] at z
    obtain ⟨rfl, z⟩ := z
    exact ⟨rfl, by rw [whileL_of (n := k) (by rw [z]; exact fun y => by cases y), z]⟩
end
theorem atI_nil {α : Type} (i : Int) : atI ([] : List α) i = none := by
  unfold atI
  cases ixN ([] : List α).length i <;> rfl
theorem ixD_up {h : HS} {x y : D} : Up h (ofO (ixD [] x y) []) (ofO (ixD h x y) h) := by
  cases x <;> cases y <;> first | exact .ofO | (simp only [ixD, atI_nil]; trivial)
theorem setD_nil {z d : D} : setD [] z d = none := by
  cases z with
  | int i =>
    simp only [setD]
    have : ixN ([] : List D).length i = none := by
      unfold ixN
      simp only [List.length_nil]
      split
      · rw [if_neg (by omega)]
      · rw [if_neg (by omega)]
    rw [this]
    rfl
  | _ => rfl
section
variable {h : HS} {Φ Φ' : Nat → List D → HS → Res D} {Ψ Ψ' : Nat → (HS → Res D) → HS → Res D} {thk thk' : HS → Res D}
variable (uΦ : ∀ f ds, Up h (Φ' f ds []) (Φ f ds h)) (uΨ : ∀ f t t', Up h (t' []) (t h) → Up h (Ψ' f t' []) (Ψ f t h)) (uT : Up h (thk' []) (thk h))
include uΦ uΨ uT
mutual
theorem up_den : ∀ (e : IE) (ρ : PEnv), Up h (den Φ' Ψ' thk' e ρ []) (den Φ Ψ thk e ρ h)
  | .var i, ρ => by
    simp only [den]
    split <;> first | exact .ok | trivial
  | .ovar i, ρ => by
    simp only [den]
    split <;> first | exact .ok | trivial
  | .lit d, ρ => by simp only [den]; exact .ok
  | .tup es, ρ => by simp only [den]; exact (up_dens es ρ).bind fun x => .ite .ok .stuck
  | .lst es, ρ => by simp only [den]; exact (up_dens es ρ).bind fun x => .ite .ok .stuck
  | .dct ks vs, ρ => by simp only [den]; exact (up_dens ks ρ).bind fun x => (up_dens vs ρ).bind fun y => .ite .ok .stuck
  | .dctL es, ρ => by simp only [den]; exact (up_dens es ρ).bind fun x => .ofO
  | .dget o k x, ρ => by simp only [den]; exact (up_den o ρ).bind fun a => .ite ((up_den k ρ).bind fun z => (up_den x ρ).bind fun d => .ofO) .stuck
  | .rngL t a b, ρ => by simp only [den]; exact (up_den a ρ).bind fun x => (up_den b ρ).bind fun y => .ofO
  | .bin o a b, ρ => by simp only [den]; exact (up_den a ρ).bind fun x => (up_den b ρ).bind fun y => .ofO
  | .neg a, ρ => by simp only [den]; exact (up_den a ρ).bind fun x => .ofO
  | .not a, ρ => by simp only [den]; exact (up_den a ρ).bind fun x => .ofO
  | .cmp o a b, ρ => by simp only [den]; exact (up_den a ρ).bind fun x => (up_den b ρ).bind fun y => .ofO
  | .chain o o' a b c, ρ => by
    simp only [den]
    refine (up_den a ρ).bind fun x => (up_den b ρ).bind fun y => ?_
    split
    · exact (up_den c ρ).bind fun z => .ofO
    · exact .ok
    · trivial
  | .and a b, ρ => by
    simp only [den]
    refine (up_den a ρ).bind fun x => ?_
    split
    · exact up_den b ρ
    · exact .ok
    · trivial
  | .or a b, ρ => by
    simp only [den]
    refine (up_den a ρ).bind fun x => ?_
    split
    · exact .ok
    · exact up_den b ρ
    · trivial
  | .ite c a b, ρ => by simp only [den]; exact (up_denC c ρ).bind fun x => .ite (up_den a ρ) (up_den b ρ)
  | .ix a i, ρ => by simp only [den]; exact (up_den a ρ).bind fun x => (up_den i ρ).bind fun y => ixD_up
  | .slc a lo hi, ρ => by simp only [den]; exact (up_den a ρ).bind fun x => (up_denO lo ρ).bind fun y => (up_denO hi ρ).bind fun z => .ofO
  | .rev a, ρ => by simp only [den]; exact (up_den a ρ).bind fun x => .ofO
  | .call f as, ρ => by simp only [den]; exact (up_dens as ρ).bind fun x => uΦ f x
  | .callv i as, ρ => by
    simp only [den]
    split
    · exact (up_dens as ρ).bind fun x => uΦ _ x
    · trivial
  | .thk, ρ => by simp only [den]; exact uT
  | .said f b, ρ => by simp only [den]; exact uΨ f _ _ (up_den b ρ)
  | .bi b as, ρ => by simp only [den]; exact (up_dens as ρ).bind fun x => .ofO
  | .isi a ts, ρ => by simp only [den]; exact (up_den a ρ).bind fun x => .ofO
  | .mt m o as, ρ => by simp only [den]; exact (up_den o ρ).bind fun x => .ite ((up_dens as ρ).bind fun y => .ofO) .stuck
  | .lc vs t s c e, ρ => by
    simp only [den]
    refine (up_denS s ρ).bind fun its => (Up.calm (up_lcL (fun d => ?_) its)).bind fun ds => .ite .ok .stuck
    split
    · exact (up_denC c _).bind fun x => .ite ((up_den e _).bind fun y => .ok) .ok
    · trivial
  | .isx i c, ρ => by
    simp only [den]
    split <;> first | exact .ok | trivial
  | .xmost i, ρ => by
    simp only [den]
    split <;> first | exact .ofO | trivial
theorem up_dens : ∀ (e : IEs) (ρ : PEnv), Up h (dens Φ' Ψ' thk' e ρ []) (dens Φ Ψ thk e ρ h)
  | .nil, ρ => by simp only [dens]; exact .ok
  | .cons e es, ρ => by simp only [dens]; exact (up_den e ρ).bind fun x => (up_dens es ρ).bind fun y => .ok
theorem up_denO : ∀ (e : IO) (ρ : PEnv), Up h (denO Φ' Ψ' thk' e ρ []) (denO Φ Ψ thk e ρ h)
  | .no, ρ => by simp only [denO]; exact .ok
  | .so e, ρ => by simp only [denO]; exact (up_den e ρ).bind fun x => .ofO
theorem up_denS : ∀ (e : IS) (ρ : PEnv), Up h (denS Φ' Ψ' thk' e ρ []) (denS Φ Ψ thk e ρ h)
  | .val e, ρ => by simp only [denS]; exact (up_den e ρ).bind fun x => .ofO
  | .rng1 a, ρ => by
    simp only [denS]
    refine (up_den a ρ).bind fun x => ?_
    split
    · exact .ite .ok .stuck
    · trivial
  | .rng2 a b, ρ => by
    simp only [denS]
    refine (up_den a ρ).bind fun x => (up_den b ρ).bind fun y => ?_
    split
    · exact .ite .ok .stuck
    · trivial
  | .rng3 a b _, ρ => by
    simp only [denS]
    refine (up_den a ρ).bind fun x => (up_den b ρ).bind fun y => ?_
    split
    · exact .ite .ok .stuck
    · trivial
  | .zip a b, ρ => by
    simp only [denS]
    refine (up_den a ρ).bind fun x => (up_den b ρ).bind fun y => ?_
    split <;> first | exact .ok | trivial
  | .enum a, ρ => by
    simp only [denS]
    refine (up_den a ρ).bind fun x => ?_
    split <;> first | exact .ok | trivial
theorem up_denC : ∀ (e : IC) (ρ : PEnv), Up h (denC Φ' Ψ' thk' e ρ []) (denC Φ Ψ thk e ρ h)
  | .tt, ρ => by simp only [denC]; exact .ok
  | .val e, ρ => by simp only [denC]; exact (up_den e ρ).bind fun x => .ofO
  | .and a b, ρ => by simp only [denC]; exact (up_denC a ρ).bind fun x => .ite (up_denC b ρ) .ok
  | .or a b, ρ => by simp only [denC]; exact (up_denC a ρ).bind fun x => .ite .ok (up_denC b ρ)
  | .not a, ρ => by simp only [denC]; exact (up_denC a ρ).bind fun x => .ok
end
mutual
theorem up_denM (k : Nat) : ∀ (e : IM) (ρ : PEnv), Up h (denMx k Φ' Ψ' thk' e ρ []) (denM Φ Ψ thk e ρ h)
  | .set i e, ρ => by simp only [denMx, denM]; exact (up_den uΦ uΨ uT e ρ).bind fun x => .ok
  | .setO i e, ρ => by simp only [denMx, denM]; exact (up_den uΦ uΨ uT e ρ).bind fun x => .ok
  | .setT t e, ρ => by simp only [denMx, denM]; exact (up_den uΦ uΨ uT e ρ).bind fun x => .ofO
  | .par is es, ρ => by simp only [denMx, denM]; exact (up_dens uΦ uΨ uT es ρ).bind fun x => .ofO
  | .setIx i z e, ρ => by
    simp only [denMx, denM]
    refine (up_den uΦ uΨ uT e ρ).bind fun x => ?_
    split
    · rename_i e1
      try rw [e1]
      exact (up_den uΦ uΨ uT z ρ).bind fun x => .ofO
    · rename_i e1
      try rw [e1]
      refine (up_den uΦ uΨ uT z ρ).bind fun x => ?_
      rw [setD_nil]
      trivial
    · rename_i e1
      try rw [e1]
      exact (up_den uΦ uΨ uT z ρ).bind fun x => .ofO
    · trivial
  | .aug i o e, ρ => by
    simp only [denMx, denM]
    split
    · rename_i e1
      try rw [e1]
      refine (up_den uΦ uΨ uT e ρ).bind fun x => ?_
      split <;> first | exact .ok | trivial
    · trivial
  | .app i e, ρ => by
    simp only [denMx, denM]
    split
    · rename_i e1
      try rw [e1]
      exact (up_den uΦ uΨ uT e ρ).bind fun x => .ite .ok .stuck
    · trivial
  | .ext i e, ρ => by
    simp only [denMx, denM]
    split
    · rename_i e1
      try rw [e1]
      refine (up_den uΦ uΨ uT e ρ).bind fun x => ?_
      split
      · exact .ite .ok .stuck
      · trivial
    · trivial
  | .pop t i, ρ => by
    simp only [denMx, denM]
    split
    · rename_i xs e1
      try rw [e1]
      try dsimp only
      cases xs.getLast? with
      | none => trivial
      | some d => exact .ofO
    · trivial
  | .upd i e, ρ => by
    simp only [denMx, denM]
    split
    · rename_i e1
      try rw [e1]
      exact (up_den uΦ uΨ uT e ρ).bind fun x => .ofO
    · trivial
  | .augIx i z o e, ρ => by
    simp only [denMx, denM]
    split
    · rename_i e1
      try rw [e1]
      refine (up_den uΦ uΨ uT z ρ).bind fun x => ?_
      split
      · rename_i e2
        try rw [e2]
        exact (up_den uΦ uΨ uT e ρ).bind fun x => .ofO
      · trivial
    · trivial
  | .ins i z e, ρ => by
    simp only [denMx, denM]
    split
    · rename_i e1
      try rw [e1]
      exact (up_den uΦ uΨ uT z ρ).bind fun x => (up_den uΦ uΨ uT e ρ).bind fun y => .ofO
    · trivial
  | .rem i e, ρ => by
    simp only [denMx, denM]
    split
    · rename_i e1
      try rw [e1]
      exact (up_den uΦ uΨ uT e ρ).bind fun x => .ofO
    · trivial
  | .expr e, ρ => by simp only [denMx, denM]; exact (up_den uΦ uΨ uT e ρ).bind fun x => .ok
  | .ite c a b, ρ => by simp only [denMx, denM]; exact (up_denC uΦ uΨ uT c ρ).bind fun x => .ite (up_denMs k a ρ) (up_denMs k b ρ)
  | .whl c b, ρ => by simp only [denMx, denM]; exact up_whileL (fun ρ => up_denC uΦ uΨ uT c ρ) (fun ρ => up_denMs k b ρ) k ρ
  | .for_ t s b, ρ => by
    simp only [denMx, denM]
    refine (up_denS uΦ uΨ uT s ρ).bind fun its => up_forL (fun d ρ => ?_) its ρ
    split
    · rename_i e1
      try rw [e1]
      exact up_denMs k b _
    · trivial
  | .ret e, ρ => by simp only [denMx, denM]; exact (up_den uΦ uΨ uT e ρ).bind fun x => .ok
  | .retN, ρ => by simp only [denMx, denM]; exact .ok
  | .rse c m, ρ => by simp only [denMx, denM]; exact .exc
  | .brk, ρ => by simp only [denMx, denM]; exact .ok
  | .cnt, ρ => by simp only [denMx, denM]; exact .ok
  | .pass, ρ => by simp only [denMx, denM]; exact .ok
  | .frz is, ρ => by simp only [denMx, denM]; exact .ok
  | .dead, ρ => by simp only [denMx, denM]; trivial
theorem up_denMs (k : Nat) : ∀ (e : IMs) (ρ : PEnv), Up h (denMsx k Φ' Ψ' thk' e ρ []) (denMs Φ Ψ thk e ρ h)
  | .nil, ρ => by simp only [denMsx, denMs]; exact .ok
  | .cons s r, ρ => by
    simp only [denMsx, denMs]
    refine (up_denM k s ρ).bind fun x => ?_
    cases x with
    | nx ρ' => exact up_denMs k r _
    | rt _ => exact .ok
    | bk _ => exact .ok
    | ct _ => exact .ok
end
theorem up_denF (k : Nat) (b : IMs) (n : Nat) (ds : List D) : Up h (denFx k Φ' Ψ' thk' b n ds []) (denF Φ Ψ thk b n ds h) := by
  unfold denFx denF
  refine (up_denMs uΦ uΨ uT k b _).bind fun x => ?_
  cases x <;> first | exact .ok | trivial
end
theorem up_fin {h : HS} (f : Fl) : Up h (finR f []) (finR f h) := by
  unfold finR
  split <;> first | exact .ok | trivial
section
variable {h : HS}
theorem up_no : ∀ (f : Nat) (ds : List D), Up h (noPhi f ds []) (noPhi f ds h) := fun _ _ => True.intro
theorem up_noP : ∀ (f : Nat) (t t' : HS → Res D), Up h (t' []) (t h) → Up h (noPsi f t' []) (noPsi f t h) := fun _ _ _ _ => True.intro
theorem up_noT : Up h (noThk []) (noThk h) := True.intro
theorem up_word (k : Nat) (w : WordX) {t t' : HS → Res D} (u : Up h (t' []) (t h)) : Up h (wordX k w t' []) (wordR w t h) := by
  unfold wordX wordR
  have pre : Up h (preX k w []) (preR w h) := by
    unfold preX preR
    cases w.pre with
    | none => exact .ok
    | some m => exact up_denM up_no up_noP up_noT k _ _
  refine pre.bind fun x => ?_
  cases x with
  | nx ρ =>
    refine .ite ?_ .stuck
    cases e : t' [] with
    | stuck => trivial
    | ok d g =>
      rw [e] at u
      obtain ⟨rfl, u⟩ := u
      rw [u]
      exact .ite .ok ((up_denMs up_no up_noP up_noT k _ _).bind fun x => up_fin x)
    | exc d g =>
      rw [e] at u
      obtain ⟨rfl, u⟩ := u
      rw [u]
      show Up h (catchX k w d []) (catchR w d h)
      unfold catchX catchR
      refine .ite ((up_denMs up_no up_noP up_noT k _ _).bind fun x => ?_) .stuck
      cases x with
      | nx ρ => exact (up_denMs up_no up_noP up_noT k _ _).bind fun x => up_fin x
      | rt _ => exact .ok
      | bk _ => trivial
      | ct _ => trivial
  | rt _ => trivial
  | bk _ => trivial
  | ct _ => trivial
theorem up_psi (k : Nat) (wd : List WordX) : ∀ (f : Nat) (t t' : HS → Res D), Up h (t' []) (t h) → Up h (psiX k wd f t' []) (psiOf wd f t h) := fun f t t' u => by
  unfold psiX psiOf
  cases wd[f]? with
  | some w => exact Up.calm (up_word k _ u)
  | none => trivial
theorem up_phi (k : Nat) (wd : List WordX) : ∀ (ts : List DefT) (f : Nat) (ds : List D), Up h (PhiX k wd ts f ds []) (PhiL wd ts f ds h)
  | [], f, ds => True.intro
  | t :: r, f, ds => by
    unfold PhiX PhiL
    refine .ite (.ite ?_ .stuck) (up_phi k wd r f ds)
    exact up_denF (up_phi k wd r) (up_psi k wd) up_noT k _ _ _
end
/-! ### a run, by the kernel -/
def okB (d : D → Bool) : Res D → Bool
  | .ok x [] => d x
  | _ => false
def excB (e : Exc) : Res D → Bool
  | .exc x [] => decide (x.c = e.c) && decide (x.m = e.m)
  | _ => false
mutual
def sameDD : D → D → Bool
  | .non, .non => true
  | .bl a, .bl b => a == b
  | .int a, .int b => decide (a = b)
  | .str a, .str b => decide (a = b)
  | .tup a, .tup b => sameDDs a b
  | .lst a, .lst b => sameDDs a b
  | .dct a b, .dct a' b' => sameDDs a a' && sameDDs b b'
  | .fn a, .fn b => decide (a = b)
  | .hnd, .hnd => true
  | _, _ => false
def sameDDs : List D → List D → Bool
  | [], [] => true
  | a :: r, b :: s => sameDD a b && sameDDs r s
  | _, _ => false
end
mutual
theorem sameDD_eq : ∀ {a b : D}, sameDD a b = true → a = b
  | .non, b, h => by cases b <;> simp only [sameDD] at h <;> first | rfl | cases h
  | .bl x, b, h => by cases b <;> simp only [sameDD, beq_iff_eq] at h <;> first | (rw [h]) | cases h
  | .int x, b, h => by cases b <;> simp only [sameDD, decide_eq_true_eq] at h <;> first | (rw [h]) | cases h
  | .str x, b, h => by cases b <;> simp only [sameDD, decide_eq_true_eq] at h <;> first | (rw [h]) | cases h
  | .tup x, b, h => by cases b <;> simp only [sameDD] at h <;> first | (rw [sameDDs_eq h]) | cases h
  | .lst x, b, h => by cases b <;> simp only [sameDD] at h <;> first | (rw [sameDDs_eq h]) | cases h
  | .dct x y, b, h => by
    cases b <;> simp only [sameDD, Bool.and_eq_true] at h <;> first | (rw [sameDDs_eq h.1, sameDDs_eq h.2]) | cases h
  | .fn x, b, h => by cases b <;> simp only [sameDD, decide_eq_true_eq] at h <;> first | (rw [h]) | cases h
  | .hnd, b, h => by cases b <;> simp only [sameDD] at h <;> first | rfl | cases h
theorem sameDDs_eq : ∀ {a b : List D}, sameDDs a b = true → a = b
  | [], b, h => by cases b <;> simp only [sameDDs] at h <;> first | rfl | cases h
  | x :: r, b, h => by
    cases b <;> simp only [sameDDs, Bool.and_eq_true] at h <;> first | (rw [sameDD_eq h.1, sameDDs_eq h.2]) | cases h
end
theorem up_ok {h : HS} {d : D} {a b : Res D} (u : Up h a b) (e : okB (sameDD d) a = true) : b = .ok d h := by
  unfold okB at e
  split at e
  · rw [sameDD_eq e]
    exact u.2
  · cases e
theorem up_exc {h : HS} {x : Exc} {a b : Res D} (u : Up h a b) (e : excB x a = true) : b = .exc x h := by
  unfold excB at e
  split at e
  · rename_i y
    rw [Bool.and_eq_true, decide_eq_true_eq, decide_eq_true_eq] at e
    obtain ⟨c, m⟩ := x
    obtain ⟨c', m'⟩ := y
    obtain ⟨rfl, rfl⟩ := e
    exact u.2
  · cases e
end PD

set_option Elab.async false
set_option linter.all false
set_option maxRecDepth 100000
set_option maxHeartbeats 2000000
/-! Q1: plain laws of the small programs' meaning. -/
namespace PD
open PySem PySem.Spec
noncomputable abbrev Ph (ws : List WordX) (dx : List DefX) (j : Nat) : Nat → List D → HS → Res D := PhiL ws ((dx.take j).map DefX.t).reverse
/-- a call, from any later table -/
theorem ph_at (ws : List WordX) (dx : List DefX) (f : Nat) (d : DefX) (hd : dx[f]? = some d) : ∀ j, f < j → j ≤ dx.length → ∀ ds h, Ph ws dx j f ds h = if ds.length = d.ps.length then denF (Ph ws dx f) (psiOf ws) noThk d.b d.N.length ds h else .stuck
  | 0, h, _, _, _ => absurd h (Nat.not_lt_zero _)
  | j + 1, hf, hj, ds, h => by
    have hj' : j < dx.length := hj
    have hl : ((dx.take j).map DefX.t).reverse.length = j := by
      rw [List.length_reverse, List.length_map, List.length_take]
      omega
    have e : Ph ws dx (j + 1) = PhiL ws (DefX.t dx[j] :: ((dx.take j).map DefX.t).reverse) := by
      unfold Ph
      rw [List.take_succ_eq_append_getElem hj', List.map_append, List.map_cons, List.map_nil, List.reverse_append, List.reverse_singleton, List.singleton_append]
    rw [e]
    unfold PhiL
    rw [hl]
    by_cases hfj : f = j
    · subst hfj
      rw [if_pos rfl]
      have : dx[f] = d := by
        rw [List.getElem?_eq_getElem hj'] at hd
        exact Option.some.inj hd
      rw [this]
      rfl
    · rw [if_neg hfj]
      exact ph_at ws dx f d hd j (by omega) (by omega) ds h
theorem ph_all (ws : List WordX) (dx : List DefX) : PhiL ws (dx.map DefX.t).reverse = Ph ws dx dx.length := by
  unfold Ph
  rw [List.take_length]
/-- f gives r of ds (the hand h becomes h'), from each later table -/
def Does (ws : List WordX) (dx : List DefX) (f : Nat) (ds : List D) (h : HS) (r : D) (h' : HS) : Prop := ∀ j, f < j → j ≤ dx.length → Ph ws dx j f ds h = .ok r h'
theorem Does.at {ws : List WordX} {dx : List DefX} {f : Nat} {ds : List D} {h h' : HS} {r : D} (q : Does ws dx f ds h r h') (j : Nat) (h1 : f < j) (h2 : j ≤ dx.length) : Ph ws dx j f ds h = .ok r h' := q j h1 h2
/-- f raises e of ds -/
def Errs (ws : List WordX) (dx : List DefX) (f : Nat) (ds : List D) (h : HS) (e : Exc) : Prop := ∀ j, f < j → j ≤ dx.length → Ph ws dx j f ds h = .exc e h
theorem Errs.at {ws : List WordX} {dx : List DefX} {f : Nat} {ds : List D} {h : HS} {e : Exc} (q : Errs ws dx f ds h e) (j : Nat) (h1 : f < j) (h2 : j ≤ dx.length) : Ph ws dx j f ds h = .exc e h := q j h1 h2
theorem errs_of {ws : List WordX} {dx : List DefX} {f : Nat} {d : DefX} {ds : List D} {h : HS} {x : Exc} (hd : dx[f]? = some d) (hl : ds.length = d.ps.length) (e : denF (Ph ws dx f) (psiOf ws) noThk d.b d.N.length ds h = .exc x h) : Errs ws dx f ds h x := fun j h1 h2 => by
  rw [ph_at ws dx f d hd j h1 h2, if_pos hl, e]
theorem does_of {ws : List WordX} {dx : List DefX} {f : Nat} {d : DefX} {ds : List D} {h h' : HS} {r : D} (hd : dx[f]? = some d) (hl : ds.length = d.ps.length) (e : denF (Ph ws dx f) (psiOf ws) noThk d.b d.N.length ds h = .ok r h') : Does ws dx f ds h r h' := fun j h1 h2 => by
  rw [ph_at ws dx f d hd j h1 h2, if_pos hl, e]
/-! ### data -/
theorem eqv_int (a b : Int) : PyData.eqv (.int a) (.int b) = decide (a = b) := by
  by_cases h : a = b
  · subst h
    simp [PyData.eqv]
  · simp [PyData.eqv, h]
theorem eqD_int (a b : Int) : eqD (.int a) (.int b) = some (decide (a = b)) := by
  have h : (SeqAt.shaped (.int a) && SeqAt.shaped (.int b)) = true := rfl
  simp only [eqD, D.py, h, if_true, eqv_int]
/-! ### comprehensions, loops -/
theorem lcL_map {f : D → HS → Res (Option D)} {g : D → D} {h : HS} : ∀ {its : List D}, (∀ d ∈ its, f d h = .ok (some (g d)) h) → lcL f its h = .ok (its.map g) h
  | [], _ => rfl
  | d :: r, q => by
    have ih := lcL_map (f := f) (g := g) (h := h) (its := r) fun e he => q e (List.mem_cons_of_mem _ he)
    simp only [lcL, q d List.mem_cons_self, Res.bind, ih, List.map_cons]
theorem lcL_opt {f : D → HS → Res (Option D)} {g : D → Option D} {h : HS} : ∀ {its : List D}, (∀ d ∈ its, f d h = .ok (g d) h) → lcL f its h = .ok (its.filterMap g) h
  | [], _ => rfl
  | d :: r, q => by
    have ih := lcL_opt (f := f) (g := g) (h := h) (its := r) fun e he => q e (List.mem_cons_of_mem _ he)
    simp only [lcL, q d List.mem_cons_self, Res.bind, ih, List.filterMap_cons]
    cases g d <;> rfl
/-- items drawn one after another -/
theorem lcL_draw {f : D → HS → Res (Option D)} {I : HS → Prop} {P : D → Prop} : ∀ {its : List D} {h : HS}, I h → (∀ d ∈ its, ∀ h, I h → ∃ x h', f d h = .ok (some x) h' ∧ I h' ∧ P x) → ∃ xs h', lcL f its h = .ok xs h' ∧ I h' ∧ xs.length = its.length ∧ ∀ x ∈ xs, P x
  | [], h, i, _ => ⟨[], h, rfl, i, rfl, fun _ z => nomatch z⟩
  | d :: r, h, i, q => by
    obtain ⟨x, h1, e1, i1, p1⟩ := q d List.mem_cons_self h i
    obtain ⟨xs, h2, e2, i2, l2, p2⟩ := lcL_draw i1 fun e he => q e (List.mem_cons_of_mem _ he)
    refine ⟨x :: xs, h2, ?_, i2, by rw [List.length_cons, List.length_cons, l2], fun y hy => ?_⟩
    · simp only [lcL, e1, Res.bind, e2]
    · rcases List.mem_cons.mp hy with rfl | hy
      · exact p1
      · exact p2 y hy
/-- a loop by an invariant of the number of turns -/
theorem forL_inv {f : D → PEnv → HS → Res Fl} (I : Nat → PEnv → HS → Prop) : ∀ {its : List D} {k : Nat} {ρ : PEnv} {h : HS}, I k ρ h → (∀ (i : Nat) d ρ h, its[i]? = some d → I (k + i) ρ h → ∃ ρ' h', (f d ρ h = .ok (.nx ρ') h' ∨ f d ρ h = .ok (.ct ρ') h') ∧ I (k + i + 1) ρ' h') → ∃ ρ' h', forL f its ρ h = .ok (.nx ρ') h' ∧ I (k + its.length) ρ' h'
  | [], k, ρ, h, i, _ => ⟨ρ, h, rfl, i⟩
  | d :: r, k, ρ, h, i, q => by
    obtain ⟨ρ1, h1, e1, i1⟩ := q 0 d ρ h rfl i
    obtain ⟨ρ2, h2, e2, i2⟩ := forL_inv I (its := r) (k := k + 1) i1 fun j e ρ h he ij => by
      have z := q (j + 1) e ρ h (by rw [List.getElem?_cons_succ]; exact he) (by rwa [show k + (j + 1) = k + 1 + j by omega])
      rwa [show k + (j + 1) + 1 = k + 1 + j + 1 by omega] at z
    refine ⟨ρ2, h2, ?_, by rwa [List.length_cons, show k + (r.length + 1) = k + 1 + r.length by omega]⟩
    rcases e1 with e1 | e1 <;> simp only [forL, e1, Res.bind, e2]
/-- a while that ends -/
theorem whileL_inv {c : PEnv → HS → Res Bool} {f : PEnv → HS → Res Fl} (I : Nat → PEnv → HS → Prop) (J : PEnv → HS → Prop) : ∀ {m : Nat} {ρ : PEnv} {h : HS}, I m ρ h → (∀ m ρ h, I m ρ h → (∃ h', c ρ h = .ok false h' ∧ J ρ h') ∨ ∃ h1 ρ' h', c ρ h = .ok true h1 ∧ (f ρ h1 = .ok (.nx ρ') h' ∨ f ρ h1 = .ok (.ct ρ') h') ∧ ∃ m', m' < m ∧ I m' ρ' h') →
    ∃ ρ' h', whileL c f ρ h = .ok (.nx ρ') h' ∧ J ρ' h' := by
  intro m
  induction m using Nat.strongRecOn with
  | ind m ih =>
    intro ρ h i q
    rw [whileL_eq]
    rcases q m ρ h i with ⟨h', e, j⟩ | ⟨h1, ρ', h', e, e2, m', hm, i'⟩
    · exact ⟨ρ, h', by rw [e]; rfl, j⟩
    · obtain ⟨ρ2, h2, e3, j⟩ := ih m' hm i' q
      refine ⟨ρ2, h2, ?_, j⟩
      rw [e]
      rcases e2 with e2 | e2 <;> simp only [Res.bind, if_true, e2, e3]
end PD

set_option Elab.async false
set_option linter.all false
set_option maxRecDepth 100000
set_option maxHeartbeats 2000000
/-! Q2: data that equal themselves; bools in lists; the least of pairs. -/
namespace PD
open PySem PySem.Spec
mutual
/-- n lists or tuples deep at most, no dict, no def -/
def nice : Nat → D → Bool
  | _, .non => true
  | _, .bl _ => true
  | _, .int _ => true
  | _, .str x => PyData.strOk x
  | 0, _ => false
  | n + 1, .tup ds => nices n ds
  | n + 1, .lst ds => nices n ds
  | _, _ => false
def nices : Nat → List D → Bool
  | _, [] => true
  | n, d :: ds => nice n d && nices n ds
end
mutual
theorem nice_py : ∀ (n : Nat) (d : D), nice n d = true → ∃ p, d.py = some p ∧ p.canLay0 = true ∧ p.depth ≤ n
  | n, .non, _ => ⟨.none, rfl, rfl, Nat.zero_le _⟩
  | n, .bl b, _ => ⟨.bool b, rfl, rfl, Nat.zero_le _⟩
  | n, .int i, _ => ⟨.int i, rfl, rfl, Nat.zero_le _⟩
  | n, .str x, h => ⟨.str x, rfl, by simpa only [nice, PyData.canLay0] using h, Nat.zero_le _⟩
  | 0, .tup ds, h => by simp only [nice] at h; cases h
  | 0, .lst ds, h => by simp only [nice] at h; cases h
  | n + 1, .tup ds, h => by
    simp only [nice] at h
    obtain ⟨ps, e, c, l⟩ := nices_py n ds h
    exact ⟨.tuple ps, by simp only [D.py, e, Option.map_some], by simpa only [PyData.canLay0] using c, Nat.succ_le_succ l⟩
  | n + 1, .lst ds, h => by
    simp only [nice] at h
    obtain ⟨ps, e, c, l⟩ := nices_py n ds h
    exact ⟨.list ps, by simp only [D.py, e, Option.map_some], by simpa only [PyData.canLay0] using c, Nat.succ_le_succ l⟩
  | 0, .dct _ _, h => by simp only [nice] at h; cases h
  | n + 1, .dct _ _, h => by simp only [nice] at h; cases h
  | 0, .fn _, h => by simp only [nice] at h; cases h
  | n + 1, .fn _, h => by simp only [nice] at h; cases h
  | 0, .hnd, h => by simp only [nice] at h; cases h
  | n + 1, .hnd, h => by simp only [nice] at h; cases h
theorem nices_py : ∀ (n : Nat) (ds : List D), nices n ds = true → ∃ ps, D.pys ds = some ps ∧ PyData.canLayAll0 ps = true ∧ PyData.depthAll ps ≤ n
  | n, [], _ => ⟨[], rfl, rfl, Nat.zero_le _⟩
  | n, d :: ds, h => by
    simp only [nices, Bool.and_eq_true] at h
    obtain ⟨p, e1, c1, l1⟩ := nice_py n d h.1
    obtain ⟨ps, e2, c2, l2⟩ := nices_py n ds h.2
    exact ⟨p :: ps, by simp only [D.pys, e1, e2], by simp only [PyData.canLayAll0, c1, c2, Bool.and_self], Nat.max_le.mpr ⟨l1, l2⟩⟩
end
theorem eqD_self {d : D} (h : nice 60 d = true) : eqD d d = some true := by
  obtain ⟨p, e, c, l⟩ := nice_py 60 d h
  have s : SeqAt.shaped p = true := by
    unfold SeqAt.shaped
    rw [c, Bool.true_and]
    exact decide_eq_true (by omega)
  unfold eqD
  rw [e]
  simp only [s, Bool.and_self, if_true, SeqAt.eqv_refl p c]
theorem neD_self {d : D} (h : nice 60 d = true) : cmpD .ne d d = some false := by
  simp only [cmpD, eqD_self h, Option.map_some, Bool.not_true]
theorem nices_all {n : Nat} : ∀ {ds : List D}, (∀ d ∈ ds, nice n d = true) → nices n ds = true
  | [], _ => by simp only [nices]
  | d :: ds, h => by
    simp only [nices, Bool.and_eq_true]
    exact ⟨h d List.mem_cons_self, nices_all fun e he => h e (List.mem_cons_of_mem _ he)⟩
/-! bools -/
theorem dBls_map (bs : List Bool) : dBls (bs.map D.bl) = some bs := by
  induction bs with
  | nil => rfl
  | cons b r ih => simp only [List.map_cons, dBls, ih, Option.map_some]
theorem dInts_map (ns : List Int) : dInts (ns.map D.int) = some ns := by
  induction ns with
  | nil => rfl
  | cons b r ih => simp only [List.map_cons, dInts, ih, Option.map_some]
theorem pys_bl (bs : List Bool) : D.pys (bs.map D.bl) = some (bs.map PyData.bool) := by
  induction bs with
  | nil => rfl
  | cons b r ih => simp only [List.map_cons, D.pys, D.py, ih]
theorem canLay_bl (bs : List Bool) : SeqAt.shaped (.list (bs.map PyData.bool)) = true := by
  have h1 : ∀ bs : List Bool, PyData.canLayAll0 (bs.map PyData.bool) = true := fun bs => by
    induction bs with
    | nil => rfl
    | cons b r ih => simp only [List.map_cons, PyData.canLayAll0, PyData.canLay0, ih, Bool.and_self]
  have h2 : ∀ bs : List Bool, PyData.depthAll (bs.map PyData.bool) = 0 := fun bs => by
    induction bs with
    | nil => rfl
    | cons b r ih => simp only [List.map_cons, PyData.depthAll, PyData.depth, ih, Nat.max_self]
  unfold SeqAt.shaped
  simp only [PyData.canLay0, h1, PyData.depth, h2]
  decide
theorem eqv_bool (a b : Bool) : PyData.eqv (.bool a) (.bool b) = (a == b) := by simp only [PyData.eqv]
theorem memD_bl (b : Bool) (bs : List Bool) : memD (.bl b) (bs.map D.bl) = some (bs.contains b) := by
  unfold memD
  rw [pys_bl]
  simp only [D.py]
  rw [if_pos (by rw [canLay_bl]; rfl), List.any_map, List.contains_eq_any_beq]
  congr 1
  congr 1
  funext x
  simp only [Function.comp, eqv_bool]
  cases x <;> cases b <;> rfl
theorem cntD_bl (b : Bool) (bs : List Bool) : cntD (.bl b) (bs.map D.bl) = some (bs.count b) := by
  unfold cntD
  rw [pys_bl]
  simp only [D.py]
  rw [if_pos (by rw [canLay_bl]; rfl), List.countP_map]
  congr 1
/-! the least of pairs of ints -/
def prD (p : Int × Int) : D := .tup [.int p.1, .int p.2]
def prP (p : Int × Int) : PyData := .tuple [.int p.1, .int p.2]
theorem prD_py (p : Int × Int) : (prD p).py = some (prP p) := by simp only [prD, prP, D.py, D.pys, Option.map_some]
theorem pys_pr (ps : List (Int × Int)) : D.pys (ps.map prD) = some (ps.map prP) := by
  induction ps with
  | nil => rfl
  | cons p r ih => simp only [List.map_cons, D.pys, prD_py, ih]
theorem alike_pr (ps : List (Int × Int)) : alikeB (ps.map prP) = true := by
  unfold alikeB
  rw [List.all_eq_true]
  intro x hx
  obtain ⟨p, _, rfl⟩ := List.mem_map.mp hx
  rw [Bool.and_eq_true]
  refine ⟨rfl, ?_⟩
  rw [List.all_eq_true]
  intro y hy
  obtain ⟨q, _, rfl⟩ := List.mem_map.mp hy
  rfl
theorem depth_pr (ps : List (Int × Int)) : depthB (ps.map prP) = true := by
  have h : ∀ ps : List (Int × Int), PyData.depthAll (ps.map prP) ≤ 1 := fun ps => by
    induction ps with
    | nil => exact Nat.zero_le _
    | cons p r ih =>
      rw [List.map_cons]
      exact Nat.max_le.mpr ⟨Nat.le_refl 1, ih⟩
  unfold depthB
  exact decide_eq_true (by have := h ps; omega)
/-- min of a list of pairs: one of them -/
theorem minL_pr {ps : List (Int × Int)} (h : ps ≠ []) : ∃ p ∈ ps, minL (ps.map prD) = some (prD p) := by
  cases ps with
  | nil => exact absurd rfl h
  | cons p r =>
    have e : minL ((p :: r).map prD) = some (minF (prD p) (r.map prD)) := by
      unfold minL
      rw [pys_pr]
      simp only [List.map_cons]
      rw [← List.map_cons (f := prP), alike_pr, depth_pr]
      rfl
    have m := minF_mem (r.map prD) (prD p)
    rw [← List.map_cons] at m
    obtain ⟨q, hq, eq⟩ := List.mem_map.mp m
    exact ⟨q, hq, by rw [e, ← eq]⟩
end PD

set_option Elab.async false
set_option linter.all false
set_option maxRecDepth 100000
set_option maxHeartbeats 2000000
/-! Q3: tracks, rounds, rows of shut seconds, in plain numbers. -/
namespace PD
abbrev Tr := Int × Int × Int
def trD (t : Tr) : D := .tup [.int t.1, .int t.2.1, .int t.2.2]
structure TrOk (t : Tr) : Prop where
  p2 : 2 ≤ t.1
  p120 : t.1 ∣ 120
  b0 : 0 ≤ t.2.1
  bp : t.2.1 < t.1
  l1 : 1 ≤ t.2.2
  lp : t.2.2 ≤ t.1
def TrsOk (ts : List Tr) : Prop := 1 ≤ ts.length ∧ ts.length ≤ 4 ∧ ∀ t ∈ ts, TrOk t
theorem TrOk.le {t : Tr} (h : TrOk t) : t.1 ≤ 120 := Int.le_of_dvd (by decide) h.p120
/-- the round: the least that all divide -/
def rndA (a : Nat) (ts : List Tr) : Nat := ts.foldl (fun a t => Nat.lcm a t.1.natAbs) a
def rnd (ts : List Tr) : Nat := rndA 1 ts
theorem natAbs_dvd {t : Tr} (h : TrOk t) : t.1.natAbs ∣ 120 := by
  have := Int.natAbs_dvd_natAbs.mpr h.p120
  simpa using this
theorem rndA_dvd : ∀ (ts : List Tr) (a : Nat), a ∣ 120 → (∀ t ∈ ts, TrOk t) → rndA a ts ∣ 120
  | [], a, h, _ => h
  | t :: ts, a, h, q => by
    unfold rndA
    rw [List.foldl_cons]
    exact rndA_dvd ts _ (Nat.lcm_dvd h (natAbs_dvd (q t List.mem_cons_self))) fun u hu => q u (List.mem_cons_of_mem _ hu)
theorem rndA_self : ∀ (ts : List Tr) (a : Nat), a ∣ rndA a ts
  | [], a => Nat.dvd_refl a
  | t :: ts, a => by
    unfold rndA
    rw [List.foldl_cons]
    exact Nat.dvd_trans (Nat.dvd_lcm_left _ _) (rndA_self ts _)
theorem rndA_mem : ∀ (ts : List Tr) (a : Nat) (t : Tr), t ∈ ts → t.1.natAbs ∣ rndA a ts
  | u :: ts, a, t, h => by
    unfold rndA
    rw [List.foldl_cons]
    rcases List.mem_cons.mp h with rfl | h
    · exact Nat.dvd_trans (Nat.dvd_lcm_right _ _) (rndA_self ts _)
    · exact rndA_mem ts _ t h
theorem rnd_dvd {ts : List Tr} (h : ∀ t ∈ ts, TrOk t) : rnd ts ∣ 120 := rndA_dvd ts 1 (Nat.one_dvd _) h
theorem rnd_le {ts : List Tr} (h : ∀ t ∈ ts, TrOk t) : rnd ts ≤ 120 := Nat.le_of_dvd (by decide) (rnd_dvd h)
theorem rnd_pos {ts : List Tr} (h : ∀ t ∈ ts, TrOk t) : 1 ≤ rnd ts := Nat.pos_of_dvd_of_pos (rnd_dvd h) (by decide)
/-- does a track shut at a second -/
def shT (t : Tr) (s : Int) : Bool := decide ((s - t.2.1).fmod t.1 < t.2.2)
def shTs (ts : List Tr) (s : Int) : Bool := ts.any fun t => shT t s
def fl (ts : List Tr) : List Bool := (List.range (rnd ts)).map fun (k : Nat) => shTs ts (0 + (k : Int))
theorem fl_length (ts : List Tr) : (fl ts).length = rnd ts := by
  unfold fl
  rw [List.length_map, List.length_range]
theorem fl_at {ts : List Tr} {k : Nat} (h : k < rnd ts) : (fl ts)[k]? = some (shTs ts k) := by
  unfold fl
  rw [List.getElem?_map, List.getElem?_range h, Option.map_some, Int.zero_add]
theorem shT_per {t : Tr} (h : TrOk t) (s : Int) (m : Int) : shT t (s + m * t.1) = shT t s := by
  unfold shT
  have e : (s + m * t.1 - t.2.1).fmod t.1 = (s - t.2.1).fmod t.1 := by
    have h0 := h.p2
    rw [Int.fmod_eq_emod_of_nonneg _ (by omega), Int.fmod_eq_emod_of_nonneg _ (by omega), show s + m * t.1 - t.2.1 = (s - t.2.1) + m * t.1 by omega, Int.add_mul_emod_self_right]
  rw [e]
/-- the round is a period -/
theorem shTs_per {ts : List Tr} (h : ∀ t ∈ ts, TrOk t) (s m : Int) : shTs ts (s + m * rnd ts) = shTs ts s := by
  unfold shTs
  have key : ∀ t ∈ ts, shT t (s + m * rnd ts) = shT t s := fun t ht => by
    obtain ⟨c, hc⟩ := rndA_mem ts 1 t ht
    have hp : ((t.1.natAbs : Nat) : Int) = t.1 := Int.natAbs_of_nonneg (by have := (h t ht).p2; omega)
    have e : m * (rnd ts : Int) = (m * c) * t.1 := by
      show m * ((rndA 1 ts : Nat) : Int) = _
      rw [hc, Int.natCast_mul, hp, Int.mul_assoc, Int.mul_comm t.1 c]
    rw [e]
    exact shT_per (h t ht) s _
  rw [Bool.eq_iff_iff, List.any_eq_true, List.any_eq_true]
  constructor
  · rintro ⟨t, ht, e⟩
    exact ⟨t, ht, by rw [← key t ht]; exact e⟩
  · rintro ⟨t, ht, e⟩
    exact ⟨t, ht, by rw [key t ht]; exact e⟩
/-! ### rows of trues, round the round -/
/-- g has period n -/
def Per (g : Nat → Bool) (n : Nat) : Prop := ∀ k, g (k + n) = g k
theorem Per.mod {g : Nat → Bool} {n : Nat} (h : Per g n) : ∀ k, g (k % n) = g k := by
  have mul : ∀ m k, g (k + n * m) = g k := fun m => by
    induction m with
    | zero => intro k; rfl
    | succ m ih =>
      intro k
      rw [Nat.mul_succ, ← Nat.add_assoc, h, ih]
  intro k
  conv => rhs; rw [← Nat.mod_add_div k n]
  rw [mul]
/-- how many trues from s on, at most m -/
def run (g : Nat → Bool) (s : Nat) : Nat → Nat
  | 0 => 0
  | m + 1 => if g s then 1 + run g (s + 1) m else 0
theorem run_le (g : Nat → Bool) : ∀ (m s : Nat), run g s m ≤ m
  | 0, _ => Nat.le_refl _
  | m + 1, s => by
    unfold run
    split
    · have := run_le g m (s + 1)
      omega
    · exact Nat.zero_le _
theorem run_true (g : Nat → Bool) : ∀ (m s k : Nat), k < run g s m → g (s + k) = true
  | 0, _, _, h => absurd h (Nat.not_lt_zero _)
  | m + 1, s, k, h => by
    unfold run at h
    split at h
    · rename_i hg
      cases k with
      | zero => exact hg
      | succ k =>
        have := run_true g m (s + 1) k (by omega)
        rwa [show s + (k + 1) = s + 1 + k by omega]
    · exact absurd h (Nat.not_lt_zero _)
theorem run_false (g : Nat → Bool) : ∀ (m s : Nat), run g s m < m → g (s + run g s m) = false
  | 0, _, h => absurd h (Nat.not_lt_zero _)
  | m + 1, s, h => by
    unfold run at h ⊢
    split
    · rename_i hg
      rw [if_pos hg] at h
      have := run_false g m (s + 1) (by omega)
      rwa [show s + (1 + run g (s + 1) m) = s + 1 + run g (s + 1) m by omega]
    · rename_i hg
      simpa using hg
/-- one false within m: more turns do not matter -/
theorem run_more (g : Nat → Bool) : ∀ (m s k : Nat), run g s m < m → run g s (m + k) = run g s m
  | 0, _, _, h => absurd h (Nat.not_lt_zero _)
  | m + 1, s, k, h => by
    rw [show m + 1 + k = (m + k) + 1 by omega]
    unfold run at h ⊢
    split
    · rename_i hg
      rw [if_pos hg] at h
      rw [run_more g m (s + 1) k (by omega)]
    · rfl
theorem run_lt {g : Nat → Bool} : ∀ {m s k : Nat}, k < m → g (s + k) = false → run g s m ≤ k
  | 0, _, _, h, _ => absurd h (Nat.not_lt_zero _)
  | m + 1, s, k, h, e => by
    unfold run
    split
    · rename_i hg
      cases k with
      | zero =>
        have e : g s = false := e
        rw [e] at hg
        cases hg
      | succ k =>
        have := run_lt (g := g) (m := m) (s := s + 1) (k := k) (by omega) (by rwa [show s + 1 + k = s + (k + 1) by omega])
        omega
    · exact Nat.zero_le _
/-- sums -/
def sumN (f : Nat → Nat) : Nat → Nat
  | 0 => 0
  | n + 1 => sumN f n + f n
theorem sumN_congr {f h : Nat → Nat} : ∀ {n : Nat}, (∀ k, k < n → f k = h k) → sumN f n = sumN h n
  | 0, _ => rfl
  | n + 1, q => by
    unfold sumN
    rw [sumN_congr fun k hk => q k (by omega), q n (by omega)]
theorem sumN_add (f h : Nat → Nat) : ∀ n, sumN (fun k => f k + h k) n = sumN f n + sumN h n
  | 0 => rfl
  | n + 1 => by
    unfold sumN
    rw [sumN_add f h n]
    omega
theorem sumN_shift (f : Nat → Nat) : ∀ n, sumN (fun k => f (k + 1)) n + f 0 = sumN f n + f n
  | 0 => by unfold sumN; omega
  | n + 1 => by
    unfold sumN
    have := sumN_shift f n
    omega
/-- a false somewhere in the round -/
theorem run_lt_per {g : Nat → Bool} {n : Nat} (h : Per g n) (hn : 0 < n) {j : Nat} (hj : g j = false) (s : Nat) : run g s n < n := by
  -- j is hit within n turns from s
  let k := (j + n * s - s) % n
  have hk : k < n := Nat.mod_lt _ hn
  have e : g (s + k) = false := by
    have e1 : (s + k) % n = j % n := by
      show (s + (j + n * s - s) % n) % n = j % n
      have hs : s ≤ n * s := Nat.le_mul_of_pos_left s hn
      rw [Nat.add_mod, Nat.mod_mod, ← Nat.add_mod, show s + (j + n * s - s) = j + n * s by omega, Nat.add_mul_mod_self_left]
    rw [← h.mod, e1, h.mod, hj]
  exact Nat.lt_of_le_of_lt (run_lt hk e) hk
theorem run_per {g : Nat → Bool} {n : Nat} (h : Per g n) : ∀ m s, run g (s + n) m = run g s m
  | 0, _ => rfl
  | m + 1, s => by
    unfold run
    rw [h, show s + n + 1 = (s + 1) + n by omega, run_per h m (s + 1)]
theorem run_step {g : Nat → Bool} {n : Nat} (h : Per g n) (hn : 0 < n) {j : Nat} (hj : g j = false) (s : Nat) : run g s n = if g s then 1 + run g (s + 1) n else 0 := by
  have e : run g s (n + 1) = run g s n := run_more g n s 1 (run_lt_per h hn hj s)
  rw [← e]
  rfl
/-- THE FACT: the rows come to the trues -/
theorem rows_sum {g : Nat → Bool} {n : Nat} (h : Per g n) (hn : 0 < n) {j : Nat} (hj : g j = false) : sumN (fun s => if g s && !g (s + n - 1) then run g s n else 0) n = sumN (fun s => if g s then 1 else 0) n := by
  have st := run_step h hn hj
  -- a(s) = run s, b(s) = if g s then run (s+1) else 0
  have h1 : sumN (fun s => run g s n) n = sumN (fun s => (if g s then 1 else 0) + (if g s then run g (s + 1) n else 0)) n := sumN_congr fun s _ => by
    rw [st s]
    split <;> rfl
  rw [sumN_add] at h1
  have h2 : sumN (fun s => run g (s + 1) n) n = sumN (fun s => run g s n) n := by
    have := sumN_shift (fun s => run g s n) n
    have e : run g n n = run g 0 n := by
      have := run_per h n 0
      rwa [Nat.zero_add] at this
    omega
  have h3 : sumN (fun s => run g (s + 1) n) n = sumN (fun s => (if g s then run g (s + 1) n else 0) + (if !g s then run g (s + 1) n else 0)) n := sumN_congr fun s _ => by
    cases g s <;> simp
  rw [sumN_add] at h3
  -- shift the rows' sum
  let f : Nat → Nat := fun s => if g s && !g (s + n - 1) then run g s n else 0
  have h4 : sumN (fun s => f (s + 1)) n = sumN f n := by
    have := sumN_shift f n
    have e : f n = f 0 := by
      show (if g n && !g (n + n - 1) then run g n n else 0) = (if g 0 && !g (0 + n - 1) then run g 0 n else 0)
      have e1 : g n = g 0 := by have := h 0; rwa [Nat.zero_add] at this
      have e2 : g (n + n - 1) = g (0 + n - 1) := by
        have := h (n - 1)
        rw [show n - 1 + n = n + n - 1 by omega] at this
        rw [this, Nat.zero_add]
      have e3 : run g n n = run g 0 n := by have := run_per h n 0; rwa [Nat.zero_add] at this
      rw [e1, e2, e3]
    omega
  have h5 : sumN (fun s => f (s + 1)) n = sumN (fun s => if !g s then run g (s + 1) n else 0) n := sumN_congr fun s _ => by
    show (if g (s + 1) && !g (s + 1 + n - 1) then run g (s + 1) n else 0) = _
    have e : g (s + 1 + n - 1) = g s := by rw [show s + 1 + n - 1 = s + n by omega, h]
    rw [e]
    cases hg : g (s + 1) with
    | true => simp
    | false =>
      have : run g (s + 1) n = 0 := by rw [st (s + 1), hg]; rfl
      rw [this]
      simp
  show sumN f n = _
  omega
end PD

set_option Elab.async false
set_option linter.all false
set_option maxRecDepth 100000
set_option maxHeartbeats 2000000
/-! Q4: plain numbers in small programs. -/
namespace PD
open PySem PySem.Spec
theorem lcL_mapm {α : Type} {f : D → HS → Res (Option D)} {u g : α → D} {h : HS} : ∀ {xs : List α}, (∀ x ∈ xs, f (u x) h = .ok (some (g x)) h) → lcL f (xs.map u) h = .ok (xs.map g) h
  | [], _ => rfl
  | x :: r, q => by
    have ih := lcL_mapm (f := f) (u := u) (g := g) (h := h) (xs := r) fun e he => q e (List.mem_cons_of_mem _ he)
    simp only [List.map_cons, lcL, q x List.mem_cons_self, Res.bind, ih]
theorem rangeD_map (lo : Int) (n : Nat) : rangeD lo n = (List.range n).map fun (k : Nat) => D.int (lo + k) := rfl
theorem rangeD_length (lo : Int) (n : Nat) : (rangeD lo n).length = n := by
  unfold rangeD
  rw [List.length_map, List.length_range]
theorem rangeD_at {lo : Int} {n i : Nat} {d : D} (h : (rangeD lo n)[i]? = some d) : d = .int (lo + i) ∧ i < n := by
  unfold rangeD at h
  rw [List.getElem?_map, Option.map_eq_some_iff] at h
  obtain ⟨k, e, rfl⟩ := h
  obtain ⟨hl, e⟩ := List.getElem?_eq_some_iff.mp e
  rw [List.getElem_range] at e
  rw [List.length_range] at hl
  subst e
  exact ⟨rfl, hl⟩
/-- l[i], i not below 0 -/
theorem ix_nat {xs : List D} {h : HS} {k : Nat} {d : D} (e : xs[k]? = some d) : ixD h (.lst xs) (.int (k : Int)) = some d := by
  obtain ⟨hl, _⟩ := List.getElem?_eq_some_iff.mp e
  unfold ixD
  simp only [PD.atI, PD.ixN]
  rw [if_pos (by omega), if_pos (by omega)]
  simpa using e
/-- l[i], i below 0 -/
theorem ix_neg {xs : List D} {h : HS} {k : Nat} {d : D} (hk : 1 ≤ k ∧ k ≤ xs.length) (e : xs[xs.length - k]? = some d) : ixD h (.lst xs) (.int (-(k : Int))) = some d := by
  unfold ixD
  simp only [PD.atI, PD.ixN]
  rw [if_neg (by omega), if_pos (by omega)]
  have e2 : (-(k : Int) + (xs.length : Int)).toNat = xs.length - k := by omega
  simp only [e2, Option.bind_some]
  exact e
theorem ixt_nat {xs : List D} {h : HS} {k : Nat} {d : D} (e : xs[k]? = some d) : ixD h (.tup xs) (.int (k : Int)) = some d := by
  obtain ⟨hl, _⟩ := List.getElem?_eq_some_iff.mp e
  unfold ixD
  simp only [PD.atI, PD.ixN]
  rw [if_pos (by omega), if_pos (by omega)]
  simpa using e
theorem ixh_nat {hs : HS} {k : Nat} {d : D} (e : hs[k]? = some d) : ixD hs .hnd (.int (k : Int)) = some d := by
  obtain ⟨hl, _⟩ := List.getElem?_eq_some_iff.mp e
  unfold ixD
  simp only [PD.atI, PD.ixN]
  rw [if_pos (by omega), if_pos (by omega)]
  simpa using e
theorem inR_small {i : Int} (h0 : -1000000000 ≤ i) (h1 : i ≤ 1000000000) : inR i = true := by
  unfold inR
  rw [Bool.and_eq_true, decide_eq_true_eq, decide_eq_true_eq]
  constructor <;> omega
theorem mul_l {i j : Int} (h0 : -(2 ^ 64) < i) (h1 : i < 2 ^ 64) : binD .mul (.int i) (.int j) = some (.int (i * j)) := by
  unfold binD
  dsimp only
  rw [if_pos]
  unfold cmulOk
  rw [Bool.or_eq_true, Bool.and_eq_true, decide_eq_true_eq, decide_eq_true_eq]
  exact .inl ⟨h0, h1⟩
theorem mul_r {i j : Int} (h0 : -(2 ^ 64) < j) (h1 : j < 2 ^ 64) : binD .mul (.int i) (.int j) = some (.int (i * j)) := by
  unfold binD
  dsimp only
  rw [if_pos]
  unfold cmulOk
  rw [Bool.or_eq_true, Bool.and_eq_true, Bool.and_eq_true, decide_eq_true_eq, decide_eq_true_eq, decide_eq_true_eq, decide_eq_true_eq]
  exact .inr ⟨h0, h1⟩
theorem fdiv_ok {i j : Int} (h : j ≠ 0) (hz : j.natAbs < 1073741824) : binD .fdiv (.int i) (.int j) = some (.int (i.fdiv j)) := by
  unfold binD
  dsimp only
  rw [if_pos]
  rw [Bool.and_eq_true, decide_eq_true_eq, decide_eq_true_eq]
  exact ⟨h, hz⟩
theorem mod_ok {i j : Int} (h : j ≠ 0) : binD .mod (.int i) (.int j) = some (.int (i.fmod j)) := by
  unfold binD
  dsimp only
  rw [if_pos h]
theorem add_int (i j : Int) : binD .add (.int i) (.int j) = some (.int (i + j)) := rfl
theorem sub_int (i j : Int) : binD .sub (.int i) (.int j) = some (.int (i - j)) := rfl
theorem fmod_nat (a b : Nat) : ((a : Int)).fmod (b : Int) = ((a % b : Nat) : Int) := by
  rw [Int.fmod_eq_emod_of_nonneg _ (by omega)]
  omega
theorem fdiv_nat (a b : Nat) : ((a : Int)).fdiv (b : Int) = ((a / b : Nat) : Int) := by
  rw [Int.fdiv_eq_ediv_of_nonneg _ (by omega)]
  omega
/-! rows, as the programs list them -/
def rowAt (g : Nat → Bool) (n s : Nat) : List (Int × Int) := if g s && !g (s + n - 1) then [((s : Int), (run g s n : Int))] else []
def rowsOf (g : Nat → Bool) (n : Nat) : List (Int × Int) := if (List.range n).all g then [(0, (n : Int))] else (List.range n).flatMap (rowAt g n)
def gOf (ts : List Tr) : Nat → Bool := fun k => shTs ts (k : Int)
theorem gOf_per {ts : List Tr} (h : ∀ t ∈ ts, TrOk t) : Per (gOf ts) (rnd ts) := fun k => by
  show shTs ts ((k + rnd ts : Nat) : Int) = shTs ts k
  have := shTs_per h k 1
  rwa [Int.one_mul, ← Int.natCast_add] at this
def rowsP (ts : List Tr) : List (Int × Int) := rowsOf (gOf ts) (rnd ts)
def flD (ts : List Tr) : D := .lst ((fl ts).map .bl)
theorem fl_ix {ts : List Tr} {h : HS} {k : Nat} (hk : k < rnd ts) : ixD h (flD ts) (.int (k : Int)) = some (.bl (gOf ts k)) := ix_nat (by rw [List.getElem?_map, fl_at hk]; rfl)
theorem fl_ixp {ts : List Tr} (ho : ∀ t ∈ ts, TrOk t) {h : HS} {k : Nat} (hk : k < rnd ts) : ixD h (flD ts) (.int ((k : Int) - 1)) = some (.bl (gOf ts (k + rnd ts - 1))) := by
  cases k with
  | zero =>
    rw [show ((0 : Nat) : Int) - 1 = -((1 : Nat) : Int) by omega]
    refine ix_neg ⟨Nat.le_refl _, by rw [List.length_map, fl_length]; exact rnd_pos ho⟩ ?_
    rw [List.length_map, fl_length, List.getElem?_map, fl_at (by have := rnd_pos ho; omega), Nat.zero_add]
    rfl
  | succ k =>
    rw [show ((k + 1 : Nat) : Int) - 1 = (k : Int) by omega, fl_ix (by omega), show k + 1 + rnd ts - 1 = k + rnd ts by omega, gOf_per ho]
theorem fl_ixm {ts : List Tr} (ho : ∀ t ∈ ts, TrOk t) {h : HS} (k : Nat) : ixD h (flD ts) (.int ((k : Int).fmod (rnd ts : Int))) = some (.bl (gOf ts k)) := by
  rw [fmod_nat, fl_ix (Nat.mod_lt _ (rnd_pos ho)), (gOf_per ho).mod]
theorem fl_no {ts : List Tr} : memD (.bl false) ((fl ts).map D.bl) = some (!(List.range (rnd ts)).all (gOf ts)) := by
  rw [memD_bl]
  congr 1
  unfold fl
  rw [Bool.eq_iff_iff, List.contains_iff_mem, List.mem_map, Bool.not_eq_true', List.all_eq_false]
  constructor
  · rintro ⟨k, hk, e⟩
    refine ⟨k, hk, ?_⟩
    unfold gOf
    rw [Int.zero_add] at e
    rw [e]
    exact Bool.false_ne_true
  · rintro ⟨k, hk, e⟩
    refine ⟨k, hk, ?_⟩
    rw [Int.zero_add]
    unfold gOf at e
    simpa using e
theorem range_all {g : Nat → Bool} {n : Nat} (h : (List.range n).all g = false) : ∃ j, j < n ∧ g j = false := by
  rw [List.all_eq_false] at h
  obtain ⟨j, hj, e⟩ := h
  exact ⟨j, List.mem_range.mp hj, by simpa using e⟩
theorem rowsUp_len (g : Nat → Bool) (n : Nat) : ∀ k, ((List.range k).flatMap (rowAt g n)).length ≤ k
  | 0 => Nat.le_refl _
  | k + 1 => by
    rw [List.range_succ, List.flatMap_append, List.length_append]
    have := rowsUp_len g n k
    have h1 : ([k].flatMap (rowAt g n)).length ≤ 1 := by
      simp only [List.flatMap_cons, List.flatMap_nil, List.append_nil]
      unfold rowAt
      split <;> simp
    omega
theorem rowsUp_succ (g : Nat → Bool) (n k : Nat) : (List.range (k + 1)).flatMap (rowAt g n) = (List.range k).flatMap (rowAt g n) ++ rowAt g n k := by
  rw [List.range_succ, List.flatMap_append]
  simp only [List.flatMap_cons, List.flatMap_nil, List.append_nil]

section
variable {Φ : Nat → List D → HS → Res D} {Ψ : Nat → (HS → Res D) → HS → Res D} {thk : HS → Res D} {m : IM} {r : IMs} {ρ ρ' : PEnv} {h h' : HS} {d : D}
theorem ms_nx (e : denM Φ Ψ thk m ρ h = .ok (.nx ρ') h') : denMs Φ Ψ thk (.cons m r) ρ h = denMs Φ Ψ thk r ρ' h' := by
  simp only [denMs, e, Res.bind]
theorem ms_rt (e : denM Φ Ψ thk m ρ h = .ok (.rt d) h') : denMs Φ Ψ thk (.cons m r) ρ h = .ok (.rt d) h' := by
  simp only [denMs, e, Res.bind]
theorem f_rt {b : IMs} {n : Nat} {ds : List D} (e : denMs Φ Ψ thk b (ds.map .val ++ List.replicate (n - ds.length) .no) h = .ok (.rt d) h') : denF Φ Ψ thk b n ds h = .ok d h' := by
  simp only [denF, e, Res.bind]
theorem f_nx {b : IMs} {n : Nat} {ds : List D} (e : denMs Φ Ψ thk b (ds.map .val ++ List.replicate (n - ds.length) .no) h = .ok (.nx ρ') h') : denF Φ Ψ thk b n ds h = .ok .non h' := by
  simp only [denF, e, Res.bind]
/-- a for, by what stands at each turn -/
theorem for_inv {t : IT} {s : IS} {b : IMs} {its : List D} {h1 : HS} (I : Nat → PEnv → HS → Prop) (hs : denS Φ Ψ thk s ρ h = .ok its h1) (i0 : I 0 ρ h1)
    (st : ∀ (i : Nat) d ρ h, its[i]? = some d → I i ρ h → ∃ ρ1 ρ' h', asgT t d ρ = some ρ1 ∧ (denMs Φ Ψ thk b ρ1 h = .ok (.nx ρ') h' ∨ denMs Φ Ψ thk b ρ1 h = .ok (.ct ρ') h') ∧ I (i + 1) ρ' h') :
    ∃ ρ' h', denM Φ Ψ thk (.for_ t s b) ρ h = .ok (.nx ρ') h' ∧ I its.length ρ' h' := by
  have z := forL_inv (f := fun d ρ h => match asgT t d ρ with
    | some ρ' => denMs Φ Ψ thk b ρ' h
    | none => .stuck) I (its := its) (k := 0) i0 fun i d ρ h hd hi => by
    rw [Nat.zero_add] at hi ⊢
    obtain ⟨ρ1, ρ', h', e1, e2, i2⟩ := st i d ρ h hd hi
    refine ⟨ρ', h', ?_, i2⟩
    rw [e1]
    exact e2
  obtain ⟨ρ', h', e, i⟩ := z
  rw [Nat.zero_add] at i
  refine ⟨ρ', h', ?_, i⟩
  simp only [denM, hs, Res.bind]
  exact e
/-- a while, by a measure -/
theorem whl_inv {c : IC} {b : IMs} (I : Nat → PEnv → HS → Prop) (J : PEnv → HS → Prop) {m : Nat} (i0 : I m ρ h)
    (st : ∀ m ρ h, I m ρ h → (∃ h', denC Φ Ψ thk c ρ h = .ok false h' ∧ J ρ h') ∨ ∃ h1 ρ' h', denC Φ Ψ thk c ρ h = .ok true h1 ∧ (denMs Φ Ψ thk b ρ h1 = .ok (.nx ρ') h' ∨ denMs Φ Ψ thk b ρ h1 = .ok (.ct ρ') h') ∧ ∃ m', m' < m ∧ I m' ρ' h') :
    ∃ ρ' h', denM Φ Ψ thk (.whl c b) ρ h = .ok (.nx ρ') h' ∧ J ρ' h' := by
  obtain ⟨ρ', h', e, j⟩ := whileL_inv (c := denC Φ Ψ thk c) (f := denMs Φ Ψ thk b) I J i0 st
  refine ⟨ρ', h', ?_, j⟩
  simp only [denM]
  exact e
theorem s_rng1 {e : IE} {n : Nat} {h1 : HS} (he : den Φ Ψ thk e ρ h = .ok (.int (n : Int)) h1) (hn : n ≤ 1000000000) : denS Φ Ψ thk (.rng1 e) ρ h = .ok (rangeD 0 n) h1 := by
  have hr : inR (n : Int) = true := inR_small (by omega) (by omega)
  simp only [denS, he, Res.bind, hr, if_true, Int.toNat_natCast]
/-- one turn of a comprehension -/
noncomputable def lcTurn (Φ : Nat → List D → HS → Res D) (Ψ : Nat → (HS → Res D) → HS → Res D) (thk : HS → Res D) (vs : List Nat) (t : IT) (c : IC) (e : IE) (ρ : PEnv) : D → HS → Res (Option D) := fun d h => match asgT t d (wipeP ρ vs) with
  | some ρ' => (denC Φ Ψ thk c ρ' h).bind fun k h => if k then (den Φ Ψ thk e ρ' h).bind fun x h => .ok (some x) h else .ok none h
  | none => .stuck
theorem turn_tt {vs : List Nat} {t : IT} {e : IE} {x : D} (ha : asgT t d (wipeP ρ vs) = some ρ') (he : den Φ Ψ thk e ρ' h = .ok x h') : lcTurn Φ Ψ thk vs t .tt e ρ d h = .ok (some x) h' := by
  unfold lcTurn
  rw [ha]
  simp only [denC, Res.bind, if_true, he]
theorem turn_if {vs : List Nat} {t : IT} {c : IC} {e : IE} {x : D} {k : Bool} {h1 : HS} (ha : asgT t d (wipeP ρ vs) = some ρ') (hc : denC Φ Ψ thk c ρ' h = .ok k h1) (he : k = true → den Φ Ψ thk e ρ' h1 = .ok x h') (hn : k = false → h' = h1) : lcTurn Φ Ψ thk vs t c e ρ d h = .ok (if k then some x else none) h' := by
  unfold lcTurn
  rw [ha]
  cases k with
  | true => simp only [hc, Res.bind, if_true, he rfl]
  | false =>
    rw [hn rfl]
    simp only [hc, Res.bind, Bool.false_eq_true, if_false]
theorem lc_of {vs : List Nat} {t : IT} {s : IS} {c : IC} {e : IE} {its xs : List D} {h1 h2 : HS} (hs : denS Φ Ψ thk s ρ h = .ok its h1) (hl : its.length ≤ line) (he : lcL (lcTurn Φ Ψ thk vs t c e ρ) its h1 = .ok xs h2) : den Φ Ψ thk (.lc vs t s c e) ρ h = .ok (.lst xs) h2 := by
  have z : den Φ Ψ thk (.lc vs t s c e) ρ h = (Res.ok its h1).bind fun its h => (calmR (lcL (lcTurn Φ Ψ thk vs t c e ρ) its h)).bind fun ds h => if its.length ≤ line then .ok (.lst ds) h else .stuck := by
    rw [← hs]
    simp only [den]
    rfl
  rw [z]
  simp only [Res.bind, he, calmR, if_pos hl]
theorem m_ret {e : IE} (he : den Φ Ψ thk e ρ h = .ok d h') : denM Φ Ψ thk (.ret e) ρ h = .ok (.rt d) h' := by
  simp only [denM, he, Res.bind]
theorem e_bi {b : BI} {a : IE} {x : D} (ha : den Φ Ψ thk a ρ h = .ok x h') (hb : biD b [x] = some d) : den Φ Ψ thk (.bi b (.cons a .nil)) ρ h = .ok d h' := by
  simp only [den, dens, ha, Res.bind, hb, ofO]
theorem ms_nil_ : denMs Φ Ψ thk .nil ρ h = .ok (.nx ρ) h := by
  simp only [denMs]
theorem m_ite_t {c : IC} {a b : IMs} {r : Res Fl} (hc : denC Φ Ψ thk c ρ h = .ok true h') (ha : denMs Φ Ψ thk a ρ h' = r) : denM Φ Ψ thk (.ite c a b) ρ h = r := by
  simp only [denM, hc, Res.bind, if_true, ha]
theorem m_ite_f {c : IC} {a b : IMs} {r : Res Fl} (hc : denC Φ Ψ thk c ρ h = .ok false h') (hb : denMs Φ Ψ thk b ρ h' = r) : denM Φ Ψ thk (.ite c a b) ρ h = r := by
  simp only [denM, hc, Res.bind, Bool.false_eq_true, if_false, hb]
end
end PD

set_option Elab.async false
set_option linter.all false
set_option maxRecDepth 100000
set_option maxHeartbeats 2000000
/-! Q5: what rows come to. -/
namespace PD
def trues (g : Nat → Bool) (n : Nat) : Nat := sumN (fun s => if g s then 1 else 0) n
theorem trues_all {g : Nat → Bool} : ∀ {n : Nat}, (∀ k, k < n → g k = true) → trues g n = n
  | 0, _ => rfl
  | n + 1, h => by
    unfold trues sumN
    rw [if_pos (h n (by omega))]
    have := trues_all (g := g) (n := n) fun k hk => h k (by omega)
    unfold trues at this
    omega
theorem trues_pos {g : Nat → Bool} : ∀ {n k : Nat}, k < n → g k = true → 1 ≤ trues g n
  | 0, k, h, _ => absurd h (Nat.not_lt_zero _)
  | n + 1, k, h, hg => by
    unfold trues sumN
    by_cases hk : k = n
    · subst hk
      rw [if_pos hg]
      omega
    · have := trues_pos (g := g) (n := n) (k := k) (by omega) hg
      unfold trues at this
      omega
theorem sum_rows (g : Nat → Bool) (n : Nat) : ∀ k, (((List.range k).flatMap (rowAt g n)).map (·.2)).sum = ((sumN (fun s => if g s && !g (s + n - 1) then run g s n else 0) k : Nat) : Int)
  | 0 => by simp [sumN]
  | k + 1 => by
    have e : sumN (fun s => if g s && !g (s + n - 1) then run g s n else 0) (k + 1) = sumN (fun s => if g s && !g (s + n - 1) then run g s n else 0) k + (if g k && !g (k + n - 1) then run g k n else 0) := rfl
    have e2 : ((rowAt g n k).map (·.2)).sum = (((if g k && !g (k + n - 1) then run g k n else 0) : Nat) : Int) := by
      unfold rowAt
      split <;> simp
    rw [rowsUp_succ, List.map_append, List.sum_append, sum_rows g n k, e, Int.natCast_add, e2]
/-- the rows come to the trues -/
theorem rowsOf_sum {g : Nat → Bool} {n : Nat} (h : Per g n) (hn : 0 < n) : ((rowsOf g n).map (·.2)).sum = (trues g n : Int) := by
  unfold rowsOf
  cases hall : (List.range n).all g with
  | true =>
    rw [if_pos rfl]
    have : trues g n = n := trues_all fun k hk => List.all_eq_true.mp hall k (List.mem_range.mpr hk)
    rw [this]
    simp
  | false =>
    rw [if_neg Bool.false_ne_true, sum_rows]
    obtain ⟨j, _, hj⟩ := range_all hall
    rw [rows_sum h hn hj]
    rfl
theorem rowsOf_ne {g : Nat → Bool} {n k : Nat} (h : Per g n) (hk : k < n) (hg : g k = true) : rowsOf g n ≠ [] := fun z => by
  have s := rowsOf_sum h (Nat.zero_lt_of_lt hk)
  rw [z] at s
  have := trues_pos hk hg
  simp at s
  omega
/-- a row's facts -/
theorem mem_rows {g : Nat → Bool} {n : Nat} (h : Per g n) (hn : 0 < n) {p : Int × Int} (hp : p ∈ rowsOf g n) : ∃ s L : Nat, p = ((s : Int), (L : Int)) ∧ s < n ∧ 1 ≤ L ∧ L ≤ n ∧ (∀ k, k < L → g (s + k) = true) ∧ (L < n → g (s + L) = false ∧ g (s + n - 1) = false) := by
  unfold rowsOf at hp
  cases hall : (List.range n).all g with
  | true =>
    rw [hall, if_pos rfl, List.mem_singleton] at hp
    have ha : ∀ k, g k = true := fun k => by
      rw [← h.mod]
      exact List.all_eq_true.mp hall _ (List.mem_range.mpr (Nat.mod_lt _ hn))
    exact ⟨0, n, hp, hn, hn, Nat.le_refl _, fun k _ => ha _, fun z => absurd z (Nat.lt_irrefl _)⟩
  | false =>
    rw [hall, if_neg Bool.false_ne_true, List.mem_flatMap] at hp
    obtain ⟨s, hs, hp⟩ := hp
    obtain ⟨j, _, hj⟩ := range_all hall
    have hs := List.mem_range.mp hs
    unfold rowAt at hp
    split at hp
    · rename_i hc
      rw [Bool.and_eq_true, Bool.not_eq_true'] at hc
      rw [List.mem_singleton] at hp
      have hlt := run_lt_per h hn hj s
      refine ⟨s, run g s n, hp, hs, ?_, Nat.le_of_lt hlt, fun k hk => run_true g n s k hk, fun _ => ⟨run_false g n s hlt, hc.2⟩⟩
      rw [run_step h hn hj s, if_pos hc.1]
      omega
    · cases hp
theorem count_false {ts : List Tr} : ((fl ts).count false : Nat) + trues (gOf ts) (rnd ts) = rnd ts := by
  unfold fl
  generalize rnd ts = n
  induction n with
  | zero => rfl
  | succ n ih =>
    rw [List.range_succ, List.map_append, List.count_append]
    unfold trues sumN
    unfold trues at ih
    simp only [List.map_cons, List.map_nil, Int.zero_add] at ih ⊢
    have e : gOf ts n = shTs ts (n : Int) := rfl
    rw [e]
    cases shTs ts (n : Int) <;> simp <;> omega
theorem shT_begin {t : Tr} (o : TrOk t) : shT t t.2.1 = true := by
  unfold shT
  rw [Int.sub_self, Int.zero_fmod]
  exact decide_eq_true (by have := o.l1; omega)
theorem rowsP_ne {ts : List Tr} (o : TrsOk ts) : rowsP ts ≠ [] := by
  obtain ⟨t, r, rfl⟩ : ∃ t r, ts = t :: r := by
    cases ts with
    | nil => exact absurd o.1 (by decide)
    | cons t r => exact ⟨t, r, rfl⟩
  have ot := o.2.2 t List.mem_cons_self
  have hb : t.2.1 = ((t.2.1.toNat : Nat) : Int) := (Int.toNat_of_nonneg ot.b0).symm
  have hp := gOf_per o.2.2
  have hg : gOf (t :: r) t.2.1.toNat = true := by
    show shTs (t :: r) ((t.2.1.toNat : Nat) : Int) = true
    rw [← hb]
    unfold shTs
    rw [List.any_cons, shT_begin ot]
    rfl
  rw [← hp.mod] at hg
  exact rowsOf_ne hp (Nat.mod_lt _ (rnd_pos o.2.2)) hg
def negP (p : Int × Int) : Int × Int := (0 - p.2, p.1)
/-- the least of the rows turned: the longest, its least begin -/
theorem rowsP_min {ts : List Tr} (o : TrsOk ts) : ∃ q, minL (((rowsP ts).map negP).map prD) = some (prD q) := by
  obtain ⟨q, _, e⟩ := minL_pr (ps := (rowsP ts).map negP) fun z => rowsP_ne o (List.map_eq_nil_iff.mp z)
  exact ⟨q, e⟩
theorem rowsP_len {ts : List Tr} (o : TrsOk ts) : (rowsP ts).length ≤ 120 := by
  have h := rnd_le o.2.2
  have h1 := rnd_pos o.2.2
  unfold rowsP rowsOf
  split
  · simp
  · have := rowsUp_len (gOf ts) (rnd ts) (rnd ts)
    omega
end PD

set_option Elab.async false
set_option linter.all false
set_option maxRecDepth 100000
set_option maxHeartbeats 2000000
/-! QA: what a thing is: an int within bounds, a tuple of so many. -/
namespace PD
open PySem PySem.Spec
theorem one_line : (1 ≤ line) = True := by unfold line; simp
theorem two_line : (2 ≤ line) = True := by unfold line; simp
theorem thr_line : (3 ≤ line) = True := by unfold line; simp
theorem zero_line : (0 ≤ line) = True := by unfold line; simp
/-- neither a def nor the hand -/
def fin1 : D → Bool
  | .fn _ => false
  | .hnd => false
  | _ => true
def elts : D → List D
  | .tup xs => xs
  | .lst xs => xs
  | _ => []
/-- nor are they in it, two deep -/
def fin2 (d : D) : Bool := fin1 d && (elts d).all fin1
def fin3 (d : D) : Bool := fin1 d && (elts d).all fin2
def isIntD : D → Bool
  | .int _ => true
  | _ => false
def withinD (d : D) (lo hi : Int) : Bool := match d with
  | .int i => decide (lo ≤ i) && decide (i ≤ hi)
  | _ => false
def sizedD (d : D) (lo hi : Int) : Bool := match d with
  | .tup xs => decide (lo ≤ xs.length) && decide ((xs.length : Int) ≤ hi)
  | _ => false
theorem all_mem {α : Type} {p : α → Bool} {xs : List α} (h : xs.all p = true) {x : α} (hx : x ∈ xs) : p x = true := List.all_eq_true.mp h x hx
/-- things nested, of nothing -/
inductive OddD : D → Prop
  | non : OddD .non
  | str : OddD (.str "?")
  | dct : OddD (.dct [] [])
  | tup {d : D} : OddD d → OddD (.tup [d])
  | lst {d : D} : OddD d → OddD (.lst [d])
theorem OddD.fin1 {d : D} (h : OddD d) : PD.fin1 d = true := by cases h <;> rfl
theorem OddD.fin2 {d : D} (h : OddD d) : PD.fin2 d = true := by
  unfold PD.fin2
  rw [h.fin1, Bool.true_and]
  cases h with
  | tup q => simp only [elts, List.all_cons, List.all_nil, q.fin1, Bool.and_self]
  | lst q => simp only [elts, List.all_cons, List.all_nil, q.fin1, Bool.and_self]
  | _ => rfl
theorem OddD.fin3 {d : D} (h : OddD d) : PD.fin3 d = true := by
  unfold PD.fin3
  rw [h.fin1, Bool.true_and]
  cases h with
  | tup q => simp only [elts, List.all_cons, List.all_nil, q.fin2, Bool.and_self]
  | lst q => simp only [elts, List.all_cons, List.all_nil, q.fin2, Bool.and_self]
  | _ => rfl
theorem OddD.within {d : D} (h : OddD d) (lo hi : Int) : withinD d lo hi = false := by cases h <;> rfl
/-- a comprehension of bools -/
theorem lcL_all {f : D → HS → Res (Option D)} {g : D → Bool} {h : HS} {xs : List D} (q : ∀ x ∈ xs, f x h = .ok (some (.bl (g x))) h) : lcL f xs h = .ok ((xs.map g).map D.bl) h := by
  rw [lcL_map (g := fun x => .bl (g x)) q, List.map_map]
  rfl
theorem bi_all (bs : List Bool) : biD .all [.lst (bs.map D.bl)] = some (.bl (bs.all id)) := by simp only [biD, dBls_map, Option.map_some]
theorem bi_any (bs : List Bool) : biD .any [.lst (bs.map D.bl)] = some (.bl (bs.any id)) := by simp only [biD, dBls_map, Option.map_some]
theorem all_id {α : Type} (g : α → Bool) (xs : List α) : (xs.map g).all id = xs.all g := by
  rw [List.all_map]
  rfl
theorem any_id {α : Type} (g : α → Bool) (xs : List α) : (xs.map g).any id = xs.any g := by
  rw [List.any_map]
  rfl
theorem bi_len_t (xs : List D) : biD .len [.tup xs] = some (.int xs.length) := rfl
theorem bi_len_l (xs : List D) : biD .len [.lst xs] = some (.int xs.length) := rfl
theorem bi_tuple (xs : List D) : biD .tuple [.lst xs] = some (.tup xs) := rfl
/-! a comprehension's turn where the target is a name -/
section
variable {Φ : Nat → List D → HS → Res D} {Ψ : Nat → (HS → Res D) → HS → Res D} {thk : HS → Res D} {ρ ρ' : PEnv} {h h' : HS} {d x : D}
theorem s_val {e : IE} {xs : List D} (he : den Φ Ψ thk e ρ h = .ok (.tup xs) h') : denS Φ Ψ thk (.val e) ρ h = .ok xs h' := by
  simp only [denS, he, Res.bind, seqOf, ofO]
theorem s_valL {e : IE} {xs : List D} (he : den Φ Ψ thk e ρ h = .ok (.lst xs) h') : denS Φ Ψ thk (.val e) ρ h = .ok xs h' := by
  simp only [denS, he, Res.bind, seqOf, ofO]
theorem e_var {i : Nat} (e : ρ[i]? = some (.val d)) : den Φ Ψ thk (.var i) ρ h = .ok d h := by
  simp only [den, e]
end
def IMs.hd : IMs → IM
  | .cons s _ => s
  | .nil => .pass
def IMs.tl : IMs → IMs
  | .cons _ r => r
  | .nil => .nil
section
variable {Φ : Nat → List D → HS → Res D} {Ψ : Nat → (HS → Res D) → HS → Res D} {thk : HS → Res D} {ρ ρ' : PEnv} {h h' : HS} {b : IMs}
theorem ms_hd (e : denM Φ Ψ thk b.hd ρ h = .ok (.nx ρ') h') : denMs Φ Ψ thk b ρ h = denMs Φ Ψ thk b.tl ρ' h' := by
  cases b with
  | nil =>
    simp only [IMs.hd, denM, Res.ok.injEq, Fl.nx.injEq] at e
    rw [e.1, e.2]
    rfl
  | cons s r => exact ms_nx e
end
/-! ### the hand -/
def HandOk (hs : HS) : Prop := ∃ (cells : List Int) (pos v s c : Int), hs = [.lst (cells.map D.int), .int pos, .int v, .int s, .int c] ∧ 0 ≤ pos
theorem hand0_ok (m0 : Hd) (ns : List Int) : HandOk (hand0 m0 ns) := ⟨cellsOf m0 ns, 0, 0, startOf m0 (cellsOf m0 ns).length, 0, rfl, Int.le_refl 0⟩
theorem hx0 (a b c d e : D) : ixD [a, b, c, d, e] .hnd (.int 0) = some a := rfl
theorem hx1 (a b c d e : D) : ixD [a, b, c, d, e] .hnd (.int 1) = some b := rfl
theorem hx2 (a b c d e : D) : ixD [a, b, c, d, e] .hnd (.int 2) = some c := rfl
theorem hx3 (a b c d e : D) : ixD [a, b, c, d, e] .hnd (.int 3) = some d := rfl
theorem hx4 (a b c d e : D) : ixD [a, b, c, d, e] .hnd (.int 4) = some e := rfl
theorem hs1_ (a b c d e x : D) : setD [a, b, c, d, e] (.int 1) x = some [a, x, c, d, e] := rfl
theorem hs2_ (a b c d e x : D) : setD [a, b, c, d, e] (.int 2) x = some [a, b, x, d, e] := rfl
theorem hs3_ (a b c d e x : D) : setD [a, b, c, d, e] (.int 3) x = some [a, b, c, x, e] := rfl
theorem hs4_ (a b c d e x : D) : setD [a, b, c, d, e] (.int 4) x = some [a, b, c, d, x] := rfl
theorem bi_int (i : Int) : biD .int [.int i] = some (.int i) := rfl
theorem bi_lenl (xs : List D) : biD .len [.lst xs] = some (.int xs.length) := rfl
theorem pow18 : binD .pow (.int 10) (.int 18) = some (.int 1000000000000000000) := by
  unfold binD
  dsimp only
  rw [if_pos (by decide)]
  rfl
theorem fm_b (i : Int) {j : Int} (h : 0 < j) : 0 ≤ i.fmod j ∧ i.fmod j < j := ⟨Int.fmod_nonneg_of_pos i h, Int.fmod_lt_of_pos i h⟩
theorem any_at {α : Type} (u : α → D) {xs : List α} {d : Int} {hs : HS} (h0 : 0 ≤ d) (h1 : d < xs.length) : ∃ x ∈ xs, ixD hs (.lst (xs.map u)) (.int d) = some (u x) := by
  have hl : d.toNat < xs.length := by omega
  refine ⟨xs[d.toNat], List.getElem_mem hl, ?_⟩
  have z := ix_nat (h := hs) (xs := xs.map u) (k := d.toNat) (d := u xs[d.toNat]) (by rw [List.getElem?_map, List.getElem?_eq_getElem hl]; rfl)
  rwa [Int.toNat_of_nonneg h0] at z
theorem s_seqv {Φ : Nat → List D → HS → Res D} {Ψ : Nat → (HS → Res D) → HS → Res D} {thk : HS → Res D} {ρ : PEnv} {h : HS} {i : Nat} {xs : List D} (e : ρ[i]? = some (.val (.tup xs))) : denS Φ Ψ thk (.val (.var i)) ρ h = .ok xs h := s_val (e_var e)
end PD

set_option Elab.async false
set_option linter.all false
set_option maxRecDepth 100000
set_option maxHeartbeats 2000000
/-! QB: shares in lowest terms, the first greatest, numbers in lists. -/
namespace PD
open PySem PySem.Spec
theorem frac_parts (a : Nat) {n : Nat} (hn : 0 < n) : ∃ g x y, g = Nat.gcd a n ∧ 0 < g ∧ a = g * x ∧ n = g * y ∧ a / g = x ∧ n / g = y ∧ 0 < y := by
  have hg : 0 < Nat.gcd a n := Nat.gcd_pos_of_pos_right a hn
  obtain ⟨x, hx⟩ := Nat.gcd_dvd_left a n
  obtain ⟨y, hy⟩ := Nat.gcd_dvd_right a n
  refine ⟨Nat.gcd a n, x, y, rfl, hg, hx, hy, ?_, ?_, ?_⟩
  · conv => lhs; lhs; rw [hx]
    exact Nat.mul_div_cancel_left x hg
  · conv => lhs; lhs; rw [hy]
    exact Nat.mul_div_cancel_left y hg
  · rcases Nat.eq_zero_or_pos y with h | h
    · rw [h, Nat.mul_zero] at hy
      omega
    · exact h
/-- two shares of one whole -/
theorem frac_lt {a b n : Nat} (hn : 0 < n) : (a / Nat.gcd a n) * (n / Nat.gcd b n) < (b / Nat.gcd b n) * (n / Nat.gcd a n) ↔ a < b := by
  obtain ⟨g, x, y, hg, g0, ha, hy, e1, e2, y0⟩ := frac_parts a hn
  obtain ⟨k, u, v, hk, k0, hb, hv, e3, e4, v0⟩ := frac_parts b hn
  rw [← hg, ← hk, e1, e2, e3, e4]
  have key1 : (g * k) * (x * v) = n * a := by rw [ha, hv]; simp only [Nat.mul_assoc, Nat.mul_comm, Nat.mul_left_comm]
  have key2 : (g * k) * (u * y) = n * b := by rw [hb, hy]; simp only [Nat.mul_assoc, Nat.mul_comm, Nat.mul_left_comm]
  have gk : 0 < g * k := Nat.mul_pos g0 k0
  constructor
  · intro h
    have := Nat.mul_lt_mul_of_pos_left h gk
    rw [key1, key2] at this
    exact Nat.lt_of_mul_lt_mul_left this
  · intro h
    have := Nat.mul_lt_mul_of_pos_left h hn
    rw [← key1, ← key2] at this
    exact Nat.lt_of_mul_lt_mul_left this
theorem frac_cross {a n : Nat} (hn : 0 < n) : (a / Nat.gcd a n) * n = a * (n / Nat.gcd a n) := by
  obtain ⟨g, x, y, hg, g0, ha, hy, e1, e2, y0⟩ := frac_parts a hn
  rw [← hg, e1, e2, ha]
  conv => lhs; rw [hy]
  simp only [Nat.mul_assoc, Nat.mul_comm, Nat.mul_left_comm]
theorem frac_val {a n : Nat} (hn : 0 < n) : (a / Nat.gcd a n) * n / (n / Nat.gcd a n) = a := by
  rw [frac_cross hn]
  obtain ⟨g, x, y, hg, g0, ha, hy, e1, e2, y0⟩ := frac_parts a hn
  rw [← hg, e2]
  exact Nat.mul_div_cancel a y0
/-! ### the first greatest, the first least -/
def amax (o : Nat → Nat) : Nat → Nat
  | 0 => 0
  | k + 1 => if o (amax o k) < o k then k else amax o k
def amin (o : Nat → Nat) : Nat → Nat
  | 0 => 0
  | k + 1 => if o k < o (amin o k) then k else amin o k
theorem amax_spec (o : Nat → Nat) : ∀ k, 0 < k → amax o k < k ∧ (∀ b, b < k → o b ≤ o (amax o k)) ∧ ∀ b, b < amax o k → o b < o (amax o k)
  | 0, h => absurd h (Nat.lt_irrefl 0)
  | 1, _ => by
    have e : amax o 1 = 0 := by simp only [amax, Nat.lt_irrefl, if_false]
    rw [e]
    exact ⟨Nat.zero_lt_one, fun b hb => by rw [show b = 0 by omega]; exact Nat.le_refl _, fun b hb => absurd hb (Nat.not_lt_zero _)⟩
  | k + 2, _ => by
    obtain ⟨h1, h2, h3⟩ := amax_spec o (k + 1) (Nat.succ_pos _)
    have e : amax o (k + 2) = if o (amax o (k + 1)) < o (k + 1) then k + 1 else amax o (k + 1) := rfl
    rw [e]
    split
    · rename_i h
      refine ⟨by omega, fun b hb => ?_, fun b hb => ?_⟩
      · by_cases hk : b = k + 1
        · rw [hk]
          exact Nat.le_refl _
        · have := h2 b (by omega)
          omega
      · have := h2 b hb
        omega
    · rename_i h
      refine ⟨by omega, fun b hb => ?_, h3⟩
      by_cases hk : b = k + 1
      · rw [hk]
        omega
      · exact h2 b (by omega)
theorem amin_spec (o : Nat → Nat) : ∀ k, 0 < k → amin o k < k ∧ (∀ b, b < k → o (amin o k) ≤ o b) ∧ ∀ b, b < amin o k → o (amin o k) < o b
  | 0, h => absurd h (Nat.lt_irrefl 0)
  | 1, _ => by
    have e : amin o 1 = 0 := by simp only [amin, Nat.lt_irrefl, if_false]
    rw [e]
    exact ⟨Nat.zero_lt_one, fun b hb => by rw [show b = 0 by omega]; exact Nat.le_refl _, fun b hb => absurd hb (Nat.not_lt_zero _)⟩
  | k + 2, _ => by
    obtain ⟨h1, h2, h3⟩ := amin_spec o (k + 1) (Nat.succ_pos _)
    have e : amin o (k + 2) = if o (k + 1) < o (amin o (k + 1)) then k + 1 else amin o (k + 1) := rfl
    rw [e]
    split
    · rename_i h
      refine ⟨by omega, fun b hb => ?_, fun b hb => ?_⟩
      · by_cases hk : b = k + 1
        · rw [hk]
          exact Nat.le_refl _
        · have := h2 b (by omega)
          omega
      · have := h2 b hb
        omega
    · rename_i h
      refine ⟨by omega, fun b hb => ?_, h3⟩
      by_cases hk : b = k + 1
      · rw [hk]
        omega
      · exact h2 b (by omega)
theorem find_range {p : Nat → Bool} {n m : Nat} (hm : m < n) (h1 : p m = true) (h2 : ∀ j, j < m → p j = false) : (List.range n).find? p = some m := by
  rw [List.find?_range_eq_some]
  exact ⟨h1, List.mem_range.mpr hm, fun j hj => by rw [h2 j hj]; rfl⟩
/-- the first of those that are kept -/
theorem ix0_filter {p : Nat → Bool} {n m : Nat} {h : HS} {u : Nat → D} (hf : (List.range n).find? p = some m) : ixD h (.lst (((List.range n).filter p).map u)) (.int 0) = some (u m) := by
  refine ix_nat (k := 0) ?_
  rw [List.getElem?_map, ← List.head?_eq_getElem?, List.head?_filter, hf]
  rfl
/-! ### ints in lists -/
theorem pys_int (ns : List Int) : D.pys (ns.map D.int) = some (ns.map PyData.int) := by
  induction ns with
  | nil => rfl
  | cons b r ih => simp only [List.map_cons, D.pys, D.py, ih]
theorem canLay_int (ns : List Int) : SeqAt.shaped (.list (ns.map PyData.int)) = true := by
  have h1 : ∀ bs : List Int, PyData.canLayAll0 (bs.map PyData.int) = true := fun bs => by
    induction bs with
    | nil => rfl
    | cons b r ih => simp only [List.map_cons, PyData.canLayAll0, PyData.canLay0, ih, Bool.and_self]
  have h2 : ∀ bs : List Int, PyData.depthAll (bs.map PyData.int) = 0 := fun bs => by
    induction bs with
    | nil => rfl
    | cons b r ih => simp only [List.map_cons, PyData.depthAll, PyData.depth, ih, Nat.max_self]
  unfold SeqAt.shaped
  simp only [PyData.canLay0, h1, PyData.depth, h2]
  decide
theorem alike_int (ps : List Int) : alikeB (ps.map PyData.int) = true := by
  unfold alikeB
  rw [List.all_eq_true]
  intro x hx
  obtain ⟨p, _, rfl⟩ := List.mem_map.mp hx
  rw [Bool.and_eq_true]
  refine ⟨rfl, ?_⟩
  rw [List.all_eq_true]
  intro y hy
  obtain ⟨q, _, rfl⟩ := List.mem_map.mp hy
  rfl
theorem depth_int (ps : List Int) : depthB (ps.map PyData.int) = true := by
  have h : ∀ ps : List Int, PyData.depthAll (ps.map PyData.int) = 0 := fun ps => by
    induction ps with
    | nil => rfl
    | cons p r ih => simp only [List.map_cons, PyData.depthAll, PyData.depth, ih, Nat.max_self]
  unfold depthB
  exact decide_eq_true (by rw [h ps]; omega)
theorem lt_int (a b : Int) : W.dataLt (D.int a).pyD (D.int b).pyD = decide (a < b) := W.dataLt_int a b
theorem maxF_int : ∀ (r : List Int) (a : Int), ∃ m, maxF (.int a) (r.map D.int) = .int m ∧ (m = a ∨ m ∈ r) ∧ a ≤ m ∧ ∀ x ∈ r, x ≤ m
  | [], a => ⟨a, rfl, .inl rfl, Int.le_refl _, fun _ z => nomatch z⟩
  | b :: r, a => by
    have e : maxF (.int a) ((b :: r).map D.int) = maxF (.int (if a < b then b else a)) (r.map D.int) := by
      simp only [maxF, List.map_cons, List.foldl_cons, lt_int]
      by_cases h : a < b
      · simp only [h, decide_true, if_true]
      · simp only [h, decide_false, if_false, Bool.false_eq_true]
    obtain ⟨m, h1, h2, h3, h4⟩ := maxF_int r (if a < b then b else a)
    refine ⟨m, by rw [e, h1], ?_, ?_, fun x hx => ?_⟩
    · rcases h2 with h2 | h2
      · split at h2
        · exact .inr (by rw [h2]; exact List.mem_cons_self)
        · exact .inl h2
      · exact .inr (List.mem_cons_of_mem _ h2)
    · split at h3 <;> omega
    · rcases List.mem_cons.mp hx with rfl | hx
      · split at h3 <;> omega
      · exact h4 x hx
theorem minF_int : ∀ (r : List Int) (a : Int), ∃ m, minF (.int a) (r.map D.int) = .int m ∧ (m = a ∨ m ∈ r) ∧ m ≤ a ∧ ∀ x ∈ r, m ≤ x
  | [], a => ⟨a, rfl, .inl rfl, Int.le_refl _, fun _ z => nomatch z⟩
  | b :: r, a => by
    have e : minF (.int a) ((b :: r).map D.int) = minF (.int (if b < a then b else a)) (r.map D.int) := by
      simp only [minF, List.map_cons, List.foldl_cons, lt_int]
      by_cases h : b < a
      · simp only [h, decide_true, if_true]
      · simp only [h, decide_false, if_false, Bool.false_eq_true]
    obtain ⟨m, h1, h2, h3, h4⟩ := minF_int r (if b < a then b else a)
    refine ⟨m, by rw [e, h1], ?_, ?_, fun x hx => ?_⟩
    · rcases h2 with h2 | h2
      · split at h2
        · exact .inr (by rw [h2]; exact List.mem_cons_self)
        · exact .inl h2
      · exact .inr (List.mem_cons_of_mem _ h2)
    · split at h3 <;> omega
    · rcases List.mem_cons.mp hx with rfl | hx
      · split at h3 <;> omega
      · exact h4 x hx
theorem max_ints {ns : List Int} {m : Int} (h1 : m ∈ ns) (h2 : ∀ x ∈ ns, x ≤ m) : biD .max [.lst (ns.map D.int)] = some (.int m) := by
  cases ns with
  | nil => cases h1
  | cons a r =>
    obtain ⟨v, e1, e2, e3, e4⟩ := maxF_int r a
    have ev : v = m := by
      have q1 : v ≤ m := by
        rcases e2 with rfl | e2
        · exact h2 _ List.mem_cons_self
        · exact h2 _ (List.mem_cons_of_mem _ e2)
      have q2 : m ≤ v := by
        rcases List.mem_cons.mp h1 with rfl | h1
        · exact e3
        · exact e4 m h1
      omega
    have e : maxL ((a :: r).map D.int) = some (maxF (.int a) (r.map D.int)) := by
      unfold maxL
      rw [pys_int]
      simp only [List.map_cons]
      rw [← List.map_cons (f := PyData.int), alike_int, depth_int]
      rfl
    show maxL ((a :: r).map D.int) = _
    rw [e, e1, ev]
theorem min_ints {ns : List Int} {m : Int} (h1 : m ∈ ns) (h2 : ∀ x ∈ ns, m ≤ x) : biD .min [.lst (ns.map D.int)] = some (.int m) := by
  cases ns with
  | nil => cases h1
  | cons a r =>
    obtain ⟨v, e1, e2, e3, e4⟩ := minF_int r a
    have ev : v = m := by
      have q1 : m ≤ v := by
        rcases e2 with rfl | e2
        · exact h2 _ List.mem_cons_self
        · exact h2 _ (List.mem_cons_of_mem _ e2)
      have q2 : v ≤ m := by
        rcases List.mem_cons.mp h1 with rfl | h1
        · exact e3
        · exact e4 m h1
      omega
    have e : minL ((a :: r).map D.int) = some (minF (.int a) (r.map D.int)) := by
      unfold minL
      rw [pys_int]
      simp only [List.map_cons]
      rw [← List.map_cons (f := PyData.int), alike_int, depth_int]
      rfl
    show minL ((a :: r).map D.int) = _
    rw [e, e1, ev]
theorem shaped_nil : SeqAt.shaped (.list []) = true := rfl
theorem eq_ints_nil (ns : List Int) : eqD (.lst (ns.map D.int)) (.lst []) = some ns.isEmpty := by
  have e : (D.lst (ns.map D.int)).py = some (.list (ns.map PyData.int)) := by simp only [D.py, pys_int, Option.map_some]
  have e2 : (D.lst []).py = some (.list []) := rfl
  unfold eqD
  rw [e, e2]
  simp only [canLay_int, shaped_nil, Bool.and_self, if_true]
  cases ns with
  | nil => rfl
  | cons a r => rfl
/-- a comprehension with a test -/
theorem lcL_filt {α : Type} {f : D → HS → Res (Option D)} {u g : α → D} {p : α → Bool} {h : HS} : ∀ {xs : List α}, (∀ x ∈ xs, f (u x) h = .ok (if p x then some (g x) else none) h) → lcL f (xs.map u) h = .ok ((xs.filter p).map g) h
  | [], _ => rfl
  | x :: r, q => by
    have ih := lcL_filt (f := f) (u := u) (g := g) (p := p) (h := h) (xs := r) fun e he => q e (List.mem_cons_of_mem _ he)
    simp only [List.map_cons, lcL, q x List.mem_cons_self, Res.bind, ih, List.filter_cons]
    cases p x <;> rfl
end PD

set_option Elab.async false
set_option linter.all false
set_option maxRecDepth 100000
set_option maxHeartbeats 2000000
/-! QC: tests run by the kernel; small things for a law's own body. -/
namespace PD
open PySem PySem.Spec
def okC (b : Bool) : Res Bool → Bool
  | .ok x [] => x == b
  | _ => false
theorem up_okC {h : HS} {b : Bool} {a c : Res Bool} (u : Up h a c) (e : okC b a = true) : c = .ok b h := by
  unfold okC at e
  split at e
  · rw [← eq_of_beq e]
    exact u.2
  · cases e
def okN (ρ : PEnv → Bool) : Res Fl → Bool
  | .ok (.nx x) [] => ρ x
  | _ => false
section
variable {Φ : Nat → List D → HS → Res D} {Ψ : Nat → (HS → Res D) → HS → Res D} {thk : HS → Res D} {b : IMs} {ρ ρ' : PEnv} {h h' : HS}
theorem ms_known {c : IC} {a : IMs} (hd : b.hd = .ite c a .nil) (hc : denC Φ Ψ thk c ρ h = .ok false h') : denMs Φ Ψ thk b ρ h = denMs Φ Ψ thk b.tl ρ h' := by
  refine ms_hd ?_
  rw [hd]
  exact m_ite_f hc rfl
end
/-- the condition of a statement -/
def IM.cnd : IM → IC
  | .ite c _ _ => c
  | _ => .tt
end PD

set_option Elab.async false
set_option linter.all false
set_option maxRecDepth 100000
set_option maxHeartbeats 2000000
/-! QD: cars at a barrier: the next open second; the queue. -/
namespace PD
open PySem PySem.Spec
/-- the flag at second s of the row r -/
def rb (r : List Bool) (s : Nat) : Bool := r.getD (s % r.length) false
theorem rb_per (r : List Bool) (s : Nat) : rb r (r.length + s) = rb r s := by
  unfold rb
  rw [Nat.add_mod_left]
theorem rb_ix {r : List Bool} (hr : 0 < r.length) (s : Nat) (h : HS) : ixD h (.lst (r.map D.bl)) (.int ((s % r.length : Nat) : Int)) = some (.bl (rb r s)) := by
  have hm : s % r.length < r.length := Nat.mod_lt _ hr
  refine ix_nat ?_
  rw [List.getElem?_map, List.getElem?_eq_getElem hm]
  unfold rb
  rw [List.getD_eq_getElem?_getD, List.getElem?_eq_getElem hm]
  rfl
theorem rb_open {r : List Bool} (hf : false ∈ r) (s : Nat) : ∃ d, d < r.length ∧ rb r (s + d) = false := by
  obtain ⟨i, hi, e⟩ := List.getElem_of_mem hf
  have hn : 0 < r.length := by omega
  have hm : s % r.length < r.length := Nat.mod_lt _ hn
  refine ⟨(i + (r.length - s % r.length)) % r.length, Nat.mod_lt _ hn, ?_⟩
  have : (s + (i + (r.length - s % r.length)) % r.length) % r.length = i := by
    rw [Nat.add_mod_mod]
    have e2 : s = r.length * (s / r.length) + s % r.length := (Nat.div_add_mod s r.length).symm
    have : s + (i + (r.length - s % r.length)) = i + r.length * (s / r.length + 1) := by
      rw [Nat.mul_add, Nat.mul_one]
      omega
    rw [this, Nat.add_mul_mod_self_left, Nat.mod_eq_of_lt hi]
  unfold rb
  rw [this, List.getD_eq_getElem?_getD, List.getElem?_eq_getElem hi, e]
  rfl
/-- the first open second from s on -/
def nxt (r : List Bool) (s : Nat) : Nat := s + ((List.range r.length).find? fun d => !rb r (s + d)).getD 0
theorem nxt_spec {r : List Bool} (hf : false ∈ r) (s : Nat) : s ≤ nxt r s ∧ nxt r s < s + r.length ∧ rb r (nxt r s) = false ∧ ∀ j, s ≤ j → j < nxt r s → rb r j = true := by
  obtain ⟨d, hd, e⟩ := rb_open hf s
  cases z : (List.range r.length).find? fun d => !rb r (s + d) with
  | none =>
    have := List.find?_eq_none.mp z d (List.mem_range.mpr hd)
    rw [e] at this
    exact absurd rfl this
  | some k =>
    have ek : nxt r s = s + k := by
      unfold nxt
      rw [z]
      rfl
    rw [ek]
    have hk := List.mem_range.mp (List.mem_of_find?_eq_some z)
    have hp := List.find?_some z
    refine ⟨by omega, by omega, by simpa using hp, fun j j1 j2 => ?_⟩
    obtain ⟨i, rfl⟩ : ∃ i, j = s + i := ⟨j - s, by omega⟩
    have := (List.find?_range_eq_some.mp z).2.2 i (by omega)
    simpa using this
/-- when car k goes over -/
def sec (r : List Bool) (e : Nat) : Nat → Nat
  | 0 => nxt r 0
  | k + 1 => nxt r (max (sec r e k + 1) ((k + 1) * e))
theorem sec_open {r : List Bool} (hf : false ∈ r) (e : Nat) : ∀ k, rb r (sec r e k) = false
  | 0 => (nxt_spec hf 0).2.2.1
  | k + 1 => (nxt_spec hf _).2.2.1
theorem sec_mul {r : List Bool} (hf : false ∈ r) (e : Nat) : ∀ k, k * e ≤ sec r e k
  | 0 => by omega
  | k + 1 => Nat.le_trans (Nat.le_max_right _ _) (nxt_spec hf _).1
theorem sec_lt {r : List Bool} (hf : false ∈ r) (e k : Nat) : sec r e k < sec r e (k + 1) := Nat.lt_of_lt_of_le (Nat.lt_of_lt_of_le (Nat.lt_succ_self _) (Nat.le_max_left _ _)) (nxt_spec hf _).1
theorem sec_bound {r : List Bool} (hf : false ∈ r) {e : Nat} (he : 0 < e) : ∀ k, sec r e k < (k + 1) * (e + r.length)
  | 0 => by
    have := (nxt_spec hf 0).2.1
    show nxt r 0 < _
    rw [Nat.zero_add, Nat.one_mul]
    omega
  | k + 1 => by
    have ih := sec_bound hf he k
    have h1 := (nxt_spec hf (max (sec r e k + 1) ((k + 1) * e))).2.1
    have h2 := Nat.mul_le_mul_left (k + 1) (Nat.le_add_right e r.length)
    have h3 : (k + 1 + 1) * (e + r.length) = (k + 1) * (e + r.length) + (e + r.length) := by rw [Nat.add_mul (k + 1) 1, Nat.one_mul]
    show nxt r _ < _
    omega
/-- a second at which car m may go, after the ones before it went -/
theorem sec_here {r : List Bool} (hf : false ∈ r) {e m t : Nat} (h1 : ∀ k, k < m → sec r e k < t) (h2 : m * e ≤ t) (h3 : rb r t = false) (h4 : t ≤ sec r e m) : sec r e m = t := by
  have key : ∀ s, s ≤ t → sec r e m = nxt r s → sec r e m = t := fun s hs es => by
    have q := (nxt_spec hf s).2.2.2 t hs
    rw [← es] at q
    by_cases c : t < sec r e m
    · rw [q c] at h3
      cases h3
    · omega
  cases m with
  | zero => exact key 0 (Nat.zero_le _) rfl
  | succ m => exact key _ (Nat.max_le.mpr ⟨h1 m (Nat.lt_succ_self _), h2⟩) rfl
/-! ### the queue -/
def Wq (a o : Nat → Nat) (x : Nat) : Nat → Nat
  | 0 => x
  | k + 1 => Wq a o x k + a k - o k
def Sm (f : Nat → Nat) : Nat → Nat
  | 0 => 0
  | k + 1 => Sm f k + f k
def Mq (a o : Nat → Nat) : Nat → Nat
  | 0 => 0
  | k + 1 => max (Mq a o k) (Wq a o 0 (k + 1))
section
variable {a o : Nat → Nat} {L : Nat}
theorem wq_max (x : Nat) : ∀ k, ((Wq a o x k : Nat) : Int) = max ((x : Int) + (Sm a k : Int) - (Sm o k : Int)) (Wq a o 0 k : Int)
  | 0 => by
    simp only [Wq, Sm]
    omega
  | k + 1 => by
    have ih := wq_max x k
    simp only [Wq, Sm]
    omega
theorem wq_le (x : Nat) (k : Nat) : Wq a o 0 k ≤ Wq a o x k := by
  have := wq_max (a := a) (o := o) x k
  omega
theorem wq_shift (ha : ∀ t, a (L + t) = a t) (ho : ∀ t, o (L + t) = o t) (x : Nat) : ∀ k, Wq a o x (L + k) = Wq a o (Wq a o x L) k
  | 0 => rfl
  | k + 1 => by
    show Wq a o x (L + k) + a (L + k) - o (L + k) = _
    rw [wq_shift ha ho x k, ha, ho]
    rfl
theorem wq_two (ha : ∀ t, a (L + t) = a t) (ho : ∀ t, o (L + t) = o t) (hs : Sm a L ≤ Sm o L) (k : Nat) : Wq a o 0 (L + (L + k)) = Wq a o 0 (L + k) := by
  have e : Wq a o (Wq a o 0 L) L = Wq a o 0 L := by
    have := wq_max (a := a) (o := o) (Wq a o 0 L) L
    omega
  rw [wq_shift ha ho, wq_shift ha ho, e, ← wq_shift ha ho]
theorem mq_mono : ∀ {k j : Nat}, k ≤ j → Mq a o k ≤ Mq a o j := fun {k j} h => by
  induction j with
  | zero =>
    have : k = 0 := by omega
    rw [this]
    exact Nat.le_refl _
  | succ j ih =>
    by_cases c : k = j + 1
    · rw [c]
      exact Nat.le_refl _
    · exact Nat.le_trans (ih (by omega)) (Nat.le_max_left _ _)
theorem wq_mq : ∀ k, Wq a o 0 k ≤ Mq a o k
  | 0 => Nat.le_refl _
  | k + 1 => Nat.le_max_right _ _
theorem wq_all (ha : ∀ t, a (L + t) = a t) (ho : ∀ t, o (L + t) = o t) (hs : Sm a L ≤ Sm o L) (hL : 0 < L) (t : Nat) : Wq a o 0 t ≤ Mq a o (2 * L) := by
  induction t using Nat.strongRecOn with
  | _ t ih =>
    by_cases c : t ≤ 2 * L
    · exact Nat.le_trans (wq_mq t) (mq_mono c)
    · have e : t = L + (L + (t - 2 * L)) := by omega
      rw [e, wq_two ha ho hs]
      exact ih _ (by omega)
theorem mq_le {B : Nat} (h : ∀ t, Wq a o 0 t ≤ B) : ∀ k, Mq a o k ≤ B
  | 0 => Nat.zero_le _
  | k + 1 => Nat.max_le.mpr ⟨mq_le h k, h _⟩
theorem mq_eq (ha : ∀ t, a (L + t) = a t) (ho : ∀ t, o (L + t) = o t) (hs : Sm a L ≤ Sm o L) (hL : 0 < L) {N : Nat} (hN : 2 * L ≤ N) : Mq a o N = Mq a o (2 * L) := Nat.le_antisymm (mq_le (wq_all ha ho hs hL) N) (mq_mono hN)
theorem sm_add {f : Nat → Nat} {p : Nat} (hf : ∀ t, f (p + t) = f t) : ∀ k, Sm f (p + k) = Sm f p + Sm f k
  | 0 => rfl
  | k + 1 => by
    show Sm f (p + k) + f (p + k) = _
    rw [sm_add hf k, hf]
    simp only [Sm]
    omega
theorem sm_mul {f : Nat → Nat} {p : Nat} (hf : ∀ t, f (p + t) = f t) : ∀ j, Sm f (p * j) = j * Sm f p
  | 0 => by simp [Sm]
  | j + 1 => by rw [Nat.mul_succ, Nat.add_comm, sm_add hf, sm_mul hf j, Nat.add_mul, Nat.one_mul, Nat.add_comm]
end
theorem per_mul {f : Nat → Nat} {p : Nat} (hf : ∀ t, f (p + t) = f t) : ∀ j t, f (p * j + t) = f t
  | 0, t => by rw [Nat.mul_zero, Nat.zero_add]
  | j + 1, t => by rw [Nat.mul_succ, Nat.add_comm (p * j) p, Nat.add_assoc, hf, per_mul hf j]
def arr (e : Nat) (t : Nat) : Nat := if t % e = 0 then 1 else 0
def opq (r : List Bool) (t : Nat) : Nat := if rb r t then 0 else 1
theorem arr_per (e t : Nat) : arr e (e + t) = arr e t := by unfold arr; rw [Nat.add_mod_left]
theorem opq_per (r : List Bool) (t : Nat) : opq r (r.length + t) = opq r t := by unfold opq; rw [rb_per]
theorem arr_sum {e : Nat} : ∀ k, 0 < k → k ≤ e → Sm (arr e) k = 1
  | 0, h, _ => by omega
  | 1, _, _ => by simp [Sm, arr]
  | k + 2, _, h => by
    have ih := arr_sum (e := e) (k + 1) (by omega) (by omega)
    have : arr e (k + 1) = 0 := by
      unfold arr
      rw [Nat.mod_eq_of_lt (by omega), if_neg (by omega)]
    show Sm (arr e) (k + 1) + arr e (k + 1) = 1
    rw [ih, this]
theorem opq_sum {r : List Bool} : ∀ k, k ≤ r.length → Sm (opq r) k = (r.take k).count false
  | 0, _ => by simp [Sm]
  | k + 1, h => by
    have hk : k < r.length := by omega
    have ih := opq_sum (r := r) k (by omega)
    rw [List.take_succ_eq_append_getElem hk, List.count_append, ← ih]
    show Sm (opq r) k + opq r k = _
    have : opq r k = List.count false [r[k]] := by
      unfold opq rb
      rw [Nat.mod_eq_of_lt hk, List.getD_eq_getElem?_getD, List.getElem?_eq_getElem hk]
      show (if r[k] then 0 else 1) = _
      cases r[k] <;> rfl
    rw [this]
/-- stays: the open seconds suffice -/
theorem stays_eq {r : List Bool} {e : Nat} (hr : 0 < r.length) (he : 0 < e) (hs : Nat.lcm r.length e / e ≤ r.count false * (Nat.lcm r.length e / r.length)) :
    Mq (arr e) (opq r) (2 * (r.length * e)) = Mq (arr e) (opq r) (2 * Nat.lcm r.length e) := by
  have hL : 0 < Nat.lcm r.length e := Nat.lcm_pos hr he
  have e1 : Nat.lcm r.length e = e * (Nat.lcm r.length e / e) := (Nat.mul_div_cancel' (Nat.dvd_lcm_right _ _)).symm
  have e2 : Nat.lcm r.length e = r.length * (Nat.lcm r.length e / r.length) := (Nat.mul_div_cancel' (Nat.dvd_lcm_left _ _)).symm
  have le : Nat.lcm r.length e ≤ r.length * e := Nat.le_of_dvd (Nat.mul_pos hr he) (Nat.lcm_dvd (Nat.dvd_mul_right _ _) (Nat.dvd_mul_left _ _))
  refine mq_eq (fun t => ?_) (fun t => ?_) ?_ hL (by omega)
  · rw [e1]
    exact per_mul (arr_per e) _ t
  · rw [e2]
    exact per_mul (opq_per r) _ t
  · have s1 : Sm (arr e) (Nat.lcm r.length e) = Nat.lcm r.length e / e := by
      conv => lhs; rw [e1]
      rw [sm_mul (arr_per e), arr_sum e he (Nat.le_refl _), Nat.mul_one]
    have s2 : Sm (opq r) (Nat.lcm r.length e) = r.count false * (Nat.lcm r.length e / r.length) := by
      conv => lhs; rw [e2]
      rw [sm_mul (opq_per r), opq_sum _ (Nat.le_refl _), List.take_length, Nat.mul_comm]
    rw [s1, s2]
    exact hs
theorem grows_iff {n e op : Nat} (hn : 0 < n) (he : 0 < e) : op * (Nat.lcm n e / n) < Nat.lcm n e / e ↔ op * e < n := by
  have hL : 0 < Nat.lcm n e := Nat.lcm_pos hn he
  have e1 : e * (Nat.lcm n e / e) = Nat.lcm n e := Nat.mul_div_cancel' (Nat.dvd_lcm_right _ _)
  have e2 : n * (Nat.lcm n e / n) = Nat.lcm n e := Nat.mul_div_cancel' (Nat.dvd_lcm_left _ _)
  generalize Nat.lcm n e / n = u at *
  generalize Nat.lcm n e / e = v at *
  generalize Nat.lcm n e = L at *
  have k1 : (op * u) * (n * e) = (op * e) * L := by rw [← e2]; simp only [Nat.mul_assoc, Nat.mul_comm, Nat.mul_left_comm]
  have k2 : v * (n * e) = n * L := by rw [← e1]; simp only [Nat.mul_assoc, Nat.mul_comm, Nat.mul_left_comm]
  have hp : 0 < n * e := Nat.mul_pos hn he
  constructor
  · intro h
    have := Nat.mul_lt_mul_of_pos_right h hp
    rw [k1, k2] at this
    exact Nat.lt_of_mul_lt_mul_right this
  · intro h
    have := Nat.mul_lt_mul_of_pos_right h hL
    rw [← k1, ← k2] at this
    exact Nat.lt_of_mul_lt_mul_right this
theorem share_lt {op n e : Nat} (hn : 0 < n) : (op / Nat.gcd op n) * e < n / Nat.gcd op n ↔ op * e < n := by
  obtain ⟨g, x, y, hg, g0, ha, hy, e1, e2, y0⟩ := frac_parts op hn
  rw [← hg, e1, e2, ha, hy, Nat.mul_assoc]
  exact (Nat.mul_lt_mul_left g0).symm
end PD

set_option Elab.async false
set_option linter.all false
set_option maxRecDepth 100000
set_option maxHeartbeats 2000000
/-! QE: long cars: a start is good if all seconds on are open. -/
namespace PD
open PySem PySem.Spec
def may (r : List Bool) (w s : Nat) : Bool := !(List.range w).any fun j => rb r (s + j)
theorem may_iff {r : List Bool} {w s : Nat} : may r w s = true ↔ ∀ j, j < w → rb r (s + j) = false := by
  unfold may
  rw [Bool.not_eq_true', List.any_eq_false]
  constructor
  · intro h j hj
    have := h j (List.mem_range.mpr hj)
    simpa using this
  · intro h j hj
    rw [h j (List.mem_range.mp hj)]
    exact Bool.false_ne_true
theorem may_mono {r : List Bool} {v w s : Nat} (h : v ≤ w) (m : may r w s = true) : may r v s = true := may_iff.mpr fun j hj => may_iff.mp m j (by omega)
theorem rb_mod (r : List Bool) (s j : Nat) : rb r (s + j % r.length) = rb r (s + j) := by
  unfold rb
  rw [Nat.add_mod_mod]
theorem rb_mod' (r : List Bool) (s j : Nat) : rb r (s % r.length + j) = rb r (s + j) := by
  unfold rb
  rw [Nat.mod_add_mod]
theorem may_min {r : List Bool} (hr : 0 < r.length) (w s : Nat) : may r (min w r.length) s = may r w s := by
  rw [Bool.eq_iff_iff]
  constructor
  · intro h
    refine may_iff.mpr fun j hj => ?_
    rw [← rb_mod]
    refine may_iff.mp h _ ?_
    have h1 : j % r.length < r.length := Nat.mod_lt _ hr
    have h2 : j % r.length ≤ j := Nat.mod_le _ _
    omega
  · exact may_mono (Nat.min_le_left _ _)
theorem may_mod (r : List Bool) (w s : Nat) : may r w (s % r.length) = may r w s := by
  unfold may
  simp only [rb_mod']
theorem may_one (r : List Bool) (s : Nat) : may r 1 s = !rb r s := by
  unfold may
  simp [List.range_one]
/-- the wait, if there is one -/
def wt (r : List Bool) (w s : Nat) : Option Nat := (List.range r.length).find? fun d => may r w (s + d)
def trN (r : List Bool) (w : Nat) : Nat := ((List.range r.length).filter fun s => !may r w s && !rb r s).length
theorem wt_some {r : List Bool} {w s d : Nat} (h : wt r w s = some d) : d < r.length ∧ may r w (s + d) = true ∧ ∀ j, j < d → may r w (s + j) = false := by
  have h1 := List.mem_range.mp (List.mem_of_find?_eq_some h)
  refine ⟨h1, List.find?_some (p := fun d => may r w (s + d)) h, fun j hj => ?_⟩
  have := (List.find?_range_eq_some.mp h).2.2 j hj
  simpa using this
theorem wt_none {r : List Bool} {w s : Nat} (h : wt r w s = none) : ∀ d, d < r.length → may r w (s + d) = false := fun d hd => by
  have := List.find?_eq_none.mp h d (List.mem_range.mpr hd)
  simpa using this
/-- longer cars start no earlier -/
theorem wt_later {r : List Bool} {w s d : Nat} (h : wt r (w + 1) s = some d) : ∃ c, wt r w s = some c ∧ c ≤ d := by
  obtain ⟨h1, h2, h3⟩ := wt_some h
  have m := may_mono (Nat.le_succ w) h2
  cases z : wt r w s with
  | none => rw [wt_none z d h1] at m; cases m
  | some c =>
    refine ⟨c, rfl, ?_⟩
    by_cases q : c ≤ d
    · exact q
    · rw [(wt_some z).2.2 d (by omega)] at m
      cases m
theorem tr_mono (r : List Bool) (w : Nat) : trN r w ≤ trN r (w + 1) := by
  unfold trN
  rw [← List.countP_eq_length_filter, ← List.countP_eq_length_filter]
  refine List.countP_mono_left fun s _ h => ?_
  rw [Bool.and_eq_true, Bool.not_eq_true'] at h ⊢
  refine ⟨?_, h.2⟩
  cases z : may r (w + 1) s with
  | false => rfl
  | true => rw [may_mono (Nat.le_succ w) z] at h; exact absurd h.1 (by decide)
theorem tr_one (r : List Bool) : trN r 1 = 0 := by
  unfold trN
  rw [List.length_eq_zero_iff, List.filter_eq_nil_iff]
  intro s _
  rw [may_one]
  cases rb r s <;> decide
theorem rb_lt {r : List Bool} {s : Nat} (h : s < r.length) : rb r s = r[s] := by
  unfold rb
  rw [Nat.mod_eq_of_lt h, List.getD_eq_getElem?_getD, List.getElem?_eq_getElem h]
  rfl
theorem wt_one {r : List Bool} : (wt r 1 0).isNone = !r.contains false := by
  cases c : r.contains false with
  | true =>
    obtain ⟨d, hd, e⟩ := rb_open (List.contains_iff_mem.mp c) 0
    cases z : wt r 1 0 with
    | none =>
      have := wt_none z d hd
      rw [may_one, e] at this
      cases this
    | some c => rfl
  | false =>
    cases z : wt r 1 0 with
    | none => rfl
    | some d =>
      obtain ⟨h1, h2, _⟩ := wt_some z
      rw [may_one, Nat.zero_add, rb_lt h1, Bool.not_eq_true'] at h2
      have : false ∈ r := by
        rw [← h2]
        exact List.getElem_mem h1
      rw [List.contains_iff_mem.mpr this] at c
      cases c
theorem opens_nil {r : List Bool} : ((List.range r.length).filter fun s => !rb r s).isEmpty = decide (r.count false = 0) := by
  rw [Bool.eq_iff_iff, List.isEmpty_iff, List.filter_eq_nil_iff, decide_eq_true_eq, List.count_eq_zero]
  constructor
  · intro h m
    obtain ⟨i, hi, e⟩ := List.getElem_of_mem m
    have := h i (List.mem_range.mpr hi)
    rw [rb_lt hi, e] at this
    exact this rfl
  · intro h s hs
    have hl := List.mem_range.mp hs
    rw [rb_lt hl]
    intro e
    refine h ?_
    have : r[s] = false := by simpa using e
    rw [← this]
    exact List.getElem_mem hl
theorem idxD_bl (b : Bool) (bs : List Bool) : idxD (.bl b) (bs.map D.bl) = bs.findIdx? fun x => x == b := by
  unfold idxD
  rw [pys_bl]
  simp only [D.py]
  rw [if_pos (by rw [canLay_bl]; rfl), List.findIdx?_map]
  congr 1
theorem idxD_at {b : Bool} {bs : List Bool} (h : b ∈ bs) : idxD (.bl b) (bs.map D.bl) = some (bs.findIdx fun x => x == b) := by
  rw [idxD_bl]
  refine List.findIdx?_eq_some_of_exists ⟨b, h, ?_⟩
  cases b <;> rfl
theorem enum_bl (bs : List Bool) (n : Nat) : ((bs.map D.bl).zipIdx n).map (fun p => D.tup [.int (p.2 : Nat), p.1]) = (bs.zipIdx n).map fun p => D.tup [.int (p.2 : Nat), .bl p.1] := by
  rw [List.zipIdx_map, List.map_map]
  rfl
theorem enum_range (f : Nat → Bool) (n : Nat) : (((List.range n).map f).zipIdx 0).map (fun p => D.tup [.int (p.2 : Nat), .bl p.1]) = (List.range n).map fun s : Nat => D.tup [.int (s : Int), .bl (f s)] := by
  apply List.ext_getElem
  · simp
  · intro i h1 h2
    simp
/-- a loop that goes till it finds -/
theorem forL_find {α : Type} {f : D → PEnv → HS → Res Fl} {h : HS} {R : PEnv → Prop} {u v : α → D} {p : α → Bool} : ∀ {xs : List α} {ρ : PEnv}, (∀ x ∈ xs, ∀ ρ, R ρ → (p x = true ∧ f (u x) ρ h = .ok (.rt (v x)) h) ∨ (p x = false ∧ ∃ ρ', R ρ' ∧ f (u x) ρ h = .ok (.nx ρ') h)) → R ρ →
    (∃ x, xs.find? p = some x ∧ forL f (xs.map u) ρ h = .ok (.rt (v x)) h) ∨ (xs.find? p = none ∧ ∃ ρ', R ρ' ∧ forL f (xs.map u) ρ h = .ok (.nx ρ') h)
  | [], ρ, _, hR => .inr ⟨rfl, ρ, hR, rfl⟩
  | x :: xs, ρ, st, hR => by
    rcases st x List.mem_cons_self ρ hR with ⟨hp, e⟩ | ⟨hp, ρ', hR', e⟩
    · left
      refine ⟨x, by rw [List.find?_cons_of_pos hp], ?_⟩
      simp only [List.map_cons, forL, e, Res.bind]
    · have ih := forL_find (xs := xs) (fun y hy => st y (List.mem_cons_of_mem _ hy)) hR'
      have ef : (x :: xs).find? p = xs.find? p := List.find?_cons_of_neg (by rw [hp]; exact Bool.false_ne_true)
      rw [ef]
      have ex : forL f ((x :: xs).map u) ρ h = forL f (xs.map u) ρ' h := by simp only [List.map_cons, forL, e, Res.bind]
      rw [ex]
      exact ih
theorem for_find {Φ : Nat → List D → HS → Res D} {Ψ : Nat → (HS → Res D) → HS → Res D} {thk : HS → Res D} {α : Type} {t : IT} {s : IS} {b : IMs} {ρ : PEnv} {h h1 : HS} {R : PEnv → Prop} {u v : α → D} {p : α → Bool} {xs : List α} (hs : denS Φ Ψ thk s ρ h = .ok (xs.map u) h1)
    (st : ∀ x ∈ xs, ∀ ρ, R ρ → ∃ ρ1, asgT t (u x) ρ = some ρ1 ∧ ((p x = true ∧ denMs Φ Ψ thk b ρ1 h1 = .ok (.rt (v x)) h1) ∨ (p x = false ∧ ∃ ρ', R ρ' ∧ denMs Φ Ψ thk b ρ1 h1 = .ok (.nx ρ') h1))) (hR : R ρ) :
    (∃ x, xs.find? p = some x ∧ denM Φ Ψ thk (.for_ t s b) ρ h = .ok (.rt (v x)) h1) ∨ (xs.find? p = none ∧ ∃ ρ', R ρ' ∧ denM Φ Ψ thk (.for_ t s b) ρ h = .ok (.nx ρ') h1) := by
  have ex : denM Φ Ψ thk (.for_ t s b) ρ h = forL (fun d ρ h => match asgT t d ρ with
    | some ρ' => denMs Φ Ψ thk b ρ' h
    | none => .stuck) (xs.map u) ρ h1 := by
    (simp only [denM, hs, Res.bind]) <;> rfl
  rw [ex]
  refine forL_find (fun x hx ρ hR => ?_) hR
  obtain ⟨ρ1, ea, q⟩ := st x hx ρ hR
  simp only [ea]
  exact q
end PD

set_option Elab.async false
set_option linter.all false
set_option maxRecDepth 100000
set_option maxHeartbeats 2000000
/-! QF: passes of cars: a round, its cars' seconds; the rows of free seconds. -/
namespace PD
open PySem PySem.Spec
theorem slc_one (xs : List D) : slcD (.tup xs) (some (1 : Int)) none = some (.tup (xs.drop 1)) := by
  have e : cutL xs (some (1 : Int)) none = xs.drop 1 := by
    cases xs with
    | nil => rfl
    | cons x r =>
      unfold cutL sIx
      dsimp only
      rw [if_neg (by omega)]
      have : min (1 : Int).toNat (x :: r).length = 1 := by
        simp only [List.length_cons]
        show min 1 _ = 1
        omega
      rw [this]
      exact List.take_of_length_le (by rw [List.length_drop]; exact Nat.le_refl _)
  simp only [slcD, e]
theorem memD_int (i : Int) (ns : List Int) : memD (.int i) (ns.map D.int) = some (decide (i ∈ ns)) := by
  unfold memD
  rw [pys_int]
  simp only [D.py]
  rw [if_pos (by rw [canLay_int]; rfl), List.any_map]
  congr 1
  rw [Bool.eq_iff_iff, List.any_eq_true, decide_eq_true_eq]
  constructor
  · rintro ⟨x, hx, e⟩
    simp only [Function.comp, eqv_int, decide_eq_true_eq] at e
    rwa [← e]
  · intro h
    exact ⟨i, h, by simp only [Function.comp, eqv_int, decide_eq_true_eq]⟩
theorem nin_ints (i : Int) (ns : List Int) : cmpD .nin (.int i) (.tup (ns.map D.int)) = some (!decide (i ∈ ns)) := by
  have e : (flatD (.int i) && (ns.map D.int).all flatD) = true := by
    rw [Bool.and_eq_true, List.all_eq_true]
    refine ⟨rfl, fun x hx => ?_⟩
    obtain ⟨n, _, rfl⟩ := List.mem_map.mp hx
    rfl
  simp only [cmpD, e, if_true, memD_int, Option.map_some]
theorem sort_pr (ps : List (Int × Int)) (hl : ps.length ≤ 1000000) : ∃ G : List (Int × Int), sortL (ps.map prD) = some (G.map prD) ∧ G.Perm ps := by
  refine ⟨ps.mergeSort fun a b => W.dataLe false D.pyD (prD a) (prD b), ?_, List.mergeSort_perm _ _⟩
  unfold sortL
  rw [pys_pr]
  have e : (alikeB (ps.map prP) && sortB (ps.map prP) && depthB (ps.map prP) && decide ((ps.map prD).length ≤ line)) = true := by
    rw [alike_pr, depth_pr, List.length_map]
    have s : sortB (ps.map prP) = true := by
      unfold sortB
      rw [Bool.or_eq_true, List.all_eq_true]
      refine .inl fun x hx => ?_
      obtain ⟨q, _, rfl⟩ := List.mem_map.mp hx
      rfl
    rw [s]
    simp only [Bool.and_self, Bool.true_and, decide_eq_true_eq]
    unfold line
    omega
  simp only [e, if_true]
  rw [dataLe_srt, List.map_mergeSort (s := W.dataLe false D.pyD) fun a _ b _ => rfl]
def srt (ps : List (Int × Int)) : List (Int × Int) := ps.mergeSort fun a b => W.dataLe false D.pyD (prD a) (prD b)
theorem srt_perm (ps : List (Int × Int)) : (srt ps).Perm ps := List.mergeSort_perm _ _
theorem srt_ok (ps : List (Int × Int)) (hl : ps.length ≤ 1000000) : sortL (ps.map prD) = some ((srt ps).map prD) := by
  unfold sortL
  rw [pys_pr]
  have e : (alikeB (ps.map prP) && sortB (ps.map prP) && depthB (ps.map prP) && decide ((ps.map prD).length ≤ line)) = true := by
    rw [alike_pr, depth_pr, List.length_map]
    have s : sortB (ps.map prP) = true := by
      unfold sortB
      rw [Bool.or_eq_true, List.all_eq_true]
      refine .inl fun x hx => ?_
      obtain ⟨q, _, rfl⟩ := List.mem_map.mp hx
      rfl
    rw [s]
    simp only [Bool.and_self, Bool.true_and, decide_eq_true_eq]
    unfold line
    omega
  simp only [e, if_true]
  unfold srt
  rw [dataLe_srt, List.map_mergeSort (s := W.dataLe false D.pyD) fun a _ b _ => rfl]
/-- a comprehension whose test draws: what it keeps is some of what it is given, in order -/
theorem lcL_sub {f : D → HS → Res (Option D)} {I : HS → Prop} : ∀ {its : List D} {h : HS}, I h → (∀ d ∈ its, ∀ h, I h → ∃ o h', f d h = .ok o h' ∧ I h' ∧ (o = none ∨ o = some d)) → ∃ xs h', lcL f its h = .ok xs h' ∧ I h' ∧ xs.Sublist its
  | [], h, i, _ => ⟨[], h, rfl, i, List.Sublist.slnil⟩
  | d :: r, h, i, q => by
    obtain ⟨o, h1, e1, i1, p1⟩ := q d List.mem_cons_self h i
    obtain ⟨xs, h2, e2, i2, l2⟩ := lcL_sub i1 fun e he => q e (List.mem_cons_of_mem _ he)
    rcases p1 with rfl | rfl
    · exact ⟨xs, h2, by simp only [lcL, e1, Res.bind, e2], i2, l2.cons _⟩
    · exact ⟨d :: xs, h2, by simp only [lcL, e1, Res.bind, e2], i2, l2.cons_cons _⟩
/-! ### passes -/
structure PasOk (p : Nat) (cs : List Nat) : Prop where
  p1 : 1 ≤ p
  p60 : p ≤ 60
  lt : ∀ c ∈ cs, c < p
  inc : cs.Pairwise (· < ·)
def nextP (p : Nat) (cs : List Nat) : List (Nat × Nat) := cs.zip (cs.drop 1 ++ [cs.headD 0 + p])
def gapsF (p : Nat) (cs : List Nat) : List (Int × Int) := ((nextP p cs).filter fun q => decide (1 < q.2 - q.1)).map fun q => ((((q.1 + 1) % p : Nat) : Int), ((q.2 - q.1 - 1 : Nat) : Int))
theorem inc_lt {cs : List Nat} (h : cs.Pairwise (· < ·)) {i j : Nat} (hi : i < cs.length) (hj : j < cs.length) (hl : cs[i] < cs[j]) : i < j := by
  by_cases c : i < j
  · exact c
  · by_cases e : i = j
    · subst e
      omega
    · have := List.pairwise_iff_getElem.mp h j i hj hi (by omega)
      omega
theorem len_le {p : Nat} {cs : List Nat} (o : PasOk p cs) : cs.length ≤ p := by
  have key : ∀ (cs : List Nat) (lo : Nat), cs.Pairwise (· < ·) → (∀ c ∈ cs, lo ≤ c ∧ c < p) → cs.length ≤ p - lo := fun cs => by
    induction cs with
    | nil => intro lo _ _; exact Nat.zero_le _
    | cons a r ih =>
      intro lo hp hb
      obtain ⟨h1, h2⟩ := List.pairwise_cons.mp hp
      have ha := hb a List.mem_cons_self
      have := ih (a + 1) h2 fun c hc => ⟨h1 c hc, (hb c (List.mem_cons_of_mem _ hc)).2⟩
      rw [List.length_cons]
      omega
  have := key cs 0 o.inc fun c hc => ⟨Nat.zero_le _, o.lt c hc⟩
  omega
theorem next_at {p : Nat} {cs : List Nat} {q : Nat × Nat} (h : q ∈ nextP p cs) : ∃ i, ∃ hi : i < cs.length, q.1 = cs[i] ∧ ((∃ hj : i + 1 < cs.length, q.2 = cs[i + 1]) ∨ (i + 1 = cs.length ∧ ∃ h0 : 0 < cs.length, q.2 = cs[0] + p)) := by
  obtain ⟨i, hi, e⟩ := List.getElem_of_mem h
  unfold nextP at hi e
  rw [List.length_zip, List.length_append, List.length_drop, List.length_singleton] at hi
  rw [List.getElem_zip] at e
  have hi' : i < cs.length := by omega
  refine ⟨i, hi', by rw [← e], ?_⟩
  by_cases c : i + 1 < cs.length
  · refine .inl ⟨c, ?_⟩
    rw [← e]
    show (cs.drop 1 ++ [cs.headD 0 + p])[i]'(by rw [List.length_append, List.length_drop, List.length_singleton]; omega) = _
    rw [List.getElem_append_left (by rw [List.length_drop]; omega), List.getElem_drop]
    congr 1
    omega
  · refine .inr ⟨by omega, by omega, ?_⟩
    rw [← e]
    show (cs.drop 1 ++ [cs.headD 0 + p])[i]'(by rw [List.length_append, List.length_drop, List.length_singleton]; omega) = _
    rw [List.getElem_append_right (by rw [List.length_drop]; omega)]
    cases cs with
    | nil => cases hi'
    | cons a r => simp
theorem next_spec {p : Nat} {cs : List Nat} (o : PasOk p cs) {q : Nat × Nat} (h : q ∈ nextP p cs) : q.1 ∈ cs ∧ q.1 < q.2 ∧ q.2 ≤ q.1 + p ∧ (∀ j, q.1 + 1 + j < q.2 → (q.1 + 1 + j) % p ∉ cs) ∧ q.2 % p ∈ cs := by
  obtain ⟨i, hi, e1, e2⟩ := next_at h
  have hm : q.1 ∈ cs := by rw [e1]; exact List.getElem_mem hi
  have hp := o.lt _ hm
  refine ⟨hm, ?_⟩
  rcases e2 with ⟨hj, e2⟩ | ⟨hl, h0, e2⟩
  · have hm2 : q.2 ∈ cs := by rw [e2]; exact List.getElem_mem hj
    have hp2 := o.lt _ hm2
    have hlt : q.1 < q.2 := by
      rw [e1, e2]
      exact List.pairwise_iff_getElem.mp o.inc i (i + 1) hi hj (by omega)
    refine ⟨hlt, by omega, fun j hj2 hin => ?_, by rw [Nat.mod_eq_of_lt hp2]; exact hm2⟩
    rw [Nat.mod_eq_of_lt (by omega)] at hin
    obtain ⟨k, hk, ek⟩ := List.getElem_of_mem hin
    have h1 : i < k := inc_lt o.inc hi hk (by rw [← e1, ek]; omega)
    have h2 : k < i + 1 := inc_lt o.inc hk hj (by rw [← e2, ek]; omega)
    omega
  · have hm0 : cs[0] ∈ cs := List.getElem_mem h0
    have hp0 := o.lt _ hm0
    have h0le : cs[0] ≤ q.1 := by
      by_cases c : i = 0
      · subst c
        rw [e1]
        exact Nat.le_refl _
      · rw [e1]
        exact Nat.le_of_lt (List.pairwise_iff_getElem.mp o.inc 0 i h0 hi (by omega))
    refine ⟨by omega, by omega, fun j hj2 hin => ?_, ?_⟩
    · obtain ⟨k, hk, ek⟩ := List.getElem_of_mem hin
      by_cases c : q.1 + 1 + j < p
      · rw [Nat.mod_eq_of_lt c] at ek
        have h1 : i < k := inc_lt o.inc hi hk (by rw [← e1, ek]; omega)
        omega
      · have e3 : (q.1 + 1 + j) % p = q.1 + 1 + j - p := by
          rw [Nat.mod_eq_sub_mod (by omega), Nat.mod_eq_of_lt (by omega)]
        rw [e3] at ek
        have h1 : k < 0 := inc_lt o.inc hk h0 (by rw [ek]; omega)
        omega
    · rw [e2, Nat.add_mod_right, Nat.mod_eq_of_lt hp0]
      exact hm0
/-- the longest row -/
def longF (F : List (Int × Int)) : Nat := (F.map fun q => q.2.toNat).foldl max 0
theorem foldl_max : ∀ (xs : List Nat) (a : Nat), (xs.foldl max a = a ∨ xs.foldl max a ∈ xs) ∧ a ≤ xs.foldl max a ∧ ∀ x ∈ xs, x ≤ xs.foldl max a
  | [], a => ⟨.inl rfl, Nat.le_refl _, fun _ h => nomatch h⟩
  | y :: ys, a => by
    obtain ⟨h1, h2, h3⟩ := foldl_max ys (max a y)
    rw [List.foldl_cons]
    refine ⟨?_, by omega, fun x hx => ?_⟩
    · rcases h1 with h1 | h1
      · by_cases c : a ≤ y
        · rw [Nat.max_eq_right c] at h1 ⊢
          exact .inr (by rw [h1]; exact List.mem_cons_self)
        · rw [Nat.max_eq_left (by omega)] at h1 ⊢
          exact .inl h1
      · exact .inr (List.mem_cons_of_mem _ h1)
    · rcases List.mem_cons.mp hx with rfl | hx
      · omega
      · exact h3 x hx
theorem gaps_nn {p : Nat} {cs : List Nat} {q : Int × Int} (h : q ∈ gapsF p cs) : 0 < q.2 := by
  unfold gapsF at h
  obtain ⟨r, hr, rfl⟩ := List.mem_map.mp h
  have := of_decide_eq_true (List.mem_filter.mp hr).2
  show (0 : Int) < ((r.2 - r.1 - 1 : Nat) : Int)
  omega
theorem long_mem {p : Nat} {cs : List Nat} : ((longF (gapsF p cs) : Nat) : Int) = 0 ∧ gapsF p cs = [] ∨ ∃ q ∈ gapsF p cs, q.2 = (longF (gapsF p cs) : Nat) := by
  obtain ⟨h1, h2, h3⟩ := foldl_max ((gapsF p cs).map fun q => q.2.toNat) 0
  rcases h1 with h1 | h1
  · left
    refine ⟨by unfold longF; rw [h1]; rfl, ?_⟩
    cases z : gapsF p cs with
    | nil => rfl
    | cons q r =>
      have hq : q ∈ gapsF p cs := by rw [z]; exact List.mem_cons_self
      have a := gaps_nn hq
      have b := h3 q.2.toNat (List.mem_map.mpr ⟨q, hq, rfl⟩)
      omega
  · right
    obtain ⟨q, hq, e⟩ := List.mem_map.mp h1
    refine ⟨q, hq, ?_⟩
    have a := gaps_nn hq
    unfold longF
    rw [← e]
    omega
theorem long_le {p : Nat} {cs : List Nat} {q : Int × Int} (h : q ∈ gapsF p cs) : q.2 ≤ (longF (gapsF p cs) : Nat) := by
  have := (foldl_max ((gapsF p cs).map fun q => q.2.toNat) 0).2.2 q.2.toNat (List.mem_map.mpr ⟨q, h, rfl⟩)
  unfold longF
  have a := gaps_nn h
  omega
/-! the row of flags of passes -/
def rowP (p : Nat) (cs : List Nat) : List Bool := (List.range p).map fun s => decide (s ∈ cs)
theorem rowP_len (p : Nat) (cs : List Nat) : (rowP p cs).length = p := by unfold rowP; rw [List.length_map, List.length_range]
theorem rowP_rb {p : Nat} {cs : List Nat} (hp : 0 < p) (s : Nat) : rb (rowP p cs) s = decide (s % p ∈ cs) := by
  unfold rb
  have hm : s % p < p := Nat.mod_lt _ hp
  rw [rowP_len, List.getD_eq_getElem?_getD]
  unfold rowP
  rw [List.getElem?_map, List.getElem?_range hm]
  rfl
theorem wt_all {r : List Bool} {w s t : Nat} (hr : 0 < r.length) (h : wt r w s = none) : wt r w t = none := by
  unfold wt
  rw [List.find?_eq_none]
  intro d hd
  have hn := wt_none h
  have e : (t + d) % r.length = (s + ((t + d) % r.length + (r.length - s % r.length)) % r.length) % r.length := by
    rw [Nat.add_mod_mod]
    have e2 : s = r.length * (s / r.length) + s % r.length := (Nat.div_add_mod s r.length).symm
    have hm : s % r.length < r.length := Nat.mod_lt _ hr
    have : s + ((t + d) % r.length + (r.length - s % r.length)) = (t + d) % r.length + r.length * (s / r.length + 1) := by
      rw [Nat.mul_add, Nat.mul_one]
      omega
    rw [this, Nat.add_mul_mod_self_left, Nat.mod_mod]
  rw [← may_mod, e, may_mod, hn _ (Nat.mod_lt _ hr)]
  exact Bool.false_ne_true
/-- the lengths of all rows of free seconds -/
theorem zip_sum : ∀ (cs : List Nat) (x : Nat), (∀ q ∈ cs.zip (cs.drop 1 ++ [x]), q.1 < q.2) → cs ≠ [] → ((cs.zip (cs.drop 1 ++ [x])).map fun q => q.2 - q.1).sum + cs.headD 0 = x
  | [], _, _, h => absurd rfl h
  | [a], x, h, _ => by
    have := h (a, x) (by simp)
    simp
    omega
  | a :: b :: r, x, h, _ => by
    have ih := zip_sum (b :: r) x (fun q hq => h q (List.mem_cons_of_mem _ hq)) (fun z => nomatch z)
    have hab := h (a, b) (by simp)
    have e : (a :: b :: r).zip ((a :: b :: r).drop 1 ++ [x]) = (a, b) :: (b :: r).zip ((b :: r).drop 1 ++ [x]) := rfl
    rw [e, List.map_cons, List.sum_cons]
    show (b - a) + _ + a = x
    have ih' : _ + b = x := ih
    omega
theorem gaps_sum_aux : ∀ (l : List (Nat × Nat)) (p : Nat), (∀ q ∈ l, q.1 < q.2) → (((l.filter fun q => decide (1 < q.2 - q.1)).map fun q : Nat × Nat => ((((q.1 + 1) % p : Nat) : Int), ((q.2 - q.1 - 1 : Nat) : Int))).map (·.2)).sum + (l.length : Int) = (((l.map fun q => q.2 - q.1).sum : Nat) : Int)
  | [], p, _ => rfl
  | q :: l, p, h => by
    have ih := gaps_sum_aux l p fun x hx => h x (List.mem_cons_of_mem _ hx)
    have hq := h q List.mem_cons_self
    by_cases c : 1 < q.2 - q.1
    · rw [List.filter_cons_of_pos (by simpa using c), List.map_cons, List.map_cons, List.sum_cons, List.map_cons, List.sum_cons, List.length_cons]
      show ((q.2 - q.1 - 1 : Nat) : Int) + _ + _ = _
      omega
    · rw [List.filter_cons_of_neg (by simpa using c), List.map_cons, List.sum_cons, List.length_cons]
      omega
theorem gaps_sum {p : Nat} {cs : List Nat} (o : PasOk p cs) (hne : cs ≠ []) : ((gapsF p cs).map (·.2)).sum + (cs.length : Int) = (p : Int) := by
  have h := gaps_sum_aux (nextP p cs) p fun q hq => (next_spec o hq).2.1
  have z := zip_sum cs (cs.headD 0 + p) (fun q hq => (next_spec o (q := q) hq).2.1) hne
  have hl : (nextP p cs).length = cs.length := by
    unfold nextP
    rw [List.length_zip, List.length_append, List.length_drop, List.length_singleton]
    have := List.length_pos_iff.mpr hne
    omega
  rw [hl] at h
  unfold gapsF
  have e : ((nextP p cs).map fun q => q.2 - q.1).sum = p := by
    unfold nextP
    omega
  rw [e] at h
  exact h
theorem perm_sum {xs ys : List Int} (h : xs.Perm ys) : xs.sum = ys.sum := by
  induction h with
  | nil => rfl
  | cons x _ ih => rw [List.sum_cons, List.sum_cons, ih]
  | swap x y l => rw [List.sum_cons, List.sum_cons, List.sum_cons, List.sum_cons]; omega
  | trans _ _ h1 h2 => rw [h1, h2]
/-- one can start just where a row of free seconds is long enough -/
theorem fit_iff {p : Nat} {cs : List Nat} (o : PasOk p cs) (hne : cs ≠ []) {c : Nat} (c1 : 1 ≤ c) : (∃ s, s < p ∧ may (rowP p cs) c s = true) ↔ c ≤ longF (gapsF p cs) := by
  have p1 := o.p1
  constructor
  · rintro ⟨s, hs, m⟩
    have mf := may_iff.mp m
    -- the car behind which s lies
    have hex : ∃ d, d < p ∧ (s + (p - 1) - d) % p ∈ cs := by
      obtain ⟨x, hx⟩ := List.exists_mem_of_ne_nil cs hne
      have hxp := o.lt x hx
      by_cases cx : x < s
      · refine ⟨s - 1 - x, by omega, ?_⟩
        rw [show s + (p - 1) - (s - 1 - x) = x + p by omega, Nat.add_mod_right, Nat.mod_eq_of_lt hxp]
        exact hx
      · refine ⟨s + (p - 1) - x, by omega, ?_⟩
        rw [show s + (p - 1) - (s + (p - 1) - x) = x by omega, Nat.mod_eq_of_lt hxp]
        exact hx
    have hmin : ∃ d, d < p ∧ (s + (p - 1) - d) % p ∈ cs ∧ ∀ e, e < d → (s + (p - 1) - e) % p ∉ cs := by
      obtain ⟨d, hd, hc⟩ := hex
      cases z : (List.range p).find? fun d => decide ((s + (p - 1) - d) % p ∈ cs) with
      | none =>
        have := List.find?_eq_none.mp z d (List.mem_range.mpr hd)
        rw [decide_eq_true hc] at this
        exact absurd rfl this
      | some k =>
        refine ⟨k, List.mem_range.mp (List.mem_of_find?_eq_some z), of_decide_eq_true (List.find?_some (p := fun d => decide ((s + (p - 1) - d) % p ∈ cs)) z), fun e he => ?_⟩
        have := (List.find?_range_eq_some.mp z).2.2 e he
        simpa using this
    obtain ⟨d, hd, hc, hf⟩ := hmin
    have hmem : (s + (p - 1) - d) % p ∈ (nextP p cs).map (·.1) := by
      have e : (nextP p cs).map (·.1) = cs := by
        unfold nextP
        refine List.map_fst_zip ?_
        have := List.length_pos_iff.mpr hne
        rw [List.length_append, List.length_drop, List.length_singleton]
        omega
      rw [e]
      exact hc
    obtain ⟨q, hq, eq⟩ := List.mem_map.mp hmem
    obtain ⟨_, n2, n3, n4, n5⟩ := next_spec o hq
    have key : ∀ j, j < d + c → (q.1 + 1 + j) % p ∉ cs := fun j hj => by
      have e1 : (q.1 + 1 + j) % p = (s + (p - 1) - d + 1 + j) % p := by
        have eq' : q.1 = (s + (p - 1) - d) % p := eq
        rw [eq', Nat.add_assoc, Nat.mod_add_mod, ← Nat.add_assoc]
      rw [e1]
      by_cases cj : j < d
      · have := hf (d - 1 - j) (by omega)
        rw [show s + (p - 1) - (d - 1 - j) = s + (p - 1) - d + 1 + j by omega] at this
        exact this
      · have := mf (j - d) (by omega)
        rw [rowP_rb p1, decide_eq_false_iff_not] at this
        rw [show s + (p - 1) - d + 1 + j = (s + (j - d)) + p by omega, Nat.add_mod_right]
        exact this
    have hlen : d + c ≤ q.2 - q.1 - 1 := by
      by_cases cl : d + c ≤ q.2 - q.1 - 1
      · exact cl
      · have := key (q.2 - q.1 - 1) (by omega)
        rw [show q.1 + 1 + (q.2 - q.1 - 1) = q.2 by omega] at this
        exact absurd n5 this
    have hg : ((((q.1 + 1) % p : Nat) : Int), ((q.2 - q.1 - 1 : Nat) : Int)) ∈ gapsF p cs := by
      unfold gapsF
      exact List.mem_map.mpr ⟨q, List.mem_filter.mpr ⟨hq, decide_eq_true (by omega)⟩, rfl⟩
    have := long_le hg
    have this : ((q.2 - q.1 - 1 : Nat) : Int) ≤ (longF (gapsF p cs) : Nat) := this
    omega
  · intro h
    rcases long_mem (p := p) (cs := cs) with ⟨h1, _⟩ | ⟨g, hg, eg⟩
    · omega
    · unfold gapsF at hg
      obtain ⟨q, hq, rfl⟩ := List.mem_map.mp hg
      obtain ⟨hq, _⟩ := List.mem_filter.mp hq
      obtain ⟨_, n2, n3, n4, n5⟩ := next_spec o hq
      have eg : ((q.2 - q.1 - 1 : Nat) : Int) = (longF (gapsF p cs) : Nat) := eg
      refine ⟨(q.1 + 1) % p, Nat.mod_lt _ p1, ?_⟩
      have e := may_mod (rowP p cs) c (q.1 + 1)
      rw [rowP_len] at e
      rw [e]
      refine may_iff.mpr fun j hj => ?_
      rw [rowP_rb p1, decide_eq_false_iff_not]
      exact n4 j (by omega)
end PD

set_option Elab.async false
set_option linter.all false
set_option maxRecDepth 100000
set_option maxHeartbeats 2000000
/-! QG: parts of programs by name; dicts with int keys: what is found behind a store. -/
namespace PD
open PySem PySem.Spec
def IE.elt : IE → IE
  | .lc _ _ _ _ e => e
  | e => e
def IE.tst : IE → IC
  | .lc _ _ _ c _ => c
  | _ => .tt
def IE.src : IE → IS
  | .lc _ _ s _ _ => s
  | e => .val e
def IM.thn : IM → IMs
  | .ite _ a _ => a
  | .for_ _ _ b => b
  | .whl _ b => b
  | _ => .nil
def IM.els : IM → IMs
  | .ite _ _ b => b
  | _ => .nil
def IM.src : IM → IS
  | .for_ _ s _ => s
  | _ => .val (.lit .non)
def IM.wc : IM → IC
  | .whl c _ => c
  | _ => .tt
def IM.rhs : IM → IE
  | .set _ e => e
  | .setO _ e => e
  | .ret e => e
  | .expr e => e
  | .app _ e => e
  | _ => .lit .non
theorem isK_eq {z y : Ky} {k : D} (h : isK z k = true) : isK y k = decide (z = y) := by
  cases z with
  | inl i =>
    cases k with
    | int j =>
      have e : j = i := of_decide_eq_true h
      subst e
      cases y with
      | inl n =>
        show decide (j = n) = _
        exact decide_eq_decide.mpr ⟨fun q => by rw [q], fun q => by cases q; rfl⟩
      | inr n =>
        show false = _
        exact (decide_eq_false fun q => by cases q).symm
    | _ => cases h
  | inr i =>
    cases k with
    | str j =>
      have e : j = i := of_decide_eq_true h
      subst e
      cases y with
      | inl n =>
        show false = _
        exact (decide_eq_false fun q => by cases q).symm
      | inr n =>
        show decide (j = n) = _
        exact decide_eq_decide.mpr ⟨fun q => by rw [q], fun q => by cases q; rfl⟩
    | _ => cases h
theorem isK_self (z : Ky) : isK z (ofKy z) = true := by
  cases z with
  | inl i => exact decide_eq_true rfl
  | inr i => exact decide_eq_true rfl
theorem dget_none {z : Ky} : ∀ {ks vs : List D}, ks.length = vs.length → ks.any (isK z) = false → dget ks vs z = none
  | [], _, _, _ => by unfold dget; rfl
  | k :: ks, [], h, _ => by simp at h
  | k :: ks, v :: vs, h, a => by
    rw [List.any_cons, Bool.or_eq_false_iff] at a
    unfold dget
    rw [a.1, if_neg Bool.false_ne_true]
    exact dget_none (by simpa using h) a.2
theorem dset_len : ∀ {ks vs : List D} {z : Ky} {d : D}, ks.length = vs.length → (dset ks vs z d).length = ks.length
  | [], [], _, _, _ => rfl
  | [], v :: vs, _, _, h => by simp at h
  | k :: ks, [], _, _, h => by simp at h
  | k :: ks, v :: vs, z, d, h => by
    unfold dset
    rw [List.length_cons, List.length_cons, dset_len (by simpa using h)]
theorem dget_dset {z y : Ky} {d : D} : ∀ {ks vs : List D}, ks.length = vs.length → dget ks (dset ks vs z d) y = if y = z ∧ ks.any (isK z) = true then some d else dget ks vs y
  | [], vs, _ => by
    unfold dset dget
    simp
  | k :: ks, [], h => by simp at h
  | k :: ks, v :: vs, h => by
    have ih := dget_dset (z := z) (y := y) (d := d) (ks := ks) (vs := vs) (by simpa using h)
    unfold dset dget
    by_cases c : isK z k = true
    · rw [if_pos c, isK_eq c, List.any_cons, c]
      by_cases e : y = z
      · rw [if_pos (decide_eq_true e.symm), if_pos ⟨e, rfl⟩]
      · rw [if_neg (by simpa using fun q : z = y => e q.symm), if_neg fun q => e q.1, if_neg (by simpa using fun q : z = y => e q.symm), ih, if_neg fun q => e q.1]
    · have c' : isK z k = false := by simpa using c
      rw [if_neg c, List.any_cons, c', Bool.false_or]
      by_cases e : isK y k = true
      · rw [if_pos e, if_pos e, if_neg]
        rintro ⟨q, _⟩
        subst q
        exact c e
      · rw [if_neg e, if_neg e, ih]
theorem dget_app {z y : Ky} {d : D} : ∀ {ks vs : List D}, ks.length = vs.length → ks.any (isK z) = false → dget (ks ++ [ofKy z]) (vs ++ [d]) y = if y = z then some d else dget ks vs y
  | [], [], _, _ => by
    show dget [ofKy z] [d] y = _
    unfold dget
    rw [isK_eq (y := y) (isK_self z)]
    by_cases e : y = z
    · rw [if_pos (decide_eq_true e.symm), if_pos e]
    · rw [if_neg (by simpa using fun q : z = y => e q.symm), if_neg e]
      unfold dget
      rfl
  | [], v :: vs, h, _ => by simp at h
  | k :: ks, [], h, _ => by simp at h
  | k :: ks, v :: vs, h, a => by
    rw [List.any_cons, Bool.or_eq_false_iff] at a
    have ih := dget_app (z := z) (y := y) (d := d) (ks := ks) (vs := vs) (by simpa using h) a.2
    show dget (k :: (ks ++ [ofKy z])) (v :: (vs ++ [d])) y = _
    unfold dget
    by_cases e : isK y k = true
    · rw [if_pos e, if_pos e, if_neg]
      intro q
      have e' := e
      rw [q, a.1] at e'
      cases e'
    · rw [if_neg e, if_neg e, ih]
/-- what is found behind a store -/
theorem dget_put {ks vs : List D} (h : ks.length = vs.length) (z : Ky) (d : D) (y : Ky) : dget (dput ks vs z d).1 (dput ks vs z d).2 y = if y = z then some d else dget ks vs y := by
  unfold dput
  cases c : ks.any (isK z) with
  | true =>
    rw [if_pos rfl, dget_dset h, c]
    simp
  | false =>
    rw [if_neg Bool.false_ne_true]
    exact dget_app h c
theorem dput_len {ks vs : List D} (h : ks.length = vs.length) (z : Ky) (d : D) : (dput ks vs z d).1.length = (dput ks vs z d).2.length ∧ (dput ks vs z d).1.length ≤ ks.length + 1 := by
  unfold dput
  split
  · exact ⟨(dset_len h).symm, Nat.le_succ _⟩
  · simp [h]
theorem set_dct {ks vs : List D} (z : Int) (d : D) (h : ks.length < line) : setK ks vs (.int z) d = some (dput ks vs (.inl z) d) := by
  show (if ks.length < line then some (dput ks vs (.inl z) d) else none) = _
  rw [if_pos h]
end PD

set_option Elab.async false
set_option linter.all false
set_option maxRecDepth 100000
set_option maxHeartbeats 0
namespace Lk80
open PySem PySem.Spec PyProof.Rows L2 PD
def top (i : Nat) : Stmt := PySem.Challenge.pw_streethouse_k80_refusals_of_ploughs.main.body.getD i (.Pass ⟨0, 0, 0, 0⟩)
def clsBody : Stmt → List Stmt
  | .ClassDef _ _ _ b .. => b
  | _ => []
def sub (i : Nat) : Stmt := (clsBody (top i)).getD 0 (.Pass ⟨0, 0, 0, 0⟩)
/-- is_integer; slots 0 thing -/
def ir_is_integer : IMs := (.cons (.ret (.and (.isi (.var 0) [.int]) (.not (.isi (.var 0) [.bool]))))
  .nil)
abbrev d_is_integer : DefX := ⟨"is_integer", defArgs (top 1), defBody (top 1), defScope (top 1), [("thing" : Str)], [("thing" : Str)], ir_is_integer, false⟩
/-- is_within; slots 0 thing, 1 low, 2 high -/
def ir_is_within : IMs := (.cons (.ret (.and (.call 0 (.cons (.var 0) .nil)) (.chain .le .le (.var 1) (.var 0) (.var 2))))
  .nil)
abbrev d_is_within : DefX := ⟨"is_within", defArgs (top 2), defBody (top 2), defScope (top 2), [("thing" : Str), ("low" : Str), ("high" : Str)], [("thing" : Str), ("low" : Str), ("high" : Str)], ir_is_within, false⟩
/-- is_sized; slots 0 thing, 1 low, 2 high -/
def ir_is_sized : IMs := (.cons (.ret (.and (.isi (.var 0) [.tuple]) (.chain .le .le (.var 1) (.bi .len (.cons (.var 0) .nil)) (.var 2))))
  .nil)
abbrev d_is_sized : DefX := ⟨"is_sized", defArgs (top 3), defBody (top 3), defScope (top 3), [("thing" : Str), ("low" : Str), ("high" : Str)], [("thing" : Str), ("low" : Str), ("high" : Str)], ir_is_sized, false⟩
def lc_is_road_of_1 : IE := .lc [2] (.nm 2) (.val (.slc (.var 1) .no (.so (.lit (.int 2))))) .tt (.call 1 (.cons (.var 2) (.cons (.lit (.int 0)) (.cons (.bin .sub (.var 0) (.lit (.int 1))) .nil))))
/-- is_road_of; slots 0 n, 1 thing, 2 corner -/
def ir_is_road_of : IMs := (.cons (.ite (.or (.not (.val (.call 2 (.cons (.var 1) (.cons (.lit (.int 3)) (.cons (.lit (.int 3)) .nil)))))) (.not (.val (.bi .all (.cons lc_is_road_of_1 .nil)))))
    (.cons (.ret (.lit (.bl false)))
    .nil)
    .nil)
  (.cons (.ret (.and (.cmp .lt (.ix (.var 1) (.lit (.int 0))) (.ix (.var 1) (.lit (.int 1)))) (.call 1 (.cons (.ix (.var 1) (.lit (.int 2))) (.cons (.lit (.int 1)) (.cons (.lit (.int 20)) .nil))))))
  .nil))
abbrev d_is_road_of : DefX := ⟨"is_road_of", defArgs (top 25), defBody (top 25), defScope (top 25), [("n" : Str), ("thing" : Str), ("corner" : Str)], [("n" : Str), ("thing" : Str)], ir_is_road_of, false⟩
def lc_is_quarter_1 : IE := .lc [3] (.nm 3) (.val (.ix (.var 0) (.lit (.int 1)))) .tt (.call 3 (.cons (.ix (.var 0) (.lit (.int 0))) (.cons (.var 3) .nil)))
def lc_is_quarter_2 : IE := .lc [1, 2] (.tp (.cons (.nm 1) (.cons (.nm 2) .nil))) (.zip (.ix (.var 0) (.lit (.int 1))) (.slc (.ix (.var 0) (.lit (.int 1))) (.so (.lit (.int 1))) .no)) .tt (.cmp .le (.var 1) (.var 2))
/-- is_quarter; slots 0 thing, 1 one, 2 other, 3 street -/
def ir_is_quarter : IMs := (.cons (.ite (.or (.not (.val (.call 2 (.cons (.var 0) (.cons (.lit (.int 2)) (.cons (.lit (.int 2)) .nil)))))) (.not (.val (.call 1 (.cons (.ix (.var 0) (.lit (.int 0))) (.cons (.lit (.int 2)) (.cons (.lit (.int 7)) .nil)))))))
    (.cons (.ret (.lit (.bl false)))
    .nil)
    .nil)
  (.cons (.ite (.or (.not (.val (.call 2 (.cons (.ix (.var 0) (.lit (.int 1))) (.cons (.lit (.int 1)) (.cons (.lit (.int 8)) .nil)))))) (.not (.val (.bi .all (.cons lc_is_quarter_1 .nil)))))
    (.cons (.ret (.lit (.bl false)))
    .nil)
    .nil)
  (.cons (.ret (.bi .all (.cons lc_is_quarter_2 .nil)))
  .nil)))
abbrev d_is_quarter : DefX := ⟨"is_quarter", defArgs (top 26), defBody (top 26), defScope (top 26), [("thing" : Str), ("one" : Str), ("other" : Str), ("street" : Str)], [("thing" : Str)], ir_is_quarter, false⟩
/-- check_quarter; slots 0 thing -/
def ir_check_quarter : IMs := (.cons (.ite (.not (.val (.call 4 (.cons (.var 0) .nil))))
    (.cons (.rse 5 none)
    .nil)
    .nil)
  .nil)
abbrev d_check_quarter : DefX := ⟨"check_quarter", defArgs (top 27), defBody (top 27), defScope (top 27), [("thing" : Str)], [("thing" : Str)], ir_check_quarter, false⟩
def lc_is_walk_1 : IE := .lc [8] (.nm 8) (.val (.var 1)) .tt (.call 2 (.cons (.var 8) (.cons (.lit (.int 2)) (.cons (.lit (.int 2)) .nil))))
def bd_is_walk_1 : IMs := (.cons (.ite (.or (.not (.val (.call 1 (.cons (.var 4) (.cons (.lit (.int 0)) (.cons (.bin .sub (.bi .len (.cons (.ix (.var 0) (.lit (.int 1))) .nil)) (.lit (.int 1))) .nil)))))) (.not (.val (.call 1 (.cons (.var 5) (.cons (.lit (.int 0)) (.cons (.bin .sub (.ix (.var 0) (.lit (.int 0))) (.lit (.int 1))) .nil)))))))
    (.cons (.ret (.lit (.bl false)))
    .nil)
    .nil)
  (.cons (.ite (.val (.cmp .nin (.var 5) (.slc (.ix (.ix (.var 0) (.lit (.int 1))) (.var 4)) .no (.so (.lit (.int 2))))))
    (.cons (.ret (.lit (.bl false)))
    .nil)
    .nil)
  .nil))
def lp_is_walk_1 : IM := .for_ (.tp (.cons (.nm 4) (.cons (.nm 5) .nil))) (.val (.var 1)) bd_is_walk_1
def lc_is_walk_2 : IE := .lc [4, 5] (.tp (.cons (.nm 4) (.cons (.nm 5) .nil))) (.val (.var 1)) .tt (.bin .sub (.bin .add (.ix (.ix (.ix (.var 0) (.lit (.int 1))) (.var 4)) (.lit (.int 0))) (.ix (.ix (.ix (.var 0) (.lit (.int 1))) (.var 4)) (.lit (.int 1)))) (.var 5))
def lc_is_walk_3 : IE := .lc [6, 7] (.tp (.cons (.nm 6) (.cons (.nm 7) .nil))) (.zip (.var 1) (.slc (.var 3) (.so (.lit (.int 1))) .no)) .tt (.cmp .eq (.ix (.var 6) (.lit (.int 1))) (.var 7))
/-- is_walk; slots 0 quarter, 1 thing, 2 most, 3 ends, 4 at, 5 to, 6 one, 7 end, 8 pair -/
def ir_is_walk : IMs := (.cons (.ite (.or (.not (.val (.call 2 (.cons (.var 1) (.cons (.lit (.int 1)) (.cons (.var 2) .nil)))))) (.not (.val (.bi .all (.cons lc_is_walk_1 .nil)))))
    (.cons (.ret (.lit (.bl false)))
    .nil)
    .nil)
  (.cons lp_is_walk_1
  (.cons (.set 3 lc_is_walk_2)
  (.cons (.ret (.bi .all (.cons lc_is_walk_3 .nil)))
  .nil))))
abbrev d_is_walk : DefX := ⟨"is_walk", defArgs (top 28), defBody (top 28), defScope (top 28), [("quarter" : Str), ("thing" : Str), ("most" : Str), ("ends" : Str), ("at" : Str), ("to" : Str), ("one" : Str), ("end" : Str), ("pair" : Str)], [("quarter" : Str), ("thing" : Str), ("most" : Str)], ir_is_walk, false⟩
/-- begin_of; slots 0 quarter, 1 walk, 2 at, 3 to -/
def ir_begin_of : IMs := (.cons (.setT (.tp (.cons (.nm 2) (.cons (.nm 3) .nil))) (.ix (.var 1) (.lit (.int 0))))
  (.cons (.ret (.bin .sub (.bin .add (.ix (.ix (.ix (.var 0) (.lit (.int 1))) (.var 2)) (.lit (.int 0))) (.ix (.ix (.ix (.var 0) (.lit (.int 1))) (.var 2)) (.lit (.int 1)))) (.var 3)))
  .nil))
abbrev d_begin_of : DefX := ⟨"begin_of", defArgs (top 29), defBody (top 29), defScope (top 29), [("quarter" : Str), ("walk" : Str), ("at" : Str), ("to" : Str)], [("quarter" : Str), ("walk" : Str)], ir_begin_of, false⟩
/-- is_tour; slots 0 quarter, 1 thing -/
def ir_is_tour : IMs := (.cons (.ret (.and (.call 6 (.cons (.var 0) (.cons (.var 1) (.cons (.lit (.int 40)) .nil)))) (.cmp .eq (.call 7 (.cons (.var 0) (.cons (.var 1) .nil))) (.ix (.ix (.var 1) (.neg (.lit (.int 1)))) (.lit (.int 1))))))
  .nil)
abbrev d_is_tour : DefX := ⟨"is_tour", defArgs (top 30), defBody (top 30), defScope (top 30), [("quarter" : Str), ("thing" : Str)], [("quarter" : Str), ("thing" : Str)], ir_is_tour, false⟩
def lc_long_of_1 : IE := .lc [2] (.nm 2) (.val (.var 1)) .tt (.ix (.ix (.ix (.var 0) (.lit (.int 1))) (.var 2)) (.lit (.int 2)))
/-- long_of; slots 0 quarter, 1 some, 2 at -/
def ir_long_of : IMs := (.cons (.ret (.bi .sum (.cons lc_long_of_1 .nil)))
  .nil)
abbrev d_long_of : DefX := ⟨"long_of", defArgs (top 31), defBody (top 31), defScope (top 31), [("quarter" : Str), ("some" : Str), ("at" : Str)], [("quarter" : Str), ("some" : Str)], ir_long_of, false⟩
def lc_tour_long_1 : IE := .lc [2, 3] (.tp (.cons (.nm 2) (.cons (.nm 3) .nil))) (.val (.var 1)) .tt (.var 2)
/-- tour_long; slots 0 quarter, 1 tour, 2 at, 3 to -/
def ir_tour_long : IMs := (.cons (.expr (.call 5 (.cons (.var 0) .nil)))
  (.cons (.ite (.not (.val (.call 8 (.cons (.var 0) (.cons (.var 1) .nil)))))
    (.cons (.rse 7 none)
    .nil)
    .nil)
  (.cons (.ret (.call 9 (.cons (.var 0) (.cons lc_tour_long_1 .nil))))
  .nil)))
abbrev d_tour_long : DefX := ⟨"tour_long", defArgs (top 32), defBody (top 32), defScope (top 32), [("quarter" : Str), ("tour" : Str), ("at" : Str), ("to" : Str)], [("quarter" : Str), ("tour" : Str)], ir_tour_long, false⟩
def bd_raw_degrees_1 : IMs := (.cons (.augIx 2 (.var 4) .add (.bin .add (.lit (.int 1)) (.bi .int (.cons (.cmp .inn (.var 3) (.var 1)) .nil))))
  (.cons (.augIx 2 (.var 5) .add (.bin .add (.lit (.int 1)) (.bi .int (.cons (.cmp .inn (.var 3) (.var 1)) .nil))))
  .nil))
def lp_raw_degrees_1 : IM := .for_ (.tp (.cons (.nm 3) (.cons (.tp (.cons (.nm 4) (.cons (.nm 5) (.cons (.nm 6) .nil)))) .nil))) (.enum (.ix (.var 0) (.lit (.int 1)))) bd_raw_degrees_1
/-- raw_degrees; slots 0 quarter, 1 again, 2 found, 3 at, 4 a, 5 b, 6 long -/
def ir_raw_degrees : IMs := (.cons (.setO 2 (.bin .mul (.lst (.cons (.lit (.int 0)) .nil)) (.ix (.var 0) (.lit (.int 0)))))
  (.cons lp_raw_degrees_1
  (.cons (.frz [2])
  (.cons (.ret (.var 2))
  .nil))))
abbrev d_raw_degrees : DefX := ⟨"raw_degrees", defArgs (top 33), defBody (top 33), defScope (top 33), [("quarter" : Str), ("again" : Str), ("found" : Str), ("at" : Str), ("a" : Str), ("b" : Str), ("long" : Str)], [("quarter" : Str), ("again" : Str)], ir_raw_degrees, false⟩
/-- degrees_of; slots 0 quarter -/
def ir_degrees_of : IMs := (.cons (.expr (.call 5 (.cons (.var 0) .nil)))
  (.cons (.ret (.bi .tuple (.cons (.call 11 (.cons (.var 0) (.cons (.tup .nil) .nil))) .nil)))
  .nil))
abbrev d_degrees_of : DefX := ⟨"degrees_of", defArgs (top 34), defBody (top 34), defScope (top 34), [("quarter" : Str)], [("quarter" : Str)], ir_degrees_of, false⟩
def lc_part_of_1 : IE := .lc [7] (.nm 7) (.val (.ix (.var 0) (.lit (.int 1)))) .tt (.ix (.var 7) (.lit (.int 0)))
def bd_part_of_1 : IMs := (.cons (.ite (.or (.val (.cmp .inn (.var 4) (.ovar 2))) (.val (.cmp .inn (.var 5) (.ovar 2))))
    (.cons (.upd 2 (.dctL (.cons (.var 4) (.cons (.lit (.bl true)) (.cons (.var 5) (.cons (.lit (.bl true)) .nil))))))
    .nil)
    .nil)
  .nil)
def lp_part_of_1 : IM := .for_ (.tp (.cons (.nm 4) (.cons (.nm 5) (.cons (.nm 6) .nil)))) (.val (.ix (.var 0) (.lit (.int 1)))) bd_part_of_1
def bd_part_of_2 : IMs := (.cons lp_part_of_1
  .nil)
def lp_part_of_2 : IM := .for_ (.nm 3) (.rng1 (.ix (.var 0) (.lit (.int 0)))) bd_part_of_2
def lc_part_of_2 : IE := .lc [7] (.nm 7) (.val (.ix (.var 0) (.lit (.int 1)))) .tt (.cmp .inn (.ix (.var 7) (.lit (.int 0))) (.ovar 2))
/-- part_of; slots 0 quarter, 1 first, 2 met, 3 step, 4 a, 5 b, 6 long, 7 street -/
def ir_part_of : IMs := (.cons (.set 1 (.bi .min (.cons lc_part_of_1 .nil)))
  (.cons (.setO 2 (.dctL (.cons (.var 1) (.cons (.lit (.bl true)) .nil))))
  (.cons lp_part_of_2
  (.cons (.ret (.tup (.cons (.bi .tuple (.cons (.bi .sorted (.cons (.ovar 2) .nil)) .nil)) (.cons (.bi .all (.cons lc_part_of_2 .nil)) .nil))))
  .nil))))
abbrev d_part_of : DefX := ⟨"part_of", defArgs (top 35), defBody (top 35), defScope (top 35), [("quarter" : Str), ("first" : Str), ("met" : Str), ("step" : Str), ("a" : Str), ("b" : Str), ("long" : Str), ("street" : Str)], [("quarter" : Str)], ir_part_of, false⟩
def bd_steps_at_1 : IMs := (.cons (.setT (.tp (.cons (.nm 6) (.cons (.nm 7) (.cons (.nm 8) .nil)))) (.ix (.ix (.var 0) (.lit (.int 1))) (.var 5)))
  (.cons (.ite (.and (.val (.cmp .eq (.var 1) (.var 6))) (.or (.val (.cmp .is (.var 3) (.lit .non))) (.val (.cmp .eq (.ix (.var 3) (.var 5)) (.lit (.str "up"))))))
    (.cons (.app 4 (.tup (.cons (.var 5) (.cons (.var 7) .nil))))
    .nil)
    .nil)
  (.cons (.ite (.and (.val (.cmp .eq (.var 1) (.var 7))) (.or (.val (.cmp .is (.var 3) (.lit .non))) (.val (.cmp .eq (.ix (.var 3) (.var 5)) (.lit (.str "down"))))))
    (.cons (.app 4 (.tup (.cons (.var 5) (.cons (.var 6) .nil))))
    .nil)
    .nil)
  .nil)))
def lp_steps_at_1 : IM := .for_ (.nm 5) (.val (.var 2)) bd_steps_at_1
/-- steps_at; slots 0 quarter, 1 here, 2 left, 3 words, 4 found, 5 at, 6 a, 7 b, 8 long -/
def ir_steps_at : IMs := (.cons (.setO 4 (.lst .nil))
  (.cons lp_steps_at_1
  (.cons (.frz [4])
  (.cons (.ret (.var 4))
  .nil))))
abbrev d_steps_at : DefX := ⟨"steps_at", defArgs (top 36), defBody (top 36), defScope (top 36), [("quarter" : Str), ("here" : Str), ("left" : Str), ("words" : Str), ("found" : Str), ("at" : Str), ("a" : Str), ("b" : Str), ("long" : Str)], [("quarter" : Str), ("here" : Str), ("left" : Str), ("words" : Str)], ir_steps_at, false⟩
def lc_least_walk_1 : IE := .lc [8] (.nm 8) (.val (.call 14 (.cons (.var 0) (.cons (.var 1) (.cons (.rngL false (.lit (.int 0)) (.bi .len (.cons (.ix (.var 0) (.lit (.int 1))) .nil))) (.cons (.var 3) .nil)))))) .tt (.tup (.cons (.var 8) .nil))
def lc_least_walk_2 : IE := .lc [9, 10] (.tp (.cons (.nm 9) (.cons (.nm 10) .nil))) (.val (.var 5)) .tt (.var 9)
def lc_least_walk_3 : IE := .lc [9] (.nm 9) (.rng1 (.bi .len (.cons (.ix (.var 0) (.lit (.int 1))) .nil))) (.val (.cmp .nin (.var 9) (.var 6))) (.var 9)
def lc_least_walk_4 : IE := .lc [8] (.nm 8) (.val (.call 14 (.cons (.var 0) (.cons (.ix (.ix (.var 5) (.neg (.lit (.int 1)))) (.lit (.int 1))) (.cons (.var 7) (.cons (.var 3) .nil)))))) .tt (.bin .add (.var 5) (.tup (.cons (.var 8) .nil)))
def bd_least_walk_1 : IMs := (.cons (.pop (.nm 5) 4)
  (.cons (.set 6 lc_least_walk_2)
  (.cons (.set 7 lc_least_walk_3)
  (.cons (.ite (.and (.not (.val (.var 7))) (.val (.cmp .eq (.ix (.ix (.var 5) (.neg (.lit (.int 1)))) (.lit (.int 1))) (.var 2))))
    (.cons (.ret (.var 5))
    .nil)
    .nil)
  (.cons (.ext 4 (.rev lc_least_walk_4))
  .nil)))))
def lp_least_walk_1 : IM := .whl (.val (.ovar 4)) bd_least_walk_1
/-- least_walk; slots 0 quarter, 1 begin, 2 end, 3 words, 4 waiting, 5 walk, 6 used, 7 left, 8 pair, 9 at, 10 to -/
def ir_least_walk : IMs := (.cons (.setO 4 (.rev lc_least_walk_1))
  (.cons lp_least_walk_1
  (.cons (.ret (.lit .non))
  .nil)))
abbrev d_least_walk : DefX := ⟨"least_walk", defArgs (top 38), defBody (top 38), defScope (top 38), [("quarter" : Str), ("begin" : Str), ("end" : Str), ("words" : Str), ("waiting" : Str), ("walk" : Str), ("used" : Str), ("left" : Str), ("pair" : Str), ("at" : Str), ("to" : Str)], [("quarter" : Str), ("begin" : Str), ("end" : Str), ("words" : Str)], ir_least_walk, false⟩
def lc_least_tour_1 : IE := .lc [3] (.nm 3) (.rng1 (.ix (.var 0) (.lit (.int 0)))) .tt (.call 15 (.cons (.var 0) (.cons (.var 3) (.cons (.var 3) (.cons (.var 1) .nil)))))
def lc_least_tour_2 : IE := .lc [4] (.nm 4) (.val (.var 2)) (.val (.cmp .isn (.var 4) (.lit .non))) (.var 4)
/-- least_tour; slots 0 quarter, 1 words, 2 some, 3 corner, 4 walk -/
def ir_least_tour : IMs := (.cons (.set 2 lc_least_tour_1)
  (.cons (.set 2 lc_least_tour_2)
  (.cons (.ret (.ite (.val (.var 2)) (.bi .min (.cons (.var 2) .nil)) (.lit .non)))
  .nil)))
abbrev d_least_tour : DefX := ⟨"least_tour", defArgs (top 39), defBody (top 39), defScope (top 39), [("quarter" : Str), ("words" : Str), ("some" : Str), ("corner" : Str), ("walk" : Str)], [("quarter" : Str), ("words" : Str)], ir_least_tour, false⟩
def lc_raw_once_1 : IE := .lc [4, 5] (.tp (.cons (.nm 4) (.cons (.nm 5) .nil))) (.enum (.call 11 (.cons (.var 0) (.cons (.tup .nil) .nil)))) (.val (.cmp .eq (.bin .mod (.var 5) (.lit (.int 2))) (.lit (.int 1)))) (.var 4)
/-- raw_once; slots 0 quarter, 1 odd, 2 part, 3 is_whole, 4 corner, 5 degree -/
def ir_raw_once : IMs := (.cons (.setT (.tp (.cons (.nm 2) (.cons (.nm 3) .nil))) (.call 13 (.cons (.var 0) .nil)))
  (.cons (.ite (.not (.val (.var 3)))
    (.cons (.ret (.tup (.cons (.lit (.str "apart")) (.cons (.var 2) .nil))))
    .nil)
    .nil)
  (.cons (.set 1 lc_raw_once_1)
  (.cons (.ret (.ite (.val (.var 1)) (.tup (.cons (.lit (.str "odd")) (.cons (.bi .tuple (.cons (.var 1) .nil)) .nil))) (.tup (.cons (.lit (.str "tour")) (.cons (.call 16 (.cons (.var 0) (.cons (.lit .non) .nil))) .nil)))))
  .nil))))
abbrev d_raw_once : DefX := ⟨"raw_once", defArgs (top 40), defBody (top 40), defScope (top 40), [("quarter" : Str), ("odd" : Str), ("part" : Str), ("is_whole" : Str), ("corner" : Str), ("degree" : Str)], [("quarter" : Str)], ir_raw_once, false⟩
/-- once_told; slots 0 quarter -/
def ir_once_told : IMs := (.cons (.expr (.call 5 (.cons (.var 0) .nil)))
  (.cons (.ret (.call 17 (.cons (.var 0) .nil)))
  .nil))
abbrev d_once_told : DefX := ⟨"once_told", defArgs (top 41), defBody (top 41), defScope (top 41), [("quarter" : Str)], [("quarter" : Str)], ir_once_told, false⟩
def lc_is_lot_1 : IE := .lc [2] (.nm 2) (.val (.var 0)) .tt (.call 1 (.cons (.var 2) (.cons (.lit (.int 0)) (.cons (.bin .sub (.var 1) (.lit (.int 1))) .nil))))
def lc_is_lot_2 : IE := .lc [2, 3] (.tp (.cons (.nm 2) (.cons (.nm 3) .nil))) (.zip (.var 0) (.slc (.var 0) (.so (.lit (.int 1))) .no)) .tt (.cmp .lt (.var 2) (.var 3))
/-- is_lot; slots 0 thing, 1 many, 2 one, 3 other -/
def ir_is_lot : IMs := (.cons (.ite (.or (.not (.val (.isi (.var 0) [.tuple]))) (.not (.val (.bi .all (.cons lc_is_lot_1 .nil)))))
    (.cons (.ret (.lit (.bl false)))
    .nil)
    .nil)
  (.cons (.ret (.bi .all (.cons lc_is_lot_2 .nil)))
  .nil))
abbrev d_is_lot : DefX := ⟨"is_lot", defArgs (top 4), defBody (top 4), defScope (top 4), [("thing" : Str), ("many" : Str), ("one" : Str), ("other" : Str)], [("thing" : Str), ("many" : Str)], ir_is_lot, false⟩
/-- is_lot_told; slots 0 thing, 1 due -/
def ir_is_lot_told : IMs := (.cons (.ite (.or (.not (.val (.call 2 (.cons (.var 0) (.cons (.lit (.int 2)) (.cons (.lit (.int 2)) .nil)))))) (.or (.not (.val (.isi (.ix (.var 0) (.lit (.int 0))) [.str]))) (.val (.cmp .ne (.ix (.var 0) (.lit (.int 0))) (.ix (.var 1) (.lit (.int 0)))))))
    (.cons (.ret (.lit (.bl false)))
    .nil)
    .nil)
  (.cons (.ret (.and (.call 19 (.cons (.ix (.var 0) (.lit (.int 1))) (.cons (.lit (.int 7)) .nil))) (.cmp .eq (.ix (.var 0) (.lit (.int 1))) (.ix (.var 1) (.lit (.int 1))))))
  .nil))
abbrev d_is_lot_told : DefX := ⟨"is_lot_told", defArgs (top 42), defBody (top 42), defScope (top 42), [("thing" : Str), ("due" : Str)], [("thing" : Str), ("due" : Str)], ir_is_lot_told, false⟩
def lc_is_once_told_1 : IE := .lc [3, 4] (.tp (.cons (.nm 3) (.cons (.nm 4) .nil))) (.val (.ix (.var 1) (.lit (.int 1)))) .tt (.var 3)
/-- is_once_told; slots 0 quarter, 1 thing, 2 due, 3 at, 4 to -/
def ir_is_once_told : IMs := (.cons (.expr (.call 5 (.cons (.var 0) .nil)))
  (.cons (.set 2 (.call 17 (.cons (.var 0) .nil)))
  (.cons (.ite (.val (.cmp .ne (.ix (.var 2) (.lit (.int 0))) (.lit (.str "tour"))))
    (.cons (.ret (.call 20 (.cons (.var 1) (.cons (.var 2) .nil))))
    .nil)
    .nil)
  (.cons (.ite (.or (.not (.val (.call 2 (.cons (.var 1) (.cons (.lit (.int 2)) (.cons (.lit (.int 2)) .nil)))))) (.or (.not (.val (.isi (.ix (.var 1) (.lit (.int 0))) [.str]))) (.or (.val (.cmp .ne (.ix (.var 1) (.lit (.int 0))) (.lit (.str "tour")))) (.not (.val (.call 8 (.cons (.var 0) (.cons (.ix (.var 1) (.lit (.int 1))) .nil))))))))
    (.cons (.ret (.lit (.bl false)))
    .nil)
    .nil)
  (.cons (.ret (.cmp .eq (.bi .sorted (.cons lc_is_once_told_1 .nil)) (.rngL false (.lit (.int 0)) (.bi .len (.cons (.ix (.var 0) (.lit (.int 1))) .nil)))))
  .nil)))))
abbrev d_is_once_told : DefX := ⟨"is_once_told", defArgs (top 43), defBody (top 43), defScope (top 43), [("quarter" : Str), ("thing" : Str), ("due" : Str), ("at" : Str), ("to" : Str)], [("quarter" : Str), ("thing" : Str)], ir_is_once_told, false⟩
def bd_walks_from_1 : IMs := (.cons (.ite (.or (.val (.cmp .is (.var 3) (.lit .non))) (.val (.cmp .eq (.var 5) (.var 3))))
    (.cons (.app 7 (.tup (.cons (.var 5) .nil)))
    .nil)
    .nil)
  .nil)
def lp_walks_from_1 : IM := .for_ (.nm 5) (.val (.call 14 (.cons (.var 0) (.cons (.var 1) (.cons (.rngL false (.lit (.int 0)) (.bi .len (.cons (.ix (.var 0) (.lit (.int 1))) .nil))) (.cons (.var 4) .nil)))))) bd_walks_from_1
def lc_walks_from_1 : IE := .lc [11, 12] (.tp (.cons (.nm 11) (.cons (.nm 12) .nil))) (.val (.var 8)) .tt (.var 11)
def lc_walks_from_2 : IE := .lc [11] (.nm 11) (.rng1 (.bi .len (.cons (.ix (.var 0) (.lit (.int 1))) .nil))) (.val (.cmp .nin (.var 11) (.var 9))) (.var 11)
def lc_walks_from_3 : IE := .lc [5] (.nm 5) (.val (.call 14 (.cons (.var 0) (.cons (.ix (.ix (.var 8) (.neg (.lit (.int 1)))) (.lit (.int 1))) (.cons (.var 10) (.cons (.var 4) .nil)))))) .tt (.bin .add (.var 8) (.tup (.cons (.var 5) .nil)))
def bd_walks_from_2 : IMs := (.cons (.pop (.nm 8) 7)
  (.cons (.set 9 lc_walks_from_1)
  (.cons (.set 10 lc_walks_from_2)
  (.cons (.ite (.val (.var 10))
    (.cons (.ext 7 lc_walks_from_3)
    .nil)
    (.cons (.ite (.val (.cmp .eq (.ix (.ix (.var 8) (.neg (.lit (.int 1)))) (.lit (.int 1))) (.var 2)))
      (.cons (.app 6 (.var 8))
      .nil)
      .nil)
    .nil))
  .nil))))
def lp_walks_from_2 : IM := .whl (.val (.ovar 7)) bd_walks_from_2
/-- walks_from; slots 0 quarter, 1 begin, 2 end, 3 first, 4 words, 5 pair, 6 found, 7 waiting, 8 walk, 9 used, 10 left, 11 at, 12 to -/
def ir_walks_from : IMs := (.cons (.par [(6, true), (7, true)] (.cons (.lst .nil) (.cons (.lst .nil) .nil)))
  (.cons lp_walks_from_1
  (.cons lp_walks_from_2
  (.cons (.ret (.bi .sorted (.cons (.ovar 6) .nil)))
  .nil))))
abbrev d_walks_from : DefX := ⟨"walks_from", defArgs (top 37), defBody (top 37), defScope (top 37), [("quarter" : Str), ("begin" : Str), ("end" : Str), ("first" : Str), ("words" : Str), ("pair" : Str), ("found" : Str), ("waiting" : Str), ("walk" : Str), ("used" : Str), ("left" : Str), ("at" : Str), ("to" : Str)], [("quarter" : Str), ("begin" : Str), ("end" : Str), ("first" : Str), ("words" : Str)], ir_walks_from, false⟩
/-- once_count; slots 0 quarter, 1 a, 2 b, 3 long -/
def ir_once_count : IMs := (.cons (.expr (.call 5 (.cons (.var 0) .nil)))
  (.cons (.setT (.tp (.cons (.nm 1) (.cons (.nm 2) (.cons (.nm 3) .nil)))) (.ix (.ix (.var 0) (.lit (.int 1))) (.lit (.int 0))))
  (.cons (.ret (.bi .len (.cons (.call 22 (.cons (.var 0) (.cons (.var 1) (.cons (.var 1) (.cons (.tup (.cons (.lit (.int 0)) (.cons (.var 2) .nil))) (.cons (.lit .non) .nil)))))) .nil)))
  .nil)))
abbrev d_once_count : DefX := ⟨"once_count", defArgs (top 44), defBody (top 44), defScope (top 44), [("quarter" : Str), ("a" : Str), ("b" : Str), ("long" : Str)], [("quarter" : Str)], ir_once_count, false⟩
/-- check_whole; slots 0 quarter -/
def ir_check_whole : IMs := (.cons (.expr (.call 5 (.cons (.var 0) .nil)))
  (.cons (.ite (.not (.val (.ix (.call 13 (.cons (.var 0) .nil)) (.lit (.int 1)))))
    (.cons (.rse 2 none)
    .nil)
    .nil)
  .nil))
abbrev d_check_whole : DefX := ⟨"check_whole", defArgs (top 46), defBody (top 46), defScope (top 46), [("quarter" : Str)], [("quarter" : Str)], ir_check_whole, false⟩
def lc_all_lots_1 : IE := .lc [4] (.nm 4) (.val (.var 1)) .tt (.bin .add (.var 4) (.tup (.cons (.var 2) .nil)))
def bd_all_lots_1 : IMs := (.cons (.set 1 (.bin .add (.var 1) lc_all_lots_1))
  .nil)
def lp_all_lots_1 : IM := .for_ (.nm 2) (.val (.var 0)) bd_all_lots_1
def lc_all_lots_2 : IE := .lc [4] (.nm 4) (.val (.var 1)) .tt (.tup (.cons (.bi .len (.cons (.var 4) .nil)) (.cons (.var 4) .nil)))
def lc_all_lots_3 : IE := .lc [3, 4] (.tp (.cons (.nm 3) (.cons (.nm 4) .nil))) (.val (.bi .sorted (.cons lc_all_lots_2 .nil))) .tt (.var 4)
/-- all_lots; slots 0 some, 1 found, 2 one, 3 size, 4 lot -/
def ir_all_lots : IMs := (.cons (.set 1 (.lst (.cons (.tup .nil) .nil)))
  (.cons lp_all_lots_1
  (.cons (.ret lc_all_lots_3)
  .nil)))
abbrev d_all_lots : DefX := ⟨"all_lots", defArgs (top 5), defBody (top 5), defScope (top 5), [("some" : Str), ("found" : Str), ("one" : Str), ("size" : Str), ("lot" : Str)], [("some" : Str)], ir_all_lots, false⟩
def lc_even_lots_1 : IE := .lc [3] (.nm 3) (.val (.call 11 (.cons (.var 0) (.cons (.var 2) .nil)))) .tt (.cmp .eq (.bin .mod (.var 3) (.lit (.int 2))) (.lit (.int 0)))
def lc_even_lots_2 : IE := .lc [2] (.nm 2) (.val (.var 1)) (.val (.bi .all (.cons lc_even_lots_1 .nil))) (.var 2)
/-- even_lots; slots 0 quarter, 1 lots, 2 lot, 3 degree -/
def ir_even_lots : IMs := (.cons (.set 1 (.call 25 (.cons (.rngL false (.lit (.int 0)) (.bi .len (.cons (.ix (.var 0) (.lit (.int 1))) .nil))) .nil)))
  (.cons (.ret lc_even_lots_2)
  .nil))
abbrev d_even_lots : DefX := ⟨"even_lots", defArgs (top 45), defBody (top 45), defScope (top 45), [("quarter" : Str), ("lots" : Str), ("lot" : Str), ("degree" : Str)], [("quarter" : Str)], ir_even_lots, false⟩
def lc_raw_clear_1 : IE := .lc [4] (.nm 4) (.val (.call 26 (.cons (.var 0) .nil))) .tt (.tup (.cons (.call 9 (.cons (.var 0) (.cons (.var 4) .nil))) (.cons (.bi .len (.cons (.var 4) .nil)) (.cons (.var 4) .nil))))
/-- raw_clear; slots 0 quarter, 1 whole, 2 long, 3 size, 4 lot -/
def ir_raw_clear : IMs := (.cons (.set 1 (.call 9 (.cons (.var 0) (.cons (.rngL false (.lit (.int 0)) (.bi .len (.cons (.ix (.var 0) (.lit (.int 1))) .nil))) .nil))))
  (.cons (.setT (.tp (.cons (.nm 2) (.cons (.nm 3) (.cons (.nm 4) .nil)))) (.bi .min (.cons lc_raw_clear_1 .nil)))
  (.cons (.ret (.tup (.cons (.bin .add (.var 1) (.var 2)) (.cons (.var 4) .nil))))
  .nil)))
abbrev d_raw_clear : DefX := ⟨"raw_clear", defArgs (top 47), defBody (top 47), defScope (top 47), [("quarter" : Str), ("whole" : Str), ("long" : Str), ("size" : Str), ("lot" : Str)], [("quarter" : Str)], ir_raw_clear, false⟩
/-- clear_told; slots 0 quarter -/
def ir_clear_told : IMs := (.cons (.expr (.call 24 (.cons (.var 0) .nil)))
  (.cons (.ret (.call 27 (.cons (.var 0) .nil)))
  .nil))
abbrev d_clear_told : DefX := ⟨"clear_told", defArgs (top 48), defBody (top 48), defScope (top 48), [("quarter" : Str)], [("quarter" : Str)], ir_clear_told, false⟩
/-- is_clear_told; slots 0 quarter, 1 thing, 2 due -/
def ir_is_clear_told : IMs := (.cons (.expr (.call 24 (.cons (.var 0) .nil)))
  (.cons (.set 2 (.call 27 (.cons (.var 0) .nil)))
  (.cons (.ite (.or (.not (.val (.call 2 (.cons (.var 1) (.cons (.lit (.int 2)) (.cons (.lit (.int 2)) .nil)))))) (.or (.not (.val (.call 1 (.cons (.ix (.var 1) (.lit (.int 0))) (.cons (.ix (.var 2) (.lit (.int 0))) (.cons (.ix (.var 2) (.lit (.int 0))) .nil)))))) (.not (.val (.call 19 (.cons (.ix (.var 1) (.lit (.int 1))) (.cons (.bi .len (.cons (.ix (.var 0) (.lit (.int 1))) .nil)) .nil)))))))
    (.cons (.ret (.lit (.bl false)))
    .nil)
    .nil)
  (.cons (.ret (.and (.cmp .inn (.ix (.var 1) (.lit (.int 1))) (.call 26 (.cons (.var 0) .nil))) (.cmp .eq (.call 9 (.cons (.var 0) (.cons (.ix (.var 1) (.lit (.int 1))) .nil))) (.call 9 (.cons (.var 0) (.cons (.ix (.var 2) (.lit (.int 1))) .nil))))))
  .nil))))
abbrev d_is_clear_told : DefX := ⟨"is_clear_told", defArgs (top 49), defBody (top 49), defScope (top 49), [("quarter" : Str), ("thing" : Str), ("due" : Str)], [("quarter" : Str), ("thing" : Str)], ir_is_clear_told, false⟩
def lc_clear_tour_1 : IE := .lc [5] (.nm 5) (.val (.bin .add (.rngL false (.lit (.int 0)) (.bi .len (.cons (.ix (.var 0) (.lit (.int 1))) .nil))) (.bi .list (.cons (.var 4) .nil)))) .tt (.tup (.cons (.ix (.ix (.var 0) (.lit (.int 1))) (.var 5)) (.cons (.var 5) .nil)))
def lc_clear_tour_2 : IE := .lc [7, 5] (.tp (.cons (.nm 7) (.cons (.nm 5) .nil))) (.val (.var 1)) .tt (.var 7)
def lc_clear_tour_3 : IE := .lc [5, 6] (.tp (.cons (.nm 5) (.cons (.nm 6) .nil))) (.val (.call 16 (.cons (.var 2) (.cons (.lit .non) .nil)))) .tt (.tup (.cons (.ix (.ix (.var 1) (.var 5)) (.lit (.int 1))) (.cons (.var 6) .nil)))
/-- clear_tour; slots 0 quarter, 1 some, 2 wider, 3 long, 4 again, 5 at, 6 to, 7 street -/
def ir_clear_tour : IMs := (.cons (.expr (.call 24 (.cons (.var 0) .nil)))
  (.cons (.setT (.tp (.cons (.nm 3) (.cons (.nm 4) .nil))) (.call 27 (.cons (.var 0) .nil)))
  (.cons (.set 1 (.bi .sorted (.cons lc_clear_tour_1 .nil)))
  (.cons (.set 2 (.tup (.cons (.ix (.var 0) (.lit (.int 0))) (.cons (.bi .tuple (.cons lc_clear_tour_2 .nil)) .nil))))
  (.cons (.ret (.bi .tuple (.cons lc_clear_tour_3 .nil)))
  .nil)))))
abbrev d_clear_tour : DefX := ⟨"clear_tour", defArgs (top 50), defBody (top 50), defScope (top 50), [("quarter" : Str), ("some" : Str), ("wider" : Str), ("long" : Str), ("again" : Str), ("at" : Str), ("to" : Str), ("street" : Str)], [("quarter" : Str)], ir_clear_tour, false⟩
def lc_is_clear_tour_1 : IE := .lc [3, 4] (.tp (.cons (.nm 3) (.cons (.nm 4) .nil))) (.val (.var 1)) .tt (.var 3)
def lc_is_clear_tour_2 : IE := .lc [3] (.nm 3) (.rng1 (.bi .len (.cons (.ix (.var 0) (.lit (.int 1))) .nil))) .tt (.cmp .inn (.var 3) (.var 2))
/-- is_clear_tour; slots 0 quarter, 1 thing, 2 used, 3 at, 4 to -/
def ir_is_clear_tour : IMs := (.cons (.expr (.call 24 (.cons (.var 0) .nil)))
  (.cons (.ite (.not (.val (.call 8 (.cons (.var 0) (.cons (.var 1) .nil)))))
    (.cons (.ret (.lit (.bl false)))
    .nil)
    .nil)
  (.cons (.set 2 lc_is_clear_tour_1)
  (.cons (.ret (.and (.bi .all (.cons lc_is_clear_tour_2 .nil)) (.cmp .eq (.call 9 (.cons (.var 0) (.cons (.var 2) .nil))) (.ix (.call 27 (.cons (.var 0) .nil)) (.lit (.int 0))))))
  .nil))))
abbrev d_is_clear_tour : DefX := ⟨"is_clear_tour", defArgs (top 51), defBody (top 51), defScope (top 51), [("quarter" : Str), ("thing" : Str), ("used" : Str), ("at" : Str), ("to" : Str)], [("quarter" : Str), ("thing" : Str)], ir_is_clear_tour, false⟩
def bd_check_corners_1 : IMs := (.cons (.ite (.not (.val (.call 1 (.cons (.var 3) (.cons (.lit (.int 0)) (.cons (.bin .sub (.ix (.var 0) (.lit (.int 0))) (.lit (.int 1))) .nil))))))
    (.cons (.rse 4 none)
    .nil)
    .nil)
  .nil)
def lp_check_corners_1 : IM := .for_ (.nm 3) (.val (.tup (.cons (.var 1) (.cons (.var 2) .nil)))) bd_check_corners_1
/-- check_corners; slots 0 quarter, 1 a, 2 b, 3 corner -/
def ir_check_corners : IMs := (.cons (.expr (.call 5 (.cons (.var 0) .nil)))
  (.cons lp_check_corners_1
  .nil))
abbrev d_check_corners : DefX := ⟨"check_corners", defArgs (top 52), defBody (top 52), defScope (top 52), [("quarter" : Str), ("a" : Str), ("b" : Str), ("corner" : Str)], [("quarter" : Str), ("a" : Str), ("b" : Str)], ir_check_corners, false⟩
def lc_open_told_1 : IE := .lc [7, 8] (.tp (.cons (.nm 7) (.cons (.nm 8) .nil))) (.enum (.var 3)) (.val (.cmp .ne (.bin .mod (.var 8) (.lit (.int 2))) (.bi .int (.cons (.cmp .inn (.var 7) (.tup (.cons (.var 1) (.cons (.var 2) .nil)))) .nil)))) (.var 7)
/-- open_told; slots 0 quarter, 1 a, 2 b, 3 degrees, 4 bad, 5 part, 6 is_whole, 7 corner, 8 degree -/
def ir_open_told : IMs := (.cons (.expr (.call 32 (.cons (.var 0) (.cons (.var 1) (.cons (.var 2) .nil)))))
  (.cons (.ite (.val (.cmp .eq (.var 1) (.var 2)))
    (.cons (.rse 9 none)
    .nil)
    .nil)
  (.cons (.setT (.tp (.cons (.nm 5) (.cons (.nm 6) .nil))) (.call 13 (.cons (.var 0) .nil)))
  (.cons (.ite (.not (.val (.var 6)))
    (.cons (.ret (.tup (.cons (.lit (.str "apart")) (.cons (.var 5) .nil))))
    .nil)
    .nil)
  (.cons (.set 3 (.call 11 (.cons (.var 0) (.cons (.tup .nil) .nil))))
  (.cons (.set 4 lc_open_told_1)
  (.cons (.ret (.ite (.val (.var 4)) (.tup (.cons (.lit (.str "odd")) (.cons (.bi .tuple (.cons (.var 4) .nil)) .nil))) (.tup (.cons (.lit (.str "way")) (.cons (.call 15 (.cons (.var 0) (.cons (.var 1) (.cons (.var 2) (.cons (.lit .non) .nil))))) .nil)))))
  .nil)))))))
abbrev d_open_told : DefX := ⟨"open_told", defArgs (top 53), defBody (top 53), defScope (top 53), [("quarter" : Str), ("a" : Str), ("b" : Str), ("degrees" : Str), ("bad" : Str), ("part" : Str), ("is_whole" : Str), ("corner" : Str), ("degree" : Str)], [("quarter" : Str), ("a" : Str), ("b" : Str)], ir_open_told, false⟩
/-- with_street; slots 0 quarter, 1 street -/
def ir_with_street : IMs := (.cons (.expr (.call 5 (.cons (.var 0) .nil)))
  (.cons (.ite (.not (.val (.call 3 (.cons (.ix (.var 0) (.lit (.int 0))) (.cons (.var 1) .nil)))))
    (.cons (.rse 6 none)
    .nil)
    .nil)
  (.cons (.ite (.val (.cmp .eq (.bi .len (.cons (.ix (.var 0) (.lit (.int 1))) .nil)) (.lit (.int 8))))
    (.cons (.rse 3 none)
    .nil)
    .nil)
  (.cons (.ret (.tup (.cons (.ix (.var 0) (.lit (.int 0))) (.cons (.bi .tuple (.cons (.bi .sorted (.cons (.bin .add (.ix (.var 0) (.lit (.int 1))) (.tup (.cons (.var 1) .nil))) .nil)) .nil)) .nil))))
  .nil))))
abbrev d_with_street : DefX := ⟨"with_street", defArgs (top 54), defBody (top 54), defScope (top 54), [("quarter" : Str), ("street" : Str)], [("quarter" : Str), ("street" : Str)], ir_with_street, false⟩
def bd_shortest_between_1 : IMs := (.cons (.ite (.val (.cmp .inn (.var 8) (.ovar 3)))
    (.cons (.setIx 3 (.var 9) (.bi .min (.cons (.dget (.ovar 3) (.var 9) (.bin .add (.ix (.ovar 3) (.var 8)) (.var 7))) (.cons (.bin .add (.ix (.ovar 3) (.var 8)) (.var 7)) .nil))))
    .nil)
    .nil)
  .nil)
def lp_shortest_between_1 : IM := .for_ (.tp (.cons (.nm 8) (.cons (.nm 9) .nil))) (.val (.tup (.cons (.tup (.cons (.var 5) (.cons (.var 6) .nil))) (.cons (.tup (.cons (.var 6) (.cons (.var 5) .nil))) .nil)))) bd_shortest_between_1
def bd_shortest_between_2 : IMs := (.cons lp_shortest_between_1
  .nil)
def lp_shortest_between_2 : IM := .for_ (.tp (.cons (.nm 5) (.cons (.nm 6) (.cons (.nm 7) .nil)))) (.val (.ix (.var 0) (.lit (.int 1)))) bd_shortest_between_2
def bd_shortest_between_3 : IMs := (.cons lp_shortest_between_2
  .nil)
def lp_shortest_between_3 : IM := .for_ (.nm 4) (.rng1 (.ix (.var 0) (.lit (.int 0)))) bd_shortest_between_3
/-- shortest_between; slots 0 quarter, 1 a, 2 b, 3 found, 4 step, 5 one, 6 other, 7 long, 8 here, 9 there -/
def ir_shortest_between : IMs := (.cons (.expr (.call 32 (.cons (.var 0) (.cons (.var 1) (.cons (.var 2) .nil)))))
  (.cons (.setO 3 (.dctL (.cons (.var 1) (.cons (.lit (.int 0)) .nil))))
  (.cons lp_shortest_between_3
  (.cons (.ret (.dget (.ovar 3) (.var 2) (.lit .non)))
  .nil))))
abbrev d_shortest_between : DefX := ⟨"shortest_between", defArgs (top 55), defBody (top 55), defScope (top 55), [("quarter" : Str), ("a" : Str), ("b" : Str), ("found" : Str), ("step" : Str), ("one" : Str), ("other" : Str), ("long" : Str), ("here" : Str), ("there" : Str)], [("quarter" : Str), ("a" : Str), ("b" : Str)], ir_shortest_between, false⟩
def lc_turned_tour_1 : IE := .lc [12] (.nm 12) (.val (.var 1)) .tt (.and (.isi (.var 12) [.str]) (.cmp .inn (.var 12) (.tup (.cons (.lit (.str "up")) (.cons (.lit (.str "down")) .nil)))))
def bd_turned_tour_1 : IMs := (.cons (.augIx 3 (.var 8) .add (.ite (.val (.cmp .eq (.var 7) (.lit (.str "up")))) (.lit (.int 1)) (.neg (.lit (.int 1)))))
  (.cons (.augIx 3 (.var 9) .add (.ite (.val (.cmp .eq (.var 7) (.lit (.str "up")))) (.neg (.lit (.int 1))) (.lit (.int 1))))
  .nil))
def lp_turned_tour_1 : IM := .for_ (.tp (.cons (.tp (.cons (.nm 8) (.cons (.nm 9) (.cons (.nm 10) .nil)))) (.cons (.nm 7) .nil))) (.zip (.ix (.var 0) (.lit (.int 1))) (.var 1)) bd_turned_tour_1
def lc_turned_tour_2 : IE := .lc [11, 12] (.tp (.cons (.nm 11) (.cons (.nm 12) .nil))) (.enum (.ovar 3)) (.val (.cmp .ne (.var 12) (.lit (.int 0)))) (.var 11)
/-- turned_tour; slots 0 quarter, 1 words, 2 many, 3 more, 4 bad, 5 part, 6 is_whole, 7 word, 8 a, 9 b, 10 long, 11 corner, 12 one -/
def ir_turned_tour : IMs := (.cons (.expr (.call 5 (.cons (.var 0) .nil)))
  (.cons (.set 2 (.bi .len (.cons (.ix (.var 0) (.lit (.int 1))) .nil)))
  (.cons (.ite (.or (.not (.val (.call 2 (.cons (.var 1) (.cons (.var 2) (.cons (.var 2) .nil)))))) (.not (.val (.bi .all (.cons lc_turned_tour_1 .nil)))))
    (.cons (.rse 8 none)
    .nil)
    .nil)
  (.cons (.setT (.tp (.cons (.nm 5) (.cons (.nm 6) .nil))) (.call 13 (.cons (.var 0) .nil)))
  (.cons (.ite (.not (.val (.var 6)))
    (.cons (.ret (.tup (.cons (.lit (.str "apart")) (.cons (.var 5) .nil))))
    .nil)
    .nil)
  (.cons (.setO 3 (.bin .mul (.lst (.cons (.lit (.int 0)) .nil)) (.ix (.var 0) (.lit (.int 0)))))
  (.cons lp_turned_tour_1
  (.cons (.set 4 lc_turned_tour_2)
  (.cons (.ret (.ite (.val (.var 4)) (.tup (.cons (.lit (.str "uneven")) (.cons (.bi .tuple (.cons (.var 4) .nil)) .nil))) (.tup (.cons (.lit (.str "tour")) (.cons (.call 16 (.cons (.var 0) (.cons (.var 1) .nil))) .nil)))))
  .nil)))))))))
abbrev d_turned_tour : DefX := ⟨"turned_tour", defArgs (top 56), defBody (top 56), defScope (top 56), [("quarter" : Str), ("words" : Str), ("many" : Str), ("more" : Str), ("bad" : Str), ("part" : Str), ("is_whole" : Str), ("word" : Str), ("a" : Str), ("b" : Str), ("long" : Str), ("corner" : Str), ("one" : Str)], [("quarter" : Str), ("words" : Str)], ir_turned_tour, false⟩
def lc_raw_rings_1 : IE := .lc [9] (.nm 9) (.val (.var 1)) (.val (.cmp .nin (.var 9) (.ovar 5))) (.var 9)
def bd_raw_rings_1 : IMs := (.cons (.setT (.tp (.cons (.nm 7) (.cons (.nm 8) .nil))) (.ix (.call 14 (.cons (.var 0) (.cons (.ix (.ovar 6) (.neg (.lit (.int 1)))) (.cons lc_raw_rings_1 (.cons (.lit .non) .nil))))) (.lit (.int 0))))
  (.cons (.app 5 (.var 7))
  (.cons (.app 6 (.var 8))
  .nil)))
def lp_raw_rings_1 : IM := .whl (.or (.val (.cmp .eq (.ovar 5) (.lst .nil))) (.val (.cmp .eq (.mt .count (.ovar 6) (.cons (.ix (.ovar 6) (.neg (.lit (.int 1)))) .nil)) (.lit (.int 1))))) bd_raw_rings_1
def lc_raw_rings_2 : IE := .lc [7] (.nm 7) (.val (.var 1)) (.val (.cmp .nin (.var 7) (.var 4))) (.var 7)
def bd_raw_rings_2 : IMs := (.cons (.set 3 (.ix (.ix (.ix (.var 0) (.lit (.int 1))) (.ix (.var 1) (.lit (.int 0)))) (.lit (.int 0))))
  (.cons (.par [(5, true), (6, true)] (.cons (.lst .nil) (.cons (.lst (.cons (.var 3) .nil)) .nil)))
  (.cons lp_raw_rings_1
  (.cons (.set 4 (.slc (.ovar 5) (.so (.mt .index (.ovar 6) (.cons (.ix (.ovar 6) (.neg (.lit (.int 1)))) .nil))) .no))
  (.cons (.app 2 (.bi .tuple (.cons (.bi .sorted (.cons (.var 4) .nil)) .nil)))
  (.cons (.set 1 lc_raw_rings_2)
  .nil))))))
def lp_raw_rings_2 : IM := .whl (.val (.var 1)) bd_raw_rings_2
/-- raw_rings; slots 0 quarter, 1 left, 2 found, 3 here, 4 ring, 5 walk, 6 corners, 7 at, 8 to, 9 one -/
def ir_raw_rings : IMs := (.cons (.par [(1, false), (2, true)] (.cons (.rngL false (.lit (.int 0)) (.bi .len (.cons (.ix (.var 0) (.lit (.int 1))) .nil))) (.cons (.lst .nil) .nil)))
  (.cons lp_raw_rings_2
  (.cons (.ret (.bi .tuple (.cons (.ovar 2) .nil)))
  .nil)))
abbrev d_raw_rings : DefX := ⟨"raw_rings", defArgs (top 57), defBody (top 57), defScope (top 57), [("quarter" : Str), ("left" : Str), ("found" : Str), ("here" : Str), ("ring" : Str), ("walk" : Str), ("corners" : Str), ("at" : Str), ("to" : Str), ("one" : Str)], [("quarter" : Str)], ir_raw_rings, false⟩
def lc_rings_told_1 : IE := .lc [1] (.nm 1) (.val (.call 11 (.cons (.var 0) (.cons (.tup .nil) .nil)))) .tt (.cmp .eq (.bin .mod (.var 1) (.lit (.int 2))) (.lit (.int 1)))
/-- rings_told; slots 0 quarter, 1 degree -/
def ir_rings_told : IMs := (.cons (.expr (.call 5 (.cons (.var 0) .nil)))
  (.cons (.ite (.val (.bi .any (.cons lc_rings_told_1 .nil)))
    (.cons (.ret (.lit .non))
    .nil)
    .nil)
  (.cons (.ret (.call 37 (.cons (.var 0) .nil)))
  .nil)))
abbrev d_rings_told : DefX := ⟨"rings_told", defArgs (top 58), defBody (top 58), defScope (top 58), [("quarter" : Str), ("degree" : Str)], [("quarter" : Str)], ir_rings_told, false⟩
def lc_is_ring_of_1 : IE := .lc [3] (.nm 3) (.val (.var 1)) .tt (.ix (.ix (.var 0) (.lit (.int 1))) (.var 3))
def lc_is_ring_of_2 : IE := .lc [4] (.nm 4) (.val (.call 11 (.cons (.var 2) (.cons (.tup .nil) .nil)))) .tt (.cmp .inn (.var 4) (.tup (.cons (.lit (.int 0)) (.cons (.lit (.int 2)) .nil))))
/-- is_ring_of; slots 0 quarter, 1 lot, 2 some, 3 at, 4 degree -/
def ir_is_ring_of : IMs := (.cons (.set 2 (.tup (.cons (.ix (.var 0) (.lit (.int 0))) (.cons (.bi .tuple (.cons lc_is_ring_of_1 .nil)) .nil))))
  (.cons (.ret (.and (.ix (.call 13 (.cons (.var 2) .nil)) (.lit (.int 1))) (.bi .all (.cons lc_is_ring_of_2 .nil))))
  .nil))
abbrev d_is_ring_of : DefX := ⟨"is_ring_of", defArgs (top 59), defBody (top 59), defScope (top 59), [("quarter" : Str), ("lot" : Str), ("some" : Str), ("at" : Str), ("degree" : Str)], [("quarter" : Str), ("lot" : Str)], ir_is_ring_of, false⟩
def lc_are_rings_told_1 : IE := .lc [5] (.nm 5) (.val (.call 11 (.cons (.var 0) (.cons (.tup .nil) .nil)))) .tt (.cmp .eq (.bin .mod (.var 5) (.lit (.int 2))) (.lit (.int 1)))
def lc_are_rings_told_2 : IE := .lc [4] (.nm 4) (.val (.var 1)) .tt (.and (.call 19 (.cons (.var 4) (.cons (.var 2) .nil))) (.cmp .gt (.bi .len (.cons (.var 4) .nil)) (.lit (.int 0))))
def bd_are_rings_told_1 : IMs := (.cons (.ext 3 (.bi .list (.cons (.var 4) .nil)))
  .nil)
def lp_are_rings_told_1 : IM := .for_ (.nm 4) (.val (.var 1)) bd_are_rings_told_1
def lc_are_rings_told_3 : IE := .lc [4] (.nm 4) (.val (.var 1)) .tt (.call 39 (.cons (.var 0) (.cons (.var 4) .nil)))
/-- are_rings_told; slots 0 quarter, 1 thing, 2 many, 3 used, 4 lot, 5 degree -/
def ir_are_rings_told : IMs := (.cons (.expr (.call 5 (.cons (.var 0) .nil)))
  (.cons (.ite (.val (.bi .any (.cons lc_are_rings_told_1 .nil)))
    (.cons (.ret (.cmp .is (.var 1) (.lit .non)))
    .nil)
    .nil)
  (.cons (.set 2 (.bi .len (.cons (.ix (.var 0) (.lit (.int 1))) .nil)))
  (.cons (.ite (.or (.not (.val (.call 2 (.cons (.var 1) (.cons (.lit (.int 1)) (.cons (.var 2) .nil)))))) (.not (.val (.bi .all (.cons lc_are_rings_told_2 .nil)))))
    (.cons (.ret (.lit (.bl false)))
    .nil)
    .nil)
  (.cons (.setO 3 (.lst .nil))
  (.cons lp_are_rings_told_1
  (.cons (.ret (.and (.cmp .eq (.bi .sorted (.cons (.ovar 3) .nil)) (.rngL false (.lit (.int 0)) (.var 2))) (.bi .all (.cons lc_are_rings_told_3 .nil))))
  .nil)))))))
abbrev d_are_rings_told : DefX := ⟨"are_rings_told", defArgs (top 60), defBody (top 60), defScope (top 60), [("quarter" : Str), ("thing" : Str), ("many" : Str), ("used" : Str), ("lot" : Str), ("degree" : Str)], [("quarter" : Str), ("thing" : Str)], ir_are_rings_told, false⟩
/-- _law_draw; slots 0 hand, 1 many, 2 number, 3 cell, 4 figure -/
def ir__law_draw : IMs := (.cons (.ite (.and (.val (.cmp .eq (.ix (.var 0) (.lit (.int 2))) (.lit (.int 0)))) (.val (.cmp .lt (.ix (.var 0) (.lit (.int 1))) (.bi .len (.cons (.ix (.var 0) (.lit (.int 0))) .nil)))))
    (.cons (.set 3 (.ix (.ix (.var 0) (.lit (.int 0))) (.ix (.var 0) (.lit (.int 1)))))
    (.cons (.setIx 0 (.lit (.int 1)) (.bin .add (.ix (.var 0) (.lit (.int 1))) (.lit (.int 1))))
    (.cons (.setIx 0 (.lit (.int 3)) (.bin .mod (.bi .int (.cons (.bin .add (.bin .add (.bin .mul (.ix (.var 0) (.lit (.int 3))) (.lit (.int 48271))) (.var 3)) (.lit (.int 31))) .nil)) (.lit (.int 2147483647))))
    (.cons (.ite (.val (.cmp .ge (.var 3) (.bin .pow (.lit (.int 10)) (.lit (.int 18)))))
      (.cons (.setIx 0 (.lit (.int 2)) (.var 3))
      .nil)
      .nil)
    .nil))))
    .nil)
  (.cons (.ite (.val (.cmp .gt (.ix (.var 0) (.lit (.int 2))) (.lit (.int 0))))
    (.cons (.set 4 (.bin .mod (.bi .int (.cons (.ix (.var 0) (.lit (.int 2))) .nil)) (.var 1)))
    (.cons (.setIx 0 (.lit (.int 2)) (.bin .fdiv (.ix (.var 0) (.lit (.int 2))) (.var 1)))
    (.cons (.ret (.var 4))
    .nil)))
    .nil)
  (.cons (.setIx 0 (.lit (.int 4)) (.bin .add (.ix (.var 0) (.lit (.int 4))) (.lit (.int 1))))
  (.cons (.set 2 (.bin .mod (.bi .int (.cons (.bin .mul (.bi .int (.cons (.bin .add (.ix (.var 0) (.lit (.int 3))) (.bin .mul (.lit (.int 6151)) (.ix (.var 0) (.lit (.int 4))))) .nil)) (.lit (.int 40692))) .nil)) (.lit (.int 2147483399))))
  (.cons (.set 2 (.bin .mod (.bi .int (.cons (.bin .mul (.var 2) (.bin .add (.bin .fdiv (.var 2) (.lit (.int 1223))) (.lit (.int 52027)))) .nil)) (.lit (.int 2147483629))))
  (.cons (.set 2 (.bin .mod (.bi .int (.cons (.bin .mul (.var 2) (.bin .add (.bin .fdiv (.var 2) (.lit (.int 2671))) (.lit (.int 69621)))) .nil)) (.lit (.int 2147483647))))
  (.cons (.ret (.bin .mod (.bi .int (.cons (.bin .fdiv (.var 2) (.lit (.int 32))) .nil)) (.var 1)))
  .nil)))))))
abbrev d__law_draw : DefX := ⟨"_law_draw", defArgs (top 63), defBody (top 63), defScope (top 63), [("hand" : Str), ("many" : Str), ("number" : Str), ("cell" : Str), ("figure" : Str)], [("hand" : Str), ("many" : Str)], ir__law_draw, false⟩
/-- _law_some; slots 0 hand, 1 things -/
def ir__law_some : IMs := (.cons (.ret (.ix (.var 1) (.call 41 (.cons (.var 0) (.cons (.bi .len (.cons (.var 1) .nil)) .nil)))))
  .nil)
abbrev d__law_some : DefX := ⟨"_law_some", defArgs (top 64), defBody (top 64), defScope (top 64), [("hand" : Str), ("things" : Str)], [("hand" : Str), ("things" : Str)], ir__law_some, false⟩
def bd__law_deep_1 : IMs := (.cons (.set 1 (.ix (.lst (.cons (.tup (.cons (.var 1) .nil)) (.cons (.lst (.cons (.var 1) .nil)) (.cons (.dctL (.cons (.lit (.int 0)) (.cons (.var 1) .nil))) .nil)))) (.call 41 (.cons (.var 0) (.cons (.lit (.int 3)) .nil)))))
  .nil)
def lp__law_deep_1 : IM := .for_ (.nm 2) (.rng1 (.bin .add (.lit (.int 5)) (.call 41 (.cons (.var 0) (.cons (.lit (.int 24)) .nil))))) bd__law_deep_1
/-- _law_deep; slots 0 hand, 1 found, 2 turn -/
def ir__law_deep : IMs := (.cons (.set 1 (.ix (.lst (.cons (.lit .non) (.cons (.lit (.int 5)) (.cons (.neg (.lit (.int 1))) (.cons (.dct .nil .nil) (.cons (.lit (.bl true)) .nil)))))) (.call 41 (.cons (.var 0) (.cons (.lit (.int 5)) .nil)))))
  (.cons lp__law_deep_1
  (.cons (.ret (.var 1))
  .nil)))
abbrev d__law_deep : DefX := ⟨"_law_deep", defArgs (top 67), defBody (top 67), defScope (top 67), [("hand" : Str), ("found" : Str), ("turn" : Str)], [("hand" : Str)], ir__law_deep, false⟩
/-- _law_odd; slots 0 hand -/
def ir__law_odd : IMs := (.cons (.ret (.call 42 (.cons (.var 0) (.cons (.lst (.cons (.lit .non) (.cons (.lit (.bl true)) (.cons (.lit (.bl false)) (.cons (.lit (.int 0)) (.cons (.neg (.lit (.int 1))) (.cons (.lit (.int 999)) (.cons (.bin .shl (.lit (.int 1)) (.lit (.int 63))) (.cons (.lit (.str "p")) (.cons (.lit (.str "")) (.cons (.tup .nil) (.cons (.lst .nil) (.cons (.dct .nil .nil) (.cons (.tup (.cons (.lit (.int 1)) .nil)) (.cons (.tup (.cons (.lit (.str "a")) .nil)) (.cons (.call 43 (.cons (.var 0) .nil)) .nil)))))))))))))))) .nil))))
  .nil)
abbrev d__law_odd : DefX := ⟨"_law_odd", defArgs (top 68), defBody (top 68), defScope (top 68), [("hand" : Str)], [("hand" : Str)], ir__law_odd, false⟩
/-- _law_pick; slots 0 hand, 1 right, 2 wrong -/
def ir__law_pick : IMs := (.cons (.ret (.ite (.val (.cmp .gt (.call 41 (.cons (.var 0) (.cons (.lit (.int 3)) .nil))) (.lit (.int 0)))) (.tup (.cons (.var 1) (.cons (.lit (.bl true)) .nil))) (.tup (.cons (.call 42 (.cons (.var 0) (.cons (.bin .add (.var 2) (.lst (.cons (.lst (.cons (.call 44 (.cons (.var 0) .nil)) .nil)) .nil))) .nil))) (.cons (.lit (.bl false)) .nil)))))
  .nil)
abbrev d__law_pick : DefX := ⟨"_law_pick", defArgs (top 65), defBody (top 65), defScope (top 65), [("hand" : Str), ("right" : Str), ("wrong" : Str)], [("hand" : Str), ("right" : Str), ("wrong" : Str)], ir__law_pick, false⟩
def lc__law_first_1 : IE := .lc [1, 2] (.tp (.cons (.nm 1) (.cons (.nm 2) .nil))) (.val (.var 0)) (.not (.val (.var 2))) (.var 1)
/-- _law_first; slots 0 pairs, 1 word, 2 is_right -/
def ir__law_first : IMs := (.cons (.ret (.ix (.bin .add lc__law_first_1 (.lst (.cons (.lit (.str "let")) .nil))) (.lit (.int 0))))
  .nil)
abbrev d__law_first : DefX := ⟨"_law_first", defArgs (top 66), defBody (top 66), defScope (top 66), [("pairs" : Str), ("word" : Str), ("is_right" : Str)], [("pairs" : Str)], ir__law_first, false⟩
def lc_law_1 : IE := .lc [22] (.nm 22) (.val (.var 6)) .tt (.said 0 (.callv 22 (.cons (.var 10) .nil)))
def lc_law_2 : IE := .lc [22] (.nm 22) (.val (.var 6)) .tt (.said 0 (.callv 22 (.cons (.var 10) (.cons (.lit .non) .nil))))
def lc_law_3 : IE := .lc [22] (.nm 22) (.val (.tup (.cons (.lit (.fn 33)) (.cons (.lit (.fn 35)) .nil)))) .tt (.said 0 (.callv 22 (.cons (.var 10) (.cons (.var 14) (.cons (.var 16) .nil)))))
def bd_law_1 : IMs := (.cons (.setO 5 (.lst (.cons (.lit .non) (.cons (.tup .nil) (.cons (.tup (.cons (.lit (.int 1)) (.cons (.ix (.var 2) (.lit (.int 1))) .nil))) (.cons (.tup (.cons (.lit (.int 8)) (.cons (.ix (.var 2) (.lit (.int 1))) .nil))) (.cons (.tup (.cons (.lit (.int 3)) (.cons (.tup .nil) .nil))) (.cons (.tup (.cons (.lit (.int 3)) (.cons (.tup (.cons (.tup (.cons (.lit (.int 1)) (.cons (.lit (.int 0)) (.cons (.lit (.int 1)) .nil)))) .nil)) .nil))) (.cons (.tup (.cons (.lit (.int 3)) (.cons (.tup (.cons (.tup (.cons (.lit (.int 0)) (.cons (.lit (.int 1)) (.cons (.lit (.int 0)) .nil)))) .nil)) .nil))) (.cons (.tup (.cons (.lit (.int 2)) (.cons (.ix (.var 2) (.lit (.int 1))) .nil))) .nil))))))))))
  (.cons (.setT (.tp (.cons (.nm 10) (.cons (.nm 11) .nil))) (.call 45 (.cons (.var 1) (.cons (.var 2) (.cons (.bin .add (.ovar 5) (.lst (.cons (.bi .list (.cons (.var 2) .nil)) (.cons (.tup (.cons (.lit (.int 3)) (.cons (.rev (.ix (.var 2) (.lit (.int 1)))) .nil))) .nil)))) .nil)))))
  (.cons (.set 6 (.tup (.cons (.lit (.fn 12)) (.cons (.lit (.fn 18)) (.cons (.lit (.fn 23)) (.cons (.lit (.fn 28)) (.cons (.lit (.fn 30)) (.cons (.lit (.fn 38)) .nil))))))))
  (.cons (.setO 4 lc_law_1)
  (.cons (.set 6 (.tup (.cons (.lit (.fn 21)) (.cons (.lit (.fn 29)) (.cons (.lit (.fn 31)) (.cons (.lit (.fn 40)) .nil))))))
  (.cons (.setO 4 (.bin .add (.ovar 4) lc_law_2))
  (.cons (.ite (.val (.cmp .ne (.ovar 4) (.bin .mul (.lst (.cons (.call 46 (.cons (.lst (.cons (.tup (.cons (.lit (.str "quarter")) (.cons (.var 11) .nil))) .nil)) .nil)) .nil)) (.lit (.int 10)))))
    (.cons (.ret (.lit (.bl false)))
    .nil)
    .nil)
  (.cons (.setO 5 (.lst (.cons (.lit .non) (.cons (.tup .nil) (.cons (.tup (.cons (.tup (.cons (.lit (.int 0)) (.cons (.lit (.int 1)) .nil))) .nil)) (.cons (.tup (.cons (.tup (.cons (.lit (.int 0)) (.cons (.lit (.int 2)) .nil))) (.cons (.tup (.cons (.lit (.int 2)) (.cons (.lit (.int 2)) .nil))) (.cons (.tup (.cons (.lit (.int 1)) (.cons (.lit (.int 0)) .nil))) .nil)))) (.cons (.tup (.cons (.tup (.cons (.lit (.int 0)) (.cons (.lit (.int 1)) .nil))) (.cons (.tup (.cons (.lit (.int 2)) (.cons (.lit (.int 2)) .nil))) (.cons (.tup (.cons (.lit (.int 3)) (.cons (.lit (.int 0)) .nil))) .nil)))) (.cons (.lst (.cons (.tup (.cons (.lit (.int 0)) (.cons (.lit (.int 1)) .nil))) .nil)) .nil))))))))
  (.cons (.app 5 (.bin .mul (.tup (.cons (.tup (.cons (.lit (.int 0)) (.cons (.lit (.int 1)) .nil))) (.cons (.tup (.cons (.lit (.int 0)) (.cons (.lit (.int 0)) .nil))) .nil))) (.lit (.int 21))))
  (.cons (.frz [5])
  (.cons (.setT (.tp (.cons (.nm 12) (.cons (.nm 13) .nil))) (.call 45 (.cons (.var 1) (.cons (.tup (.cons (.tup (.cons (.lit (.int 0)) (.cons (.lit (.int 1)) .nil))) (.cons (.tup (.cons (.lit (.int 2)) (.cons (.lit (.int 2)) .nil))) (.cons (.tup (.cons (.lit (.int 1)) (.cons (.lit (.int 0)) .nil))) .nil)))) (.cons (.var 5) .nil)))))
  (.cons (.ite (.val (.cmp .ne (.said 0 (.call 10 (.cons (.var 10) (.cons (.var 12) .nil)))) (.call 46 (.cons (.lst (.cons (.tup (.cons (.lit (.str "quarter")) (.cons (.var 11) .nil))) (.cons (.tup (.cons (.lit (.str "tour")) (.cons (.var 13) .nil))) .nil))) .nil))))
    (.cons (.ret (.lit (.bl false)))
    .nil)
    .nil)
  (.cons (.setT (.tp (.cons (.nm 14) (.cons (.nm 15) .nil))) (.call 45 (.cons (.var 1) (.cons (.lit (.int 0)) (.cons (.lst (.cons (.neg (.lit (.int 1))) (.cons (.lit (.int 3)) (.cons (.lit .non) (.cons (.lit (.bl true)) .nil))))) .nil)))))
  (.cons (.setT (.tp (.cons (.nm 16) (.cons (.nm 17) .nil))) (.call 45 (.cons (.var 1) (.cons (.lit (.int 2)) (.cons (.lst (.cons (.neg (.lit (.int 1))) (.cons (.lit (.int 3)) (.cons (.lit .non) (.cons (.lit (.bl true)) .nil))))) .nil)))))
  (.cons (.set 7 (.lst (.cons (.tup (.cons (.lit (.str "quarter")) (.cons (.var 11) .nil))) (.cons (.tup (.cons (.lit (.str "corner")) (.cons (.var 15) .nil))) (.cons (.tup (.cons (.lit (.str "corner")) (.cons (.var 17) .nil))) .nil)))))
  (.cons (.setO 4 lc_law_3)
  (.cons (.ite (.val (.cmp .ne (.ovar 4) (.bin .mul (.lst (.cons (.call 46 (.cons (.var 7) .nil)) .nil)) (.lit (.int 2)))))
    (.cons (.ret (.lit (.bl false)))
    .nil)
    .nil)
  (.cons (.setO 5 (.lst (.cons (.lit .non) (.cons (.tup .nil) (.cons (.tup (.cons (.lit (.int 1)) (.cons (.lit (.int 0)) (.cons (.lit (.int 9)) .nil)))) (.cons (.tup (.cons (.lit (.int 0)) (.cons (.lit (.int 3)) (.cons (.lit (.int 9)) .nil)))) (.cons (.tup (.cons (.lit (.int 0)) (.cons (.lit (.int 1)) (.cons (.lit (.int 0)) .nil)))) (.cons (.tup (.cons (.lit (.int 0)) (.cons (.lit (.int 1)) (.cons (.lit (.int 21)) .nil)))) (.cons (.lst (.cons (.lit (.int 0)) (.cons (.lit (.int 1)) (.cons (.lit (.int 9)) .nil)))) (.cons (.tup (.cons (.lit (.int 0)) (.cons (.lit (.int 1)) .nil))) .nil))))))))))
  (.cons (.frz [5])
  (.cons (.setT (.tp (.cons (.nm 18) (.cons (.nm 19) .nil))) (.call 45 (.cons (.var 1) (.cons (.tup (.cons (.lit (.int 0)) (.cons (.lit (.int 1)) (.cons (.lit (.int 9)) .nil)))) (.cons (.var 5) .nil)))))
  (.cons (.ite (.val (.cmp .ne (.said 0 (.call 34 (.cons (.var 10) (.cons (.var 18) .nil)))) (.call 46 (.cons (.lst (.cons (.tup (.cons (.lit (.str "quarter")) (.cons (.var 11) .nil))) (.cons (.tup (.cons (.lit (.str "street")) (.cons (.var 19) .nil))) .nil))) .nil))))
    (.cons (.ret (.lit (.bl false)))
    .nil)
    .nil)
  (.cons (.setO 5 (.lst (.cons (.lit .non) (.cons (.tup .nil) (.cons (.tup (.cons (.lit (.str "up")) .nil)) (.cons (.tup (.cons (.lit (.str "up")) (.cons (.lit (.str "up")) (.cons (.lit (.str "left")) .nil)))) (.cons (.lst (.cons (.lit (.str "up")) (.cons (.lit (.str "up")) (.cons (.lit (.str "up")) .nil)))) (.cons (.tup (.cons (.lit (.str "up")) (.cons (.lit (.str "up")) (.cons (.lit (.int 1)) .nil)))) (.cons (.bin .mul (.tup (.cons (.lit (.str "up")) .nil)) (.lit (.int 4))) .nil)))))))))
  (.cons (.frz [5])
  (.cons (.setT (.tp (.cons (.nm 20) (.cons (.nm 21) .nil))) (.call 45 (.cons (.var 1) (.cons (.tup (.cons (.lit (.str "up")) (.cons (.lit (.str "down")) (.cons (.lit (.str "up")) .nil)))) (.cons (.var 5) .nil)))))
  (.cons (.ite (.val (.cmp .ne (.said 0 (.call 36 (.cons (.var 10) (.cons (.var 20) .nil)))) (.call 46 (.cons (.lst (.cons (.tup (.cons (.lit (.str "quarter")) (.cons (.var 11) .nil))) (.cons (.tup (.cons (.lit (.str "words")) (.cons (.var 21) .nil))) .nil))) .nil))))
    (.cons (.ret (.lit (.bl false)))
    .nil)
    .nil)
  .nil)))))))))))))))))))))))))
def lp_law_1 : IM := .for_ (.nm 3) (.rng1 (.lit (.int 6))) bd_law_1
def lc_law_4 : IE := .lc [22] (.nm 22) (.val (.tup (.cons (.lit (.fn 28)) (.cons (.lit (.fn 30)) .nil)))) .tt (.said 0 (.callv 22 (.cons (.var 9) .nil)))
def lc_law_5 : IE := .lc [22] (.nm 22) (.val (.tup (.cons (.lit (.fn 29)) (.cons (.lit (.fn 31)) .nil)))) .tt (.said 0 (.callv 22 (.cons (.var 9) (.cons (.lit .non) .nil))))
/-- law; slots 0 script, 1 hand, 2 ring, 3 turn, 4 words, 5 wrong, 6 calls, 7 pairs, 8 full, 9 apart, 10 quarter, 11 is_good, 12 tour, 13 is_tour_v, 14 a, 15 is_one, 16 b, 17 is_other, 18 street, 19 is_street, 20 some, 21 are_words, 22 call -/
def ir_law : IMs := (.cons (.set 2 (.tup (.cons (.lit (.int 3)) (.cons (.tup (.cons (.tup (.cons (.lit (.int 0)) (.cons (.lit (.int 1)) (.cons (.lit (.int 2)) .nil)))) (.cons (.tup (.cons (.lit (.int 0)) (.cons (.lit (.int 2)) (.cons (.lit (.int 3)) .nil)))) (.cons (.tup (.cons (.lit (.int 1)) (.cons (.lit (.int 2)) (.cons (.lit (.int 4)) .nil)))) .nil)))) .nil))))
  (.cons lp_law_1
  (.cons (.par [(8, false), (9, false)] (.cons (.tup (.cons (.lit (.int 2)) (.cons (.bin .mul (.tup (.cons (.tup (.cons (.lit (.int 0)) (.cons (.lit (.int 1)) (.cons (.lit (.int 1)) .nil)))) .nil)) (.lit (.int 8))) .nil))) (.cons (.tup (.cons (.lit (.int 4)) (.cons (.tup (.cons (.tup (.cons (.lit (.int 0)) (.cons (.lit (.int 1)) (.cons (.lit (.int 1)) .nil)))) (.cons (.tup (.cons (.lit (.int 2)) (.cons (.lit (.int 3)) (.cons (.lit (.int 1)) .nil)))) .nil))) .nil))) .nil)))
  (.cons (.setO 4 (.lst (.cons (.said 0 (.call 34 (.cons (.var 8) (.cons (.tup (.cons (.lit (.int 0)) (.cons (.lit (.int 1)) (.cons (.lit (.int 2)) .nil)))) .nil)))) .nil)))
  (.cons (.app 4 (.said 0 (.call 33 (.cons (.var 2) (.cons (.lit (.int 1)) (.cons (.lit (.int 1)) .nil))))))
  (.cons (.setO 4 (.bin .add (.ovar 4) lc_law_4))
  (.cons (.setO 4 (.bin .add (.ovar 4) lc_law_5))
  (.cons (.ite (.or (.val (.cmp .ne (.ovar 4) (.bin .add (.lst (.cons (.lit (.str "full")) (.cons (.lit (.str "same")) .nil))) (.bin .mul (.lst (.cons (.lit (.str "apart")) .nil)) (.lit (.int 4)))))) (.val (.cmp .ne (.call 18 (.cons (.var 9) .nil)) (.tup (.cons (.lit (.str "apart")) (.cons (.tup (.cons (.lit (.int 0)) (.cons (.lit (.int 1)) .nil))) .nil))))))
    (.cons (.ret (.lit (.bl false)))
    .nil)
    .nil)
  (.cons (.ite (.or (.val (.cmp .ne (.call 18 (.cons (.var 2) .nil)) (.tup (.cons (.lit (.str "tour")) (.cons (.tup (.cons (.tup (.cons (.lit (.int 0)) (.cons (.lit (.int 0)) .nil))) (.cons (.tup (.cons (.lit (.int 1)) (.cons (.lit (.int 2)) .nil))) (.cons (.tup (.cons (.lit (.int 2)) (.cons (.lit (.int 1)) .nil))) .nil)))) .nil))))) (.val (.cmp .ne (.call 28 (.cons (.tup (.cons (.lit (.int 2)) (.cons (.tup (.cons (.tup (.cons (.lit (.int 0)) (.cons (.lit (.int 1)) (.cons (.lit (.int 5)) .nil)))) .nil)) .nil))) .nil)) (.tup (.cons (.lit (.int 10)) (.cons (.tup (.cons (.lit (.int 0)) .nil)) .nil))))))
    (.cons (.ret (.lit (.bl false)))
    .nil)
    .nil)
  (.cons (.ite (.val (.cmp .ne (.call 10 (.cons (.var 2) (.cons (.tup (.cons (.tup (.cons (.lit (.int 0)) (.cons (.lit (.int 1)) .nil))) (.cons (.tup (.cons (.lit (.int 2)) (.cons (.lit (.int 2)) .nil))) (.cons (.tup (.cons (.lit (.int 1)) (.cons (.lit (.int 0)) .nil))) .nil)))) .nil))) (.lit (.int 9))))
    (.cons (.ret (.lit (.bl false)))
    .nil)
    .nil)
  (.cons (.ret (.cmp .eq (.call 36 (.cons (.var 2) (.cons (.tup (.cons (.lit (.str "up")) (.cons (.lit (.str "up")) (.cons (.lit (.str "up")) .nil)))) .nil))) (.tup (.cons (.lit (.str "uneven")) (.cons (.tup (.cons (.lit (.int 0)) (.cons (.lit (.int 2)) .nil))) .nil)))))
  .nil)))))))))))
abbrev d_law : DefX := ⟨"law", defArgs (top 70), defBody (top 70), defScope (top 70), [("script" : Str), ("hand" : Str), ("ring" : Str), ("turn" : Str), ("words" : Str), ("wrong" : Str), ("calls" : Str), ("pairs" : Str), ("full" : Str), ("apart" : Str), ("quarter" : Str), ("is_good" : Str), ("tour" : Str), ("is_tour_v" : Str), ("a" : Str), ("is_one" : Str), ("b" : Str), ("is_other" : Str), ("street" : Str), ("is_street" : Str), ("some" : Str), ("are_words" : Str), ("call" : Str)], [("script" : Str)], ir_law, true⟩
abbrev d_hand : DefX := ⟨"_law_hand", defArgs (top 62), defBody (top 62), defScope (top 62), ["script", "cells", "cell"], ["script"], .nil, false⟩
/-- _law_word; slots 0 call, 1 error, 2 some, 3 words -/
def sb__law_word : IMs := (.cons (.set 2 (.lst (.cons (.isx 1 2) (.cons (.isx 1 3) (.cons (.isx 1 4) .nil)))))
  (.cons (.set 2 (.bin .add (.var 2) (.lst (.cons (.isx 1 5) (.cons (.isx 1 6) (.cons (.isx 1 7) .nil))))))
  (.cons (.set 2 (.bin .add (.var 2) (.lst (.cons (.isx 1 8) (.cons (.isx 1 9) .nil)))))
  (.cons (.set 3 (.lst (.cons (.lit (.str "apart")) (.cons (.lit (.str "full")) (.cons (.lit (.str "corner")) (.cons (.lit (.str "quarter")) (.cons (.lit (.str "street")) (.cons (.lit (.str "tour")) (.cons (.lit (.str "words")) (.cons (.lit (.str "same")) .nil))))))))))
  (.cons (.ret (.ite (.val (.cmp .eq (.mt .count (.var 2) (.cons (.lit (.bl true)) .nil)) (.lit (.int 1)))) (.ix (.var 3) (.mt .index (.var 2) (.cons (.lit (.bl true)) .nil))) (.lit (.str "odd"))))
  .nil)))))
abbrev w__law_word : WordX := ⟨"_law_word", defArgs (top 69), defBody (top 69), defScope (top 69), [("call" : Str), ("error" : Str), ("some" : Str), ("words" : Str)], "call", none, false, 10, 1, 1, sb__law_word, (.cons (.ret (.lit (.str "let")))
  .nil)⟩
def dx : List DefX := [d_is_integer, d_is_within, d_is_sized, d_is_road_of, d_is_quarter, d_check_quarter, d_is_walk, d_begin_of, d_is_tour, d_long_of, d_tour_long, d_raw_degrees, d_degrees_of, d_part_of, d_steps_at, d_least_walk, d_least_tour, d_raw_once, d_once_told, d_is_lot, d_is_lot_told, d_is_once_told, d_walks_from, d_once_count, d_check_whole, d_all_lots, d_even_lots, d_raw_clear, d_clear_told, d_is_clear_told, d_clear_tour, d_is_clear_tour, d_check_corners, d_open_told, d_with_street, d_shortest_between, d_turned_tour, d_raw_rings, d_rings_told, d_is_ring_of, d_are_rings_told, d__law_draw, d__law_some, d__law_deep, d__law_odd, d__law_pick, d__law_first]
def ws : List WordX := [w__law_word]
def it : List (Nat × InitX) := []
def fr : List Str := [("ValueError" : Str), ("abs" : Str), ("all" : Str), ("any" : Str), ("bool" : Str), ("enumerate" : Str), ("int" : Str), ("isinstance" : Str), ("len" : Str), ("list" : Str), ("min" : Str), ("range" : Str), ("sorted" : Str), ("str" : Str), ("sum" : Str), ("tuple" : Str), ("zip" : Str)]
def cs : List (Str × D) := [("MOST_CORNERS", .int 7), ("MOST_STREETS", .int 8), ("MOST_LONG", .int 20), ("MOST_TOUR", .int 40), ("TOUR", .str "tour"), ("ODD", .str "odd"), ("APART", .str "apart"), ("UNEVEN", .str "uneven")]
def lx : LX := ⟨dx, ws, it, d_hand, d_law, [("ValueError" : Str), ("RoadError" : Str), ("Apart" : Str), ("Full" : Str), ("NoCorner" : Str), ("NoQuarter" : Str), ("NoStreet" : Str), ("NoTour" : Str), ("NoWords" : Str), ("Same" : Str)], [2, 3, 4, 5, 6, 7, 8, 9], [], cs, fr, (.pk 5 97), "hand"⟩
theorem bind_is_integer : BindP d_is_integer := fun _ _ _ _ _ _ us hl => match us, hl with | [_], _ => by kernel_rfl
theorem bind_is_within : BindP d_is_within := fun _ _ _ _ _ _ us hl => match us, hl with | [_, _, _], _ => by kernel_rfl
theorem bind_is_sized : BindP d_is_sized := fun _ _ _ _ _ _ us hl => match us, hl with | [_, _, _], _ => by kernel_rfl
theorem bind_is_road_of : BindP d_is_road_of := fun _ _ _ _ _ _ us hl => match us, hl with | [_, _], _ => by kernel_rfl
theorem bind_is_quarter : BindP d_is_quarter := fun _ _ _ _ _ _ us hl => match us, hl with | [_], _ => by kernel_rfl
theorem bind_check_quarter : BindP d_check_quarter := fun _ _ _ _ _ _ us hl => match us, hl with | [_], _ => by kernel_rfl
theorem bind_is_walk : BindP d_is_walk := fun _ _ _ _ _ _ us hl => match us, hl with | [_, _, _], _ => by kernel_rfl
theorem bind_begin_of : BindP d_begin_of := fun _ _ _ _ _ _ us hl => match us, hl with | [_, _], _ => by kernel_rfl
theorem bind_is_tour : BindP d_is_tour := fun _ _ _ _ _ _ us hl => match us, hl with | [_, _], _ => by kernel_rfl
theorem bind_long_of : BindP d_long_of := fun _ _ _ _ _ _ us hl => match us, hl with | [_, _], _ => by kernel_rfl
theorem bind_tour_long : BindP d_tour_long := fun _ _ _ _ _ _ us hl => match us, hl with | [_, _], _ => by kernel_rfl
theorem bind_raw_degrees : BindP d_raw_degrees := fun _ _ _ _ _ _ us hl => match us, hl with | [_, _], _ => by kernel_rfl
theorem bind_degrees_of : BindP d_degrees_of := fun _ _ _ _ _ _ us hl => match us, hl with | [_], _ => by kernel_rfl
theorem bind_part_of : BindP d_part_of := fun _ _ _ _ _ _ us hl => match us, hl with | [_], _ => by kernel_rfl
theorem bind_steps_at : BindP d_steps_at := fun _ _ _ _ _ _ us hl => match us, hl with | [_, _, _, _], _ => by kernel_rfl
theorem bind_least_walk : BindP d_least_walk := fun _ _ _ _ _ _ us hl => match us, hl with | [_, _, _, _], _ => by kernel_rfl
theorem bind_least_tour : BindP d_least_tour := fun _ _ _ _ _ _ us hl => match us, hl with | [_, _], _ => by kernel_rfl
theorem bind_raw_once : BindP d_raw_once := fun _ _ _ _ _ _ us hl => match us, hl with | [_], _ => by kernel_rfl
theorem bind_once_told : BindP d_once_told := fun _ _ _ _ _ _ us hl => match us, hl with | [_], _ => by kernel_rfl
theorem bind_is_lot : BindP d_is_lot := fun _ _ _ _ _ _ us hl => match us, hl with | [_, _], _ => by kernel_rfl
theorem bind_is_lot_told : BindP d_is_lot_told := fun _ _ _ _ _ _ us hl => match us, hl with | [_, _], _ => by kernel_rfl
theorem bind_is_once_told : BindP d_is_once_told := fun _ _ _ _ _ _ us hl => match us, hl with | [_, _], _ => by kernel_rfl
theorem bind_walks_from : BindP d_walks_from := fun _ _ _ _ _ _ us hl => match us, hl with | [_, _, _, _, _], _ => by kernel_rfl
theorem bind_once_count : BindP d_once_count := fun _ _ _ _ _ _ us hl => match us, hl with | [_], _ => by kernel_rfl
theorem bind_check_whole : BindP d_check_whole := fun _ _ _ _ _ _ us hl => match us, hl with | [_], _ => by kernel_rfl
theorem bind_all_lots : BindP d_all_lots := fun _ _ _ _ _ _ us hl => match us, hl with | [_], _ => by kernel_rfl
theorem bind_even_lots : BindP d_even_lots := fun _ _ _ _ _ _ us hl => match us, hl with | [_], _ => by kernel_rfl
theorem bind_raw_clear : BindP d_raw_clear := fun _ _ _ _ _ _ us hl => match us, hl with | [_], _ => by kernel_rfl
theorem bind_clear_told : BindP d_clear_told := fun _ _ _ _ _ _ us hl => match us, hl with | [_], _ => by kernel_rfl
theorem bind_is_clear_told : BindP d_is_clear_told := fun _ _ _ _ _ _ us hl => match us, hl with | [_, _], _ => by kernel_rfl
theorem bind_clear_tour : BindP d_clear_tour := fun _ _ _ _ _ _ us hl => match us, hl with | [_], _ => by kernel_rfl
theorem bind_is_clear_tour : BindP d_is_clear_tour := fun _ _ _ _ _ _ us hl => match us, hl with | [_, _], _ => by kernel_rfl
theorem bind_check_corners : BindP d_check_corners := fun _ _ _ _ _ _ us hl => match us, hl with | [_, _, _], _ => by kernel_rfl
theorem bind_open_told : BindP d_open_told := fun _ _ _ _ _ _ us hl => match us, hl with | [_, _, _], _ => by kernel_rfl
theorem bind_with_street : BindP d_with_street := fun _ _ _ _ _ _ us hl => match us, hl with | [_, _], _ => by kernel_rfl
theorem bind_shortest_between : BindP d_shortest_between := fun _ _ _ _ _ _ us hl => match us, hl with | [_, _, _], _ => by kernel_rfl
theorem bind_turned_tour : BindP d_turned_tour := fun _ _ _ _ _ _ us hl => match us, hl with | [_, _], _ => by kernel_rfl
theorem bind_raw_rings : BindP d_raw_rings := fun _ _ _ _ _ _ us hl => match us, hl with | [_], _ => by kernel_rfl
theorem bind_rings_told : BindP d_rings_told := fun _ _ _ _ _ _ us hl => match us, hl with | [_], _ => by kernel_rfl
theorem bind_is_ring_of : BindP d_is_ring_of := fun _ _ _ _ _ _ us hl => match us, hl with | [_, _], _ => by kernel_rfl
theorem bind_are_rings_told : BindP d_are_rings_told := fun _ _ _ _ _ _ us hl => match us, hl with | [_, _], _ => by kernel_rfl
theorem bind__law_draw : BindP d__law_draw := fun _ _ _ _ _ _ us hl => match us, hl with | [_, _], _ => by kernel_rfl
theorem bind__law_some : BindP d__law_some := fun _ _ _ _ _ _ us hl => match us, hl with | [_, _], _ => by kernel_rfl
theorem bind__law_deep : BindP d__law_deep := fun _ _ _ _ _ _ us hl => match us, hl with | [_], _ => by kernel_rfl
theorem bind__law_odd : BindP d__law_odd := fun _ _ _ _ _ _ us hl => match us, hl with | [_], _ => by kernel_rfl
theorem bind__law_pick : BindP d__law_pick := fun _ _ _ _ _ _ us hl => match us, hl with | [_, _, _], _ => by kernel_rfl
theorem bind__law_first : BindP d__law_first := fun _ _ _ _ _ _ us hl => match us, hl with | [_], _ => by kernel_rfl
theorem bind_hand : BindP d_hand := fun _ _ _ _ _ _ us hl => match us, hl with | [_], _ => by kernel_rfl
theorem bind_law : BindP d_law := fun _ _ _ _ _ _ us hl => match us, hl with | [_], _ => by kernel_rfl
theorem bindw__law_word : BindQ w__law_word.x w__law_word.x w__law_word.params w__law_word.body w__law_word.scope [w__law_word.a] := fun _ _ _ _ _ _ us hl => match us, hl with | [_], _ => by kernel_rfl

theorem bnd : ∀ e ∈ lx.dx ++ [lx.dh, lx.d], BindP e := List.forall_mem_cons.mpr ⟨bind_is_integer, List.forall_mem_cons.mpr ⟨bind_is_within, List.forall_mem_cons.mpr ⟨bind_is_sized, List.forall_mem_cons.mpr ⟨bind_is_road_of, List.forall_mem_cons.mpr ⟨bind_is_quarter, List.forall_mem_cons.mpr ⟨bind_check_quarter, List.forall_mem_cons.mpr ⟨bind_is_walk, List.forall_mem_cons.mpr ⟨bind_begin_of, List.forall_mem_cons.mpr ⟨bind_is_tour, List.forall_mem_cons.mpr ⟨bind_long_of, List.forall_mem_cons.mpr ⟨bind_tour_long, List.forall_mem_cons.mpr ⟨bind_raw_degrees, List.forall_mem_cons.mpr ⟨bind_degrees_of, List.forall_mem_cons.mpr ⟨bind_part_of, List.forall_mem_cons.mpr ⟨bind_steps_at, List.forall_mem_cons.mpr ⟨bind_least_walk, List.forall_mem_cons.mpr ⟨bind_least_tour, List.forall_mem_cons.mpr ⟨bind_raw_once, List.forall_mem_cons.mpr ⟨bind_once_told, List.forall_mem_cons.mpr ⟨bind_is_lot, List.forall_mem_cons.mpr ⟨bind_is_lot_told, List.forall_mem_cons.mpr ⟨bind_is_once_told, List.forall_mem_cons.mpr ⟨bind_walks_from, List.forall_mem_cons.mpr ⟨bind_once_count, List.forall_mem_cons.mpr ⟨bind_check_whole, List.forall_mem_cons.mpr ⟨bind_all_lots, List.forall_mem_cons.mpr ⟨bind_even_lots, List.forall_mem_cons.mpr ⟨bind_raw_clear, List.forall_mem_cons.mpr ⟨bind_clear_told, List.forall_mem_cons.mpr ⟨bind_is_clear_told, List.forall_mem_cons.mpr ⟨bind_clear_tour, List.forall_mem_cons.mpr ⟨bind_is_clear_tour, List.forall_mem_cons.mpr ⟨bind_check_corners, List.forall_mem_cons.mpr ⟨bind_open_told, List.forall_mem_cons.mpr ⟨bind_with_street, List.forall_mem_cons.mpr ⟨bind_shortest_between, List.forall_mem_cons.mpr ⟨bind_turned_tour, List.forall_mem_cons.mpr ⟨bind_raw_rings, List.forall_mem_cons.mpr ⟨bind_rings_told, List.forall_mem_cons.mpr ⟨bind_is_ring_of, List.forall_mem_cons.mpr ⟨bind_are_rings_told, List.forall_mem_cons.mpr ⟨bind__law_draw, List.forall_mem_cons.mpr ⟨bind__law_some, List.forall_mem_cons.mpr ⟨bind__law_deep, List.forall_mem_cons.mpr ⟨bind__law_odd, List.forall_mem_cons.mpr ⟨bind__law_pick, List.forall_mem_cons.mpr ⟨bind__law_first, List.forall_mem_cons.mpr ⟨bind_hand, List.forall_mem_cons.mpr ⟨bind_law, fun _ h => nomatch h⟩⟩⟩⟩⟩⟩⟩⟩⟩⟩⟩⟩⟩⟩⟩⟩⟩⟩⟩⟩⟩⟩⟩⟩⟩⟩⟩⟩⟩⟩⟩⟩⟩⟩⟩⟩⟩⟩⟩⟩⟩⟩⟩⟩⟩⟩⟩⟩⟩
theorem bndw : ∀ w ∈ lx.ws, BindQ w.x w.x w.params w.body w.scope [w.a] := List.forall_mem_cons.mpr ⟨bindw__law_word, fun _ h => nomatch h⟩
theorem bndi : ∀ p ∈ lx.it, BindQ "__init__" (lx.xn.getD p.1 Str.empty ++ ".__init__") p.2.params p.2.body p.2.scope ["self", "most"] := fun _ h => nomatch h
theorem chk : ∀ e ∈ lx.dx, scB e.N e.ps e.scope = true ∧ chkB (lx.K.at e.N e.lm) e.scope e.body e.b = true := by
  have h : (lx.dx.all fun e => scB e.N e.ps e.scope && chkB (lx.K.at e.N e.lm) e.scope e.body e.b) = true := by decide +kernel
  intro e he
  have z := List.all_eq_true.mp h e he
  rwa [Bool.and_eq_true] at z
theorem chkw : ∀ w ∈ lx.ws, chkW lx.K w = true := by
  have h : (lx.ws.all fun w => chkW lx.K w) = true := by decide +kernel
  exact fun w hw => List.all_eq_true.mp h w hw
theorem chki : ∀ p ∈ lx.it, isInit p.2 = true := by
  have h : (lx.it.all fun p => isInit p.2) = true := by decide +kernel
  exact fun w hw => List.all_eq_true.mp h w hw
theorem lxok : lx.Ok where
  b1 := bnd
  b2 := bndw
  b3 := bndi
  cs := by decide +kernel
  ck := chk
  cw := chkw
  ci := chki
  xb := by decide +kernel
  x0 := by decide +kernel
  dx := by decide +kernel
  ps := by decide +kernel
  sc := by decide +kernel
  n2 := by decide +kernel
  la := by decide +kernel
  cl := by decide +kernel
  hp := by decide +kernel
  hs := by decide +kernel
  hb := by decide +kernel
  f1 := by decide +kernel
  f2 := by decide +kernel
  f3 := by decide +kernel
abbrev rowR_ : PySem.W.OpenRow := PySem.W.OpenLaw.row PySem.Challenge.rw_streethouse_k80_refusals_of_ploughs
abbrev hk_ : PySem.W.Hook := He.hookX 4 lx.fa lx.fn [] lx.tf lx.ex
def ob_ (s : PySem.W.SharedT) : He.AlX := He.obsX 4 lx.fa lx.fn [] lx.tf lx.ex (HandSHeadRun.getT s)
theorem ob_eq (s : PySem.W.SharedT) : ob_ s = hk_.obs s.abs := He.obsX_eq (HandSHeadRun.getT_eq s)
def loose : List Str := (["is_integer", "is_within", "is_sized", "is_lot", "all_lots", "is_road_of", "is_quarter", "check_quarter", "is_walk", "begin_of", "is_tour", "long_of", "tour_long", "raw_degrees", "degrees_of", "part_of", "steps_at", "walks_from", "least_walk", "least_tour", "raw_once", "once_told", "is_lot_told", "is_once_told", "once_count", "even_lots", "check_whole", "raw_clear", "clear_told", "is_clear_told"] : List Str) ++ (["clear_tour", "is_clear_tour", "check_corners", "open_told", "with_street", "shortest_between", "turned_tour", "raw_rings", "rings_told", "is_ring_of", "are_rings_told", "_law_hand", "_law_draw", "_law_some", "_law_pick", "_law_first", "_law_deep", "_law_odd", "_law_word", "MOST_CORNERS", "MOST_STREETS", "MOST_LONG", "MOST_TOUR", "TOUR", "ODD", "APART", "UNEVEN", "RoadError", "Apart", "Full"] : List Str) ++ (["NoCorner", "NoQuarter", "NoStreet", "NoTour", "NoWords", "Same"] : List Str)
theorem headrun (w : World) : HandSHeadRun.RunEq rowR_ (PySem.W.view rowR_.prog [70]) hk_ ob_ 4000 loose w := by
  intro os
  kernel_rfl

end Lk80
set_option maxHeartbeats 2000000
set_option autoImplicit true
set_option relaxedAutoImplicit true
namespace Lk80
open PySem PySem.Spec PD

theorem draw_a {pos v s c : Int} {cells : List Int} (hp : 0 ≤ pos) (b : Int) : ∃ ρ' hs', denM (Ph ws dx 41) (psiOf ws) noThk ir__law_draw.hd [.val .hnd, .val (.int b), .no, .no, .no] [.lst (cells.map D.int), .int pos, .int v, .int s, .int c] = .ok (.nx ρ') hs' ∧ (∃ x, ρ' = [.val .hnd, .val (.int b), .no, x, .no]) ∧ HandOk hs' := by
  by_cases hv : v = 0
  · by_cases hl : pos < (cells.map D.int).length
    · have hl2 : pos.toNat < cells.length := by rw [List.length_map] at hl; omega
      have c1 : ixD [.lst (cells.map D.int), .int pos, .int v, .int s, .int c] (.lst (cells.map D.int)) (.int pos) = some (.int cells[pos.toNat]) := by
        have z := ix_nat (h := [.lst (cells.map D.int), .int pos, .int v, .int s, .int c]) (xs := cells.map D.int) (k := pos.toNat) (d := .int cells[pos.toNat]) (by rw [List.getElem?_map, List.getElem?_eq_getElem hl2]; rfl)
        rwa [Int.toNat_of_nonneg hp] at z
      have e1 : decide (v = 0) = true := decide_eq_true hv
      have e2 : decide (pos < ((cells.map D.int).length : Int)) = true := decide_eq_true hl
      have m1 : binD .mul (.int s) (.int 48271) = some (.int (s * 48271)) := mul_r (by decide) (by decide)
      have m2 : ∀ i, binD .mod (.int i) (.int 2147483647) = some (.int (i.fmod 2147483647)) := fun i => mod_ok (by decide)
      have hk : HandOk [.lst (cells.map D.int), .int (pos + 1), .int v, .int ((s * 48271 + cells[pos.toNat] + 31).fmod 2147483647), .int c] := ⟨cells, _, _, _, _, rfl, by omega⟩
      have hk2 : HandOk [.lst (cells.map D.int), .int (pos + 1), .int cells[pos.toNat], .int ((s * 48271 + cells[pos.toNat] + 31).fmod 2147483647), .int c] := ⟨cells, _, _, _, _, rfl, by omega⟩
      generalize cells[pos.toNat] = cell at c1 hk hk2 ⊢
      generalize hC : cells.map D.int = C at c1 e2 hk hk2 ⊢
      by_cases hg : (1000000000000000000 : Int) ≤ cell
      · refine ⟨[.val .hnd, .val (.int b), .no, .val (.int cell), .no], [.lst C, .int (pos + 1), .int cell, .int ((s * 48271 + cell + 31).fmod 2147483647), .int c], ?_, ⟨_, rfl⟩, hk2⟩
        have e3 : decide ((1000000000000000000 : Int) ≤ cell) = true := decide_eq_true hg
        simp only [ir__law_draw, IMs.hd, IMs.tl, denF, denMs, denM, den, dens, denC, Res.bind, ofO, List.getElem?_cons_zero, List.getElem?_cons_succ, List.set_cons_zero, List.set_cons_succ, Option.map_some, truthD, if_true, hx0, hx1, hx2, hx3, hx4, hs1_, hs2_, hs3_, bi_lenl, bi_int, cmpD, eqD_int, e1, e2, c1, PD.add_int, m1, m2, pow18, e3]
      · refine ⟨[.val .hnd, .val (.int b), .no, .val (.int cell), .no], [.lst C, .int (pos + 1), .int v, .int ((s * 48271 + cell + 31).fmod 2147483647), .int c], ?_, ⟨_, rfl⟩, hk⟩
        have e3 : decide ((1000000000000000000 : Int) ≤ cell) = false := decide_eq_false hg
        simp only [ir__law_draw, IMs.hd, IMs.tl, denF, denMs, denM, den, dens, denC, Res.bind, ofO, List.getElem?_cons_zero, List.getElem?_cons_succ, List.set_cons_zero, List.set_cons_succ, Option.map_some, truthD, if_true, if_false, Bool.false_eq_true, hx0, hx1, hx2, hx3, hx4, hs1_, hs2_, hs3_, bi_lenl, bi_int, cmpD, eqD_int, e1, e2, c1, PD.add_int, m1, m2, pow18, e3]
    · have e1 : decide (v = 0) = true := decide_eq_true hv
      have e2 : decide (pos < ((cells.map D.int).length : Int)) = false := decide_eq_false hl
      refine ⟨_, _, ?_, ⟨.no, rfl⟩, ⟨cells, pos, v, s, c, rfl, hp⟩⟩
      generalize cells.map D.int = C at e2 ⊢
      simp only [ir__law_draw, IMs.hd, IMs.tl, denF, denMs, denM, den, dens, denC, Res.bind, ofO, List.getElem?_cons_zero, List.getElem?_cons_succ, Option.map_some, truthD, if_true, if_false, Bool.false_eq_true, hx0, hx1, hx2, bi_lenl, cmpD, eqD_int, e1, e2]
  · have e1 : decide (v = 0) = false := decide_eq_false hv
    refine ⟨_, _, ?_, ⟨.no, rfl⟩, ⟨cells, pos, v, s, c, rfl, hp⟩⟩
    generalize cells.map D.int = C
    simp only [ir__law_draw, IMs.hd, IMs.tl, denF, denMs, denM, den, dens, denC, Res.bind, ofO, List.getElem?_cons_zero, List.getElem?_cons_succ, Option.map_some, truthD, if_true, if_false, Bool.false_eq_true, hx2, cmpD, eqD_int, e1]
theorem ok_draw {b : Int} (h1 : 1 ≤ b) (h2 : b ≤ 1000000000) {hs : HS} (I : HandOk hs) : ∃ (d : Int) (hs' : HS), 0 ≤ d ∧ d < b ∧ HandOk hs' ∧ Does ws dx 41 [.hnd, .int b] hs (.int d) hs' := by
  obtain ⟨cells, pos, v, s, c, rfl, hp⟩ := I
  obtain ⟨ρ1, hs1, e1, ⟨x, rfl⟩, cells1, pos1, v1, s1, c1, rfl, hp1⟩ := draw_a (v := v) (s := s) (c := c) (cells := cells) hp b
  have mb : ∀ i, binD .mod (.int i) (.int b) = some (.int (i.fmod b)) := fun i => mod_ok (by omega)
  by_cases hv : 0 < v1
  · have fb : binD .fdiv (.int v1) (.int b) = some (.int (v1.fdiv b)) := fdiv_ok (by omega) (by omega)
    obtain ⟨d1, d2⟩ := fm_b v1 (show (0 : Int) < b by omega)
    refine ⟨v1.fmod b, [.lst (cells1.map D.int), .int pos1, .int (v1.fdiv b), .int s1, .int c1], d1, d2, ⟨cells1, _, _, _, _, rfl, hp1⟩, does_of rfl rfl (f_rt ((ms_hd (b := ir__law_draw) e1).trans ?_))⟩
    have e2 : decide (0 < v1) = true := decide_eq_true hv
    generalize hC : cells1.map D.int = C
    simp only [ir__law_draw, IMs.hd, IMs.tl, denF, denMs, denM, den, dens, denC, Res.bind, ofO, List.getElem?_cons_zero, List.getElem?_cons_succ, List.set_cons_zero, List.set_cons_succ, Option.map_some, truthD, if_true, hx2, hs2_, bi_int, cmpD, e2, mb, fb]
  · have e2 : decide (0 < v1) = false := decide_eq_false hv
    have m0 : ∀ i : Int, binD .mul (.int 6151) (.int i) = some (.int (6151 * i)) := fun i => mul_l (by decide) (by decide)
    have m1 : ∀ i : Int, binD .mul (.int i) (.int 40692) = some (.int (i * 40692)) := fun i => mul_r (by decide) (by decide)
    have m2 : ∀ i : Int, binD .mod (.int i) (.int 2147483399) = some (.int (i.fmod 2147483399)) := fun i => mod_ok (by decide)
    have m3 : ∀ i : Int, binD .mod (.int i) (.int 2147483629) = some (.int (i.fmod 2147483629)) := fun i => mod_ok (by decide)
    have m4 : ∀ i : Int, binD .mod (.int i) (.int 2147483647) = some (.int (i.fmod 2147483647)) := fun i => mod_ok (by decide)
    have f1 : ∀ i : Int, binD .fdiv (.int i) (.int 1223) = some (.int (i.fdiv 1223)) := fun i => fdiv_ok (by decide) (by decide)
    have f2 : ∀ i : Int, binD .fdiv (.int i) (.int 2671) = some (.int (i.fdiv 2671)) := fun i => fdiv_ok (by decide) (by decide)
    have f3 : ∀ i : Int, binD .fdiv (.int i) (.int 32) = some (.int (i.fdiv 32)) := fun i => fdiv_ok (by decide) (by decide)
    obtain ⟨a1, a2⟩ := fm_b ((s1 + 6151 * (c1 + 1)) * 40692) (show (0 : Int) < 2147483399 by decide)
    generalize hn1 : ((s1 + 6151 * (c1 + 1)) * 40692).fmod 2147483399 = n1 at a1 a2
    have p1 : ∀ j : Int, binD .mul (.int n1) (.int j) = some (.int (n1 * j)) := fun j => mul_l (by omega) (by omega)
    obtain ⟨b1, b2⟩ := fm_b (n1 * (n1.fdiv 1223 + 52027)) (show (0 : Int) < 2147483629 by decide)
    generalize hn2 : (n1 * (n1.fdiv 1223 + 52027)).fmod 2147483629 = n2 at b1 b2
    have p2 : ∀ j : Int, binD .mul (.int n2) (.int j) = some (.int (n2 * j)) := fun j => mul_l (by omega) (by omega)
    generalize hn3 : (n2 * (n2.fdiv 2671 + 69621)).fmod 2147483647 = n3
    obtain ⟨d1, d2⟩ := fm_b (n3.fdiv 32) (show (0 : Int) < b by omega)
    refine ⟨(n3.fdiv 32).fmod b, [.lst (cells1.map D.int), .int pos1, .int v1, .int s1, .int (c1 + 1)], d1, d2, ⟨cells1, _, _, _, _, rfl, hp1⟩, does_of rfl rfl (f_rt ((ms_hd (b := ir__law_draw) e1).trans ?_))⟩
    generalize hC : cells1.map D.int = C
    simp only [ir__law_draw, IMs.hd, IMs.tl, denF, denMs, denM, den, dens, denC, Res.bind, ofO, List.getElem?_cons_zero, List.getElem?_cons_succ, List.set_cons_zero, List.set_cons_succ, Option.map_some, truthD, if_true, if_false, Bool.false_eq_true, hx2, hx3, hx4, hs4_, bi_int, cmpD, e2, mb, PD.add_int, m0, m1, m2, m3, m4, f1, f2, f3, hn1, p1, hn2, p2, hn3]
theorem ok_any {α : Type} (u : α → D) {xs : List α} (h1 : 1 ≤ xs.length) (h2 : xs.length ≤ 1000000) {hs : HS} (I : HandOk hs) : ∃ x ∈ xs, ∃ hs', HandOk hs' ∧ Does ws dx 42 [.hnd, .lst (xs.map u)] hs (u x) hs' := by
  obtain ⟨d, hs', d0, d1, I', q⟩ := ok_draw (b := (xs.length : Int)) (by omega) (by omega) I
  obtain ⟨x, hx, e⟩ := any_at u (hs := hs') d0 d1
  refine ⟨x, hx, hs', I', does_of rfl rfl ?_⟩
  have a1 := q.at 42 (by decide) (by decide)
  have hl : biD .len [.lst (xs.map u)] = some (.int (xs.length : Int)) := by rw [bi_lenl, List.length_map]
  generalize D.lst (xs.map u) = L at hl e ⊢
  simp only [ir__law_some, denF, denMs, denM, den, dens, denS, denC, denO, Res.bind, ofO, isTys, isTy, asgT, asgTs, wipeP, parSet, frzL, slotOf, atom, calmR, seqOf, intOf, negD, List.map_cons, List.map_nil, List.cons_append, List.nil_append, List.getElem?_cons_zero, List.getElem?_cons_succ, List.set_cons_zero, List.set_cons_succ, Option.map_some, Option.map_none, Option.bind_some, truthD, if_true, if_false, Bool.false_eq_true, Bool.not_true, Bool.not_false, Bool.and_true, Bool.true_and, Bool.and_false, Bool.false_and, Bool.or_false, Bool.false_or, Bool.true_or, Bool.or_true, List.length_cons, List.length_nil, ite_true, ite_false, PD.add_int, PD.sub_int, Nat.reduceAdd, Nat.reduceSub, Nat.zero_add, List.reduceReplicate, List.replicate_zero, List.append_nil, one_line, two_line, thr_line, zero_line, hl, a1, e]
/-- one of a list of data -/
theorem ok_one {xs : List D} (h1 : 1 ≤ xs.length) (h2 : xs.length ≤ 1000000) {hs : HS} (I : HandOk hs) : ∃ x ∈ xs, ∃ hs', HandOk hs' ∧ Does ws dx 42 [.hnd, .lst xs] hs x hs' := by
  obtain ⟨x, hx, hs', I', q⟩ := ok_any (fun d : D => d) h1 h2 I
  rw [List.map_id'] at q
  exact ⟨x, hx, hs', I', q⟩

theorem l_le {n : Nat} (h : n ≤ 1000000) : n ≤ line := by unfold line; omega
section
variable {Φ : Nat → List D → HS → Res D} {Ψ : Nat → (HS → Res D) → HS → Res D} {thk : HS → Res D}
def tkM : Nat → IMs → IMs
  | 0, _ => .nil
  | _ + 1, .nil => .nil
  | k + 1, .cons m b => .cons m (tkM k b)
def dpM : Nat → IMs → IMs
  | 0, b => b
  | _ + 1, .nil => .nil
  | k + 1, .cons _ b => dpM k b
theorem ms_tk : ∀ (k : Nat) (b : IMs) (ρ : PEnv) (h : HS) {ρ' : PEnv} {h' : HS}, denMs Φ Ψ thk (tkM k b) ρ h = .ok (.nx ρ') h' → denMs Φ Ψ thk b ρ h = denMs Φ Ψ thk (dpM k b) ρ' h'
  | 0, b, ρ, h, ρ', h', e => by
    simp only [tkM, denMs, Res.ok.injEq, Fl.nx.injEq] at e
    obtain ⟨rfl, rfl⟩ := e
    rfl
  | k + 1, .nil, ρ, h, ρ', h', e => by
    simp only [tkM, denMs, Res.ok.injEq, Fl.nx.injEq] at e
    obtain ⟨rfl, rfl⟩ := e
    rfl
  | k + 1, .cons m b, ρ, h, ρ', h', e => by
    simp only [tkM, denMs] at e
    simp only [dpM, denMs]
    cases z : denM Φ Ψ thk m ρ h with
    | stuck => rw [z] at e; simp [Res.bind] at e
    | exc x g => rw [z] at e; simp [Res.bind] at e
    | ok f g =>
      rw [z] at e
      cases f with
      | nx ρ1 =>
        simp only [Res.bind] at e ⊢
        exact ms_tk k b ρ1 g e
      | _ => simp [Res.bind] at e
end
theorem run_nx {j : Nat} {b : IMs} {ρ ρ' : PEnv} (h : HS) (e : denMsx 300 (PhiX 300 ws ((dx.take j).map DefX.t).reverse) (psiX 300 ws) noThk b ρ [] = .ok (.nx ρ') []) : denMs (Ph ws dx j) (psiOf ws) noThk b ρ h = .ok (.nx ρ') h := by
  have u := up_denMs (h := h) (up_phi 300 ws ((dx.take j).map DefX.t).reverse) (up_psi 300 ws) up_noT 300 b ρ
  rw [e] at u
  exact u.2
theorem run_rt {j : Nat} {b : IMs} {ρ : PEnv} {d : D} (h : HS) (e : denMsx 300 (PhiX 300 ws ((dx.take j).map DefX.t).reverse) (psiX 300 ws) noThk b ρ [] = .ok (.rt d) []) : denMs (Ph ws dx j) (psiOf ws) noThk b ρ h = .ok (.rt d) h := by
  have u := up_denMs (h := h) (up_phi 300 ws ((dx.take j).map DefX.t).reverse) (up_psi 300 ws) up_noT 300 b ρ
  rw [e] at u
  exact u.2
abbrev deep0 : List D := [.non, .int 5, .int (-1), .dct [] [], .bl true]
theorem dp0 (q : Ph ws dx 43 41 [.hnd, .int 5] h = .ok k h') (i : ixD h' (.lst deep0) k = some d) : denM (Ph ws dx 43) (psiOf ws) noThk ir__law_deep.hd [.val .hnd, sl1, sl2] h = .ok (.nx [.val .hnd, .val d, sl2]) h' := by
  simp only [ir__law_deep, IMs.hd, IMs.tl, denF, denMs, denM, den, dens, denS, denC, denO, Res.bind, ofO, isTys, isTy, asgT, asgTs, wipeP, parSet, frzL, slotOf, atom, calmR, seqOf, intOf, negD, List.map_cons, List.map_nil, List.cons_append, List.nil_append, List.getElem?_cons_zero, List.getElem?_cons_succ, List.set_cons_zero, List.set_cons_succ, Option.map_some, Option.map_none, Option.bind_some, truthD, if_true, if_false, Bool.false_eq_true, Bool.not_true, Bool.not_false, Bool.and_true, Bool.true_and, Bool.and_false, Bool.false_and, Bool.or_false, Bool.false_or, Bool.true_or, Bool.or_true, List.length_cons, List.length_nil, ite_true, ite_false, PD.add_int, PD.sub_int, Nat.reduceAdd, Nat.reduceSub, Nat.zero_add, List.reduceReplicate, List.replicate_zero, List.append_nil, one_line, two_line, thr_line, zero_line, line, Nat.reduceLeDiff, Nat.le_refl, List.isEmpty_nil, Bool.and_self, if_pos, q, deep0] at i ⊢
  simp only [i]
theorem disp1 (d : D) : dispD [.int 0, d] = some (.dct [.int 0] [d]) := rfl
theorem dp1 (q : Ph ws dx 43 41 [.hnd, .int 3] h = .ok k h') (i : ixD h' (.lst [.tup [d], .lst [d], .dct [.int 0] [d]]) k = some x) : denMs (Ph ws dx 43) (psiOf ws) noThk bd__law_deep_1 [.val .hnd, .val d, sl2] h = .ok (.nx [.val .hnd, .val x, sl2]) h' := by
  simp only [bd__law_deep_1, IMs.hd, IMs.tl, denF, denMs, denM, den, dens, denS, denC, denO, Res.bind, ofO, isTys, isTy, asgT, asgTs, wipeP, parSet, frzL, slotOf, atom, calmR, seqOf, intOf, negD, List.map_cons, List.map_nil, List.cons_append, List.nil_append, List.getElem?_cons_zero, List.getElem?_cons_succ, List.set_cons_zero, List.set_cons_succ, Option.map_some, Option.map_none, Option.bind_some, truthD, if_true, if_false, Bool.false_eq_true, Bool.not_true, Bool.not_false, Bool.and_true, Bool.true_and, Bool.and_false, Bool.false_and, Bool.or_false, Bool.false_or, Bool.true_or, Bool.or_true, List.length_cons, List.length_nil, ite_true, ite_false, PD.add_int, PD.sub_int, Nat.reduceAdd, Nat.reduceSub, Nat.zero_add, List.reduceReplicate, List.replicate_zero, List.append_nil, one_line, two_line, thr_line, zero_line, line, Nat.reduceLeDiff, Nat.le_refl, List.isEmpty_nil, Bool.and_self, if_pos, q, disp1, i]
theorem dp2 (q : Ph ws dx 43 41 [.hnd, .int 24] h = .ok (.int k) h') : den (Ph ws dx 43) (psiOf ws) noThk (.bin .add (.lit (.int 5)) (.call 41 (.cons (.var 0) (.cons (.lit (.int 24)) .nil)))) [.val .hnd, sl1, sl2] h = .ok (.int (5 + k)) h' := by
  simp only [denF, denMs, denM, den, dens, denS, denC, denO, Res.bind, ofO, isTys, isTy, asgT, asgTs, wipeP, parSet, frzL, slotOf, atom, calmR, seqOf, intOf, negD, List.map_cons, List.map_nil, List.cons_append, List.nil_append, List.getElem?_cons_zero, List.getElem?_cons_succ, List.set_cons_zero, List.set_cons_succ, Option.map_some, Option.map_none, Option.bind_some, truthD, if_true, if_false, Bool.false_eq_true, Bool.not_true, Bool.not_false, Bool.and_true, Bool.true_and, Bool.and_false, Bool.false_and, Bool.or_false, Bool.false_or, Bool.true_or, Bool.or_true, List.length_cons, List.length_nil, ite_true, ite_false, PD.add_int, PD.sub_int, Nat.reduceAdd, Nat.reduceSub, Nat.zero_add, List.reduceReplicate, List.replicate_zero, List.append_nil, one_line, two_line, thr_line, zero_line, q]
theorem dp3 : denMs (Ph ws dx 43) (psiOf ws) noThk ir__law_deep.tl.tl [sl0, .val d, sl2] h = .ok (.rt d) h := by
  simp only [ir__law_deep, IMs.hd, IMs.tl, denF, denMs, denM, den, dens, denS, denC, denO, Res.bind, ofO, isTys, isTy, asgT, asgTs, wipeP, parSet, frzL, slotOf, atom, calmR, seqOf, intOf, negD, List.map_cons, List.map_nil, List.cons_append, List.nil_append, List.getElem?_cons_zero, List.getElem?_cons_succ, List.set_cons_zero, List.set_cons_succ, Option.map_some, Option.map_none, Option.bind_some, truthD, if_true, if_false, Bool.false_eq_true, Bool.not_true, Bool.not_false, Bool.and_true, Bool.true_and, Bool.and_false, Bool.false_and, Bool.or_false, Bool.false_or, Bool.true_or, Bool.or_true, List.length_cons, List.length_nil, ite_true, ite_false, PD.add_int, PD.sub_int, Nat.reduceAdd, Nat.reduceSub, Nat.zero_add, List.reduceReplicate, List.replicate_zero, List.append_nil, one_line, two_line, thr_line, zero_line, line, Nat.reduceLeDiff, Nat.le_refl, List.isEmpty_nil, Bool.and_self, if_pos]
theorem ix5 {h : HS} {a b c d e : D} {k : Int} (h0 : 0 ≤ k) (h1 : k < 5) : ∃ x, ixD h (.lst [a, b, c, d, e]) (.int k) = some x := by
  obtain ⟨n, rfl⟩ : ∃ n : Nat, k = (n : Int) := ⟨k.toNat, by omega⟩
  have hn : n < 5 := by omega
  rcases n with _ | _ | _ | _ | _ | n
  · exact ⟨a, rfl⟩
  · exact ⟨b, rfl⟩
  · exact ⟨c, rfl⟩
  · exact ⟨d, rfl⟩
  · exact ⟨e, rfl⟩
  · omega
theorem ix3 {h : HS} {a b c : D} {k : Int} (h0 : 0 ≤ k) (h1 : k < 3) : ∃ x, ixD h (.lst [a, b, c]) (.int k) = some x := by
  obtain ⟨n, rfl⟩ : ∃ n : Nat, k = (n : Int) := ⟨k.toNat, by omega⟩
  have hn : n < 3 := by omega
  rcases n with _ | _ | _ | n
  · exact ⟨a, rfl⟩
  · exact ⟨b, rfl⟩
  · exact ⟨c, rfl⟩
  · omega
theorem ok_deep {hs : HS} (I : HandOk hs) : ∃ d hs', HandOk hs' ∧ Does ws dx 43 [.hnd] hs d hs' := by
  obtain ⟨k, h1, k0, k1, I1, q1⟩ := ok_draw (b := 5) (by decide) (by decide) I
  obtain ⟨m, h2, m0, m1, I2, q2⟩ := ok_draw (b := 24) (by decide) (by decide) I1
  obtain ⟨d0, i0⟩ := ix5 (h := h1) (a := .non) (b := .int 5) (c := .int (-1)) (d := .dct [] []) (e := .bl true) k0 k1
  obtain ⟨n, en⟩ : ∃ n : Nat, 5 + m = (n : Int) := ⟨(5 + m).toNat, by omega⟩
  have r := dp2 (h := h1) (sl1 := .val d0) (sl2 := .no) ((q2).at 43 (by decide) (by decide))
  rw [en] at r
  obtain ⟨ρ', h', e, ⟨d, x2, rfl⟩, I'⟩ := for_inv (Φ := Ph ws dx 43) (Ψ := psiOf ws) (thk := noThk) (t := .nm 2) (b := bd__law_deep_1) (ρ := [.val .hnd, .val d0, .no]) (h := h1)
    (fun _ ρ h' => (∃ d x2, ρ = [.val .hnd, .val d, x2]) ∧ HandOk h') (s_rng1 r (by omega)) ⟨⟨d0, .no, rfl⟩, I2⟩ (by
    rintro i t ρ h' _ ⟨⟨d, x2, rfl⟩, I'⟩
    obtain ⟨k, h3, k0, k1, I3, q3⟩ := ok_draw (b := 3) (by decide) (by decide) I'
    obtain ⟨y, iy⟩ := ix3 (h := h3) (a := .tup [d]) (b := .lst [d]) (c := .dct [.int 0] [d]) k0 k1
    exact ⟨_, _, h3, rfl, .inl (dp1 ((q3).at 43 (by decide) (by decide)) iy), ⟨y, .val t, rfl⟩, I3⟩)
  exact ⟨d, h', I', does_of rfl rfl (f_rt ((ms_hd (b := ir__law_deep) (dp0 ((q1).at 43 (by decide) (by decide)) i0)).trans ((ms_hd (b := ir__law_deep.tl) e).trans dp3)))⟩
abbrev oddL (d : D) : List D := [.non, .bl true, .bl false, .int 0, .int (-1), .int 999, .int 9223372036854775808, .str "p", .str "", .tup [], .lst [], .dct [] [], .tup [.int 1], .tup [.str "a"], d]
theorem shl63 : binD .shl (.int 1) (.int 63) = some (.int 9223372036854775808) := rfl
theorem od0 (q : Ph ws dx 44 43 [.hnd] h = .ok d h1) (q2 : Ph ws dx 44 42 [.hnd, .lst (oddL d)] h1 = .ok x h') : denMs (Ph ws dx 44) (psiOf ws) noThk ir__law_odd [.val .hnd] h = .ok (.rt x) h' := by
  simp only [oddL] at q2
  simp only [ir__law_odd, IMs.hd, IMs.tl, denF, denMs, denM, den, dens, denS, denC, denO, Res.bind, ofO, isTys, isTy, asgT, asgTs, wipeP, parSet, frzL, slotOf, atom, calmR, seqOf, intOf, negD, List.map_cons, List.map_nil, List.cons_append, List.nil_append, List.getElem?_cons_zero, List.getElem?_cons_succ, List.set_cons_zero, List.set_cons_succ, Option.map_some, Option.map_none, Option.bind_some, truthD, if_true, if_false, Bool.false_eq_true, Bool.not_true, Bool.not_false, Bool.and_true, Bool.true_and, Bool.and_false, Bool.false_and, Bool.or_false, Bool.false_or, Bool.true_or, Bool.or_true, List.length_cons, List.length_nil, ite_true, ite_false, PD.add_int, PD.sub_int, Nat.reduceAdd, Nat.reduceSub, Nat.zero_add, List.reduceReplicate, List.replicate_zero, List.append_nil, one_line, two_line, thr_line, zero_line, line, Nat.reduceLeDiff, Nat.le_refl, List.isEmpty_nil, Bool.and_self, if_pos, q, shl63, q2]
theorem ok_odd {hs : HS} (I : HandOk hs) : ∃ d hs', HandOk hs' ∧ Does ws dx 44 [.hnd] hs d hs' := by
  obtain ⟨d, h1, I1, q1⟩ := ok_deep I
  obtain ⟨x, _, h2, I2, q2⟩ := ok_one (xs := oddL d) (by show 1 ≤ 15; decide) (by show 15 ≤ 1000000; decide) I1
  exact ⟨x, h2, I2, does_of rfl rfl (f_rt (od0 ((q1).at 44 (by decide) (by decide)) ((q2).at 44 (by decide) (by decide))))⟩
theorem pk0 (q : Ph ws dx 45 41 [.hnd, .int 3] h = .ok (.int k) h') (e : decide (0 < k) = true) : denMs (Ph ws dx 45) (psiOf ws) noThk ir__law_pick [.val .hnd, .val R, .val W] h = .ok (.rt (.tup [R, .bl true])) h' := by
  simp only [ir__law_pick, IMs.hd, IMs.tl, denF, denMs, denM, den, dens, denS, denC, denO, Res.bind, ofO, isTys, isTy, asgT, asgTs, wipeP, parSet, frzL, slotOf, atom, calmR, seqOf, intOf, negD, List.map_cons, List.map_nil, List.cons_append, List.nil_append, List.getElem?_cons_zero, List.getElem?_cons_succ, List.set_cons_zero, List.set_cons_succ, Option.map_some, Option.map_none, Option.bind_some, truthD, if_true, if_false, Bool.false_eq_true, Bool.not_true, Bool.not_false, Bool.and_true, Bool.true_and, Bool.and_false, Bool.false_and, Bool.or_false, Bool.false_or, Bool.true_or, Bool.or_true, List.length_cons, List.length_nil, ite_true, ite_false, PD.add_int, PD.sub_int, Nat.reduceAdd, Nat.reduceSub, Nat.zero_add, List.reduceReplicate, List.replicate_zero, List.append_nil, one_line, two_line, thr_line, zero_line, line, Nat.reduceLeDiff, Nat.le_refl, List.isEmpty_nil, Bool.and_self, if_pos, q, cmpD, e]
theorem pk1 (q : Ph ws dx 45 41 [.hnd, .int 3] h = .ok (.int k) h1) (e : decide (0 < k) = false) (q1 : Ph ws dx 45 44 [.hnd] h1 = .ok o h2) (a : binD .add W (.lst [.lst [o]]) = some L) (q2 : Ph ws dx 45 42 [.hnd, L] h2 = .ok x h3) : denMs (Ph ws dx 45) (psiOf ws) noThk ir__law_pick [.val .hnd, .val R, .val W] h = .ok (.rt (.tup [x, .bl false])) h3 := by
  simp only [ir__law_pick, IMs.hd, IMs.tl, denF, denMs, denM, den, dens, denS, denC, denO, Res.bind, ofO, isTys, isTy, asgT, asgTs, wipeP, parSet, frzL, slotOf, atom, calmR, seqOf, intOf, negD, List.map_cons, List.map_nil, List.cons_append, List.nil_append, List.getElem?_cons_zero, List.getElem?_cons_succ, List.set_cons_zero, List.set_cons_succ, Option.map_some, Option.map_none, Option.bind_some, truthD, if_true, if_false, Bool.false_eq_true, Bool.not_true, Bool.not_false, Bool.and_true, Bool.true_and, Bool.and_false, Bool.false_and, Bool.or_false, Bool.false_or, Bool.true_or, Bool.or_true, List.length_cons, List.length_nil, ite_true, ite_false, PD.add_int, PD.sub_int, Nat.reduceAdd, Nat.reduceSub, Nat.zero_add, List.reduceReplicate, List.replicate_zero, List.append_nil, one_line, two_line, thr_line, zero_line, line, Nat.reduceLeDiff, Nat.le_refl, List.isEmpty_nil, Bool.and_self, if_pos, q, cmpD, e, q1, a, q2]
theorem ok_pick {R : D} {xs : List D} (hl : xs.length ≤ 100) {hs : HS} (I : HandOk hs) : ∃ x b hs', HandOk hs' ∧ Does ws dx 45 [.hnd, R, .lst xs] hs (.tup [x, .bl b]) hs' ∧ ((x = R ∧ b = true) ∨ ((x ∈ xs ∨ ∃ o, x = D.lst [o]) ∧ b = false)) := by
  obtain ⟨k, h1, k0, k1, I1, q1⟩ := ok_draw (b := 3) (by decide) (by decide) I
  by_cases hk : 0 < k
  · exact ⟨R, true, h1, I1, does_of rfl rfl (f_rt (pk0 ((q1).at 45 (by decide) (by decide)) (decide_eq_true hk))), .inl ⟨rfl, rfl⟩⟩
  · obtain ⟨o, h2, I2, q2⟩ := ok_odd I1
    have hm : (xs ++ [D.lst [o]]).length = xs.length + 1 := by rw [List.length_append]; rfl
    obtain ⟨x, hx, h3, I3, q3⟩ := ok_one (xs := xs ++ [.lst [o]]) (by omega) (by omega) I2
    refine ⟨x, false, h3, I3, does_of rfl rfl (f_rt (pk1 ((q1).at 45 (by decide) (by decide)) (decide_eq_false hk) ((q2).at 45 (by decide) (by decide)) (if_pos (l_le (by show xs.length + 1 ≤ 1000000; omega))) ((q3).at 45 (by decide) (by decide)))), .inr ⟨?_, rfl⟩⟩
    rcases List.mem_append.mp hx with hx | hx
    · exact .inl hx
    · exact .inr ⟨o, List.mem_singleton.mp hx⟩

abbrev ST : D := .tup [.tup [.int 0, .int 1, .int 2], .tup [.int 0, .int 2, .int 3], .tup [.int 1, .int 2, .int 4]]
abbrev R0 : D := .tup [.int 3, ST]
abbrev WQ8 : List D := [.non, .tup [], .tup [.int 1, ST], .tup [.int 8, ST], .tup [.int 3, .tup []], .tup [.int 3, .tup [.tup [.int 1, .int 0, .int 1]]], .tup [.int 3, .tup [.tup [.int 0, .int 1, .int 0]]], .tup [.int 2, ST]]
abbrev WQ : List D := [.non, .tup [], .tup [.int 1, ST], .tup [.int 8, ST], .tup [.int 3, .tup []], .tup [.int 3, .tup [.tup [.int 1, .int 0, .int 1]]], .tup [.int 3, .tup [.tup [.int 0, .int 1, .int 0]]], .tup [.int 2, ST], .lst [.int 3, ST], .tup [.int 3, .tup [.tup [.int 1, .int 2, .int 4], .tup [.int 0, .int 2, .int 3], .tup [.int 0, .int 1, .int 2]]]]
def BadQ (x : D) : Prop := x ∈ WQ ∨ ∃ o, x = D.lst [o]
theorem run_e {j : Nat} {e : IE} {ρ : PEnv} {d : D} (h : HS) (z : den (PhiX 300 ws ((dx.take j).map DefX.t).reverse) (psiX 300 ws) noThk e ρ [] = .ok d []) : den (Ph ws dx j) (psiOf ws) noThk e ρ h = .ok d h := by
  have u := up_den (h := h) (up_phi 300 ws ((dx.take j).map DefX.t).reverse) (up_psi 300 ws) up_noT e ρ
  rw [z] at u
  exact u.2
theorem m_pick {i j : Nat} {eR eW : IE} {ρ : PEnv} {h h' : HS} {R W x : D} {b : Bool} (hh : ρ[1]? = some (.val .hnd)) (r : den (Ph ws dx 47) (psiOf ws) noThk eR ρ h = .ok R h) (w : den (Ph ws dx 47) (psiOf ws) noThk eW ρ h = .ok W h) (q : Ph ws dx 47 45 [.hnd, R, W] h = .ok (.tup [x, .bl b]) h') : denM (Ph ws dx 47) (psiOf ws) noThk (.setT (.tp (.cons (.nm i) (.cons (.nm j) .nil))) (.call 45 (.cons (.var 1) (.cons eR (.cons eW .nil))))) ρ h = .ok (.nx ((ρ.set i (.val x)).set j (.val (.bl b)))) h' := by
  simp only [denM, den, dens, atom, hh, r, w, q, Res.bind, ofO, asgT, asgTs, seqOf, Option.bind_some, Option.map_some]
abbrev qs10 : List D := List.replicate 10 (.str "quarter")
abbrev ok10 : List D := List.replicate 10 (.str "let")
abbrev cls2 : D := .tup [.fn 29, .fn 30, .fn 31]
theorem ch0 (h : HS) : denMs (Ph ws dx 47) (psiOf ws) noThk bd_law_1 [sl0, sl1, .val R0, sl3, sl4, sl5, sl6, sl7, sl8, sl9, sl10, sl11, sl12, sl13, sl14, sl15, sl16, sl17, sl18, sl19, sl20, sl21, sl22] h = denMs (Ph ws dx 47) (psiOf ws) noThk (dpM 1 bd_law_1) [sl0, sl1, .val R0, sl3, sl4, .own (.lst WQ8), sl6, sl7, sl8, sl9, sl10, sl11, sl12, sl13, sl14, sl15, sl16, sl17, sl18, sl19, sl20, sl21, sl22] h := ms_tk 1 bd_law_1 _ _ (run_nx h (by kernel_rfl))
theorem ch1 (q : Ph ws dx 47 45 [.hnd, R0, .lst WQ] h = .ok (.tup [x, .bl b]) h') : denMs (Ph ws dx 47) (psiOf ws) noThk (dpM 1 bd_law_1) [sl0, .val .hnd, .val R0, sl3, sl4, .own (.lst WQ8), sl6, sl7, sl8, sl9, sl10, sl11, sl12, sl13, sl14, sl15, sl16, sl17, sl18, sl19, sl20, sl21, sl22] h = denMs (Ph ws dx 47) (psiOf ws) noThk (dpM 2 bd_law_1) [sl0, .val .hnd, .val R0, sl3, sl4, .own (.lst WQ8), sl6, sl7, sl8, sl9, .val x, .val (.bl b), sl12, sl13, sl14, sl15, sl16, sl17, sl18, sl19, sl20, sl21, sl22] h' :=
  ms_hd (b := dpM 1 bd_law_1) (m_pick rfl (run_e h (by kernel_rfl)) (run_e h (by kernel_rfl)) q)

abbrev cls1 : D := .tup [.fn 21, .fn 29, .fn 31, .fn 40]
theorem forQ {P : D → Prop} (h : ∀ x ∈ WQ, P x) (ho : ∀ o, P (.lst [o])) {x : D} (hx : BadQ x) : P x := by
  rcases hx with hx | ⟨o, rfl⟩
  · exact h x hx
  · exact ho o
theorem all10 {P : D → Prop} {a b c d e f g i j k : D} (h0 : P a) (h1 : P b) (h2 : P c) (h3 : P d) (h4 : P e) (h5 : P f) (h6 : P g) (h7 : P i) (h8 : P j) (h9 : P k) : ∀ x ∈ [a, b, c, d, e, f, g, i, j, k], P x := by
  intro x hx
  simp only [List.mem_cons, List.not_mem_nil, or_false] at hx
  rcases hx with rfl | rfl | rfl | rfl | rfl | rfl | rfl | rfl | rfl | rfl <;> assumption
theorem chA_bad (hx : BadQ x) (h : HS) : denMs (Ph ws dx 47) (psiOf ws) noThk (dpM 2 bd_law_1) [sl0, sl1, sl2, sl3, sl4, sl5, sl6, sl7, sl8, sl9, .val x, .val (.bl false), sl12, sl13, sl14, sl15, sl16, sl17, sl18, sl19, sl20, sl21, sl22] h = denMs (Ph ws dx 47) (psiOf ws) noThk (dpM 7 bd_law_1) [sl0, sl1, sl2, sl3, .own (.lst qs10), sl5, .val cls1, sl7, sl8, sl9, .val x, .val (.bl false), sl12, sl13, sl14, sl15, sl16, sl17, sl18, sl19, sl20, sl21, sl22] h := by
  refine forQ (P := fun x => denMs (Ph ws dx 47) (psiOf ws) noThk (dpM 2 bd_law_1) [sl0, sl1, sl2, sl3, sl4, sl5, sl6, sl7, sl8, sl9, .val x, .val (.bl false), sl12, sl13, sl14, sl15, sl16, sl17, sl18, sl19, sl20, sl21, sl22] h = denMs (Ph ws dx 47) (psiOf ws) noThk (dpM 7 bd_law_1) [sl0, sl1, sl2, sl3, .own (.lst qs10), sl5, .val cls1, sl7, sl8, sl9, .val x, .val (.bl false), sl12, sl13, sl14, sl15, sl16, sl17, sl18, sl19, sl20, sl21, sl22] h) (all10 ?_ ?_ ?_ ?_ ?_ ?_ ?_ ?_ ?_ ?_) (fun o => ?_) hx <;> exact ms_tk 5 (dpM 2 bd_law_1) _ _ (run_nx h (by kernel_rfl))
theorem chA_good (h : HS) : denMs (Ph ws dx 47) (psiOf ws) noThk (dpM 2 bd_law_1) [sl0, sl1, sl2, sl3, sl4, sl5, sl6, sl7, sl8, sl9, .val R0, .val (.bl true), sl12, sl13, sl14, sl15, sl16, sl17, sl18, sl19, sl20, sl21, sl22] h = denMs (Ph ws dx 47) (psiOf ws) noThk (dpM 7 bd_law_1) [sl0, sl1, sl2, sl3, .own (.lst ok10), sl5, .val cls1, sl7, sl8, sl9, .val R0, .val (.bl true), sl12, sl13, sl14, sl15, sl16, sl17, sl18, sl19, sl20, sl21, sl22] h := ms_tk 5 (dpM 2 bd_law_1) _ _ (run_nx h (by kernel_rfl))

abbrev WT : List D := [.non, .tup [], .tup [.tup [.int 0, .int 1]], .tup [.tup [.int 0, .int 2], .tup [.int 2, .int 2], .tup [.int 1, .int 0]], .tup [.tup [.int 0, .int 1], .tup [.int 2, .int 2], .tup [.int 3, .int 0]], .lst [.tup [.int 0, .int 1]], .tup (List.replicate 21 [.tup [.int 0, .int 1], .tup [.int 0, .int 0]]).flatten]
abbrev CW : List D := [.int (-1), .int 3, .non, .bl true]
abbrev WS : List D := [.non, .tup [], .tup [.int 1, .int 0, .int 9], .tup [.int 0, .int 3, .int 9], .tup [.int 0, .int 1, .int 0], .tup [.int 0, .int 1, .int 21], .lst [.int 0, .int 1, .int 9], .tup [.int 0, .int 1]]
abbrev WW : List D := [.non, .tup [], .tup [.str "up"], .tup [.str "up", .str "up", .str "left"], .lst [.str "up", .str "up", .str "up"], .tup [.str "up", .str "up", .int 1], .tup (List.replicate 4 (.str "up"))]
abbrev T0 : D := .tup [.tup [.int 0, .int 1], .tup [.int 2, .int 2], .tup [.int 1, .int 0]]
abbrev S0 : D := .tup [.int 0, .int 1, .int 9]
abbrev U0 : D := .tup [.str "up", .str "down", .str "up"]
abbrev OkP (R : D) (W : List D) (x : D) (b : Bool) : Prop := (x = R ∧ b = true) ∨ ((x ∈ W ∨ ∃ o, x = D.lst [o]) ∧ b = false)
theorem all4 {P : D → Prop} {a b c d : D} (h0 : P a) (h1 : P b) (h2 : P c) (h3 : P d) : ∀ x ∈ [a, b, c, d], P x := by
  intro x hx
  simp only [List.mem_cons, List.not_mem_nil, or_false] at hx
  rcases hx with rfl | rfl | rfl | rfl <;> assumption
theorem all7 {P : D → Prop} {a b c d e f g : D} (h0 : P a) (h1 : P b) (h2 : P c) (h3 : P d) (h4 : P e) (h5 : P f) (h6 : P g) : ∀ x ∈ [a, b, c, d, e, f, g], P x := by
  intro x hx
  simp only [List.mem_cons, List.not_mem_nil, or_false] at hx
  rcases hx with rfl | rfl | rfl | rfl | rfl | rfl | rfl <;> assumption
theorem all8 {P : D → Prop} {a b c d e f g i : D} (h0 : P a) (h1 : P b) (h2 : P c) (h3 : P d) (h4 : P e) (h5 : P f) (h6 : P g) (h7 : P i) : ∀ x ∈ [a, b, c, d, e, f, g, i], P x := by
  intro x hx
  simp only [List.mem_cons, List.not_mem_nil, or_false] at hx
  rcases hx with rfl | rfl | rfl | rfl | rfl | rfl | rfl | rfl <;> assumption
theorem forW {W : List D} {P : D → Prop} (h : ∀ x ∈ W, P x) (ho : ∀ o, P (.lst [o])) {x : D} (hx : x ∈ W ∨ ∃ o, x = D.lst [o]) : P x := by
  rcases hx with hx | ⟨o, rfl⟩
  · exact h x hx
  · exact ho o
theorem chC_b1  (hx : x ∈ WQ ∨ ∃ o, x = D.lst [o]) (h : HS) : denMs (Ph ws dx 47) (psiOf ws) noThk (dpM 11 bd_law_1) [sl0, sl1, sl2, sl3, sl4, sl5, sl6, sl7, sl8, sl9, .val x, .val (.bl false), .val y, .val (.bl true), sl14, sl15, sl16, sl17, sl18, sl19, sl20, sl21, sl22] h = denMs (Ph ws dx 47) (psiOf ws) noThk (dpM 12 bd_law_1) [sl0, sl1, sl2, sl3, sl4, sl5, sl6, sl7, sl8, sl9, .val x, .val (.bl false), .val y, .val (.bl true), sl14, sl15, sl16, sl17, sl18, sl19, sl20, sl21, sl22] h := by
  refine forW (P := fun x => denMs (Ph ws dx 47) (psiOf ws) noThk (dpM 11 bd_law_1) [sl0, sl1, sl2, sl3, sl4, sl5, sl6, sl7, sl8, sl9, .val x, .val (.bl false), .val y, .val (.bl true), sl14, sl15, sl16, sl17, sl18, sl19, sl20, sl21, sl22] h = denMs (Ph ws dx 47) (psiOf ws) noThk (dpM 12 bd_law_1) [sl0, sl1, sl2, sl3, sl4, sl5, sl6, sl7, sl8, sl9, .val x, .val (.bl false), .val y, .val (.bl true), sl14, sl15, sl16, sl17, sl18, sl19, sl20, sl21, sl22] h) (all10 ?_ ?_ ?_ ?_ ?_ ?_ ?_ ?_ ?_ ?_) (fun o => ?_) hx <;> exact ms_tk 1 (dpM 11 bd_law_1) _ _ (run_nx h (by kernel_rfl))
theorem chC_b0  (hx : x ∈ WQ ∨ ∃ o, x = D.lst [o]) (h : HS) : denMs (Ph ws dx 47) (psiOf ws) noThk (dpM 11 bd_law_1) [sl0, sl1, sl2, sl3, sl4, sl5, sl6, sl7, sl8, sl9, .val x, .val (.bl false), .val y, .val (.bl false), sl14, sl15, sl16, sl17, sl18, sl19, sl20, sl21, sl22] h = denMs (Ph ws dx 47) (psiOf ws) noThk (dpM 12 bd_law_1) [sl0, sl1, sl2, sl3, sl4, sl5, sl6, sl7, sl8, sl9, .val x, .val (.bl false), .val y, .val (.bl false), sl14, sl15, sl16, sl17, sl18, sl19, sl20, sl21, sl22] h := by
  refine forW (P := fun x => denMs (Ph ws dx 47) (psiOf ws) noThk (dpM 11 bd_law_1) [sl0, sl1, sl2, sl3, sl4, sl5, sl6, sl7, sl8, sl9, .val x, .val (.bl false), .val y, .val (.bl false), sl14, sl15, sl16, sl17, sl18, sl19, sl20, sl21, sl22] h = denMs (Ph ws dx 47) (psiOf ws) noThk (dpM 12 bd_law_1) [sl0, sl1, sl2, sl3, sl4, sl5, sl6, sl7, sl8, sl9, .val x, .val (.bl false), .val y, .val (.bl false), sl14, sl15, sl16, sl17, sl18, sl19, sl20, sl21, sl22] h) (all10 ?_ ?_ ?_ ?_ ?_ ?_ ?_ ?_ ?_ ?_) (fun o => ?_) hx <;> exact ms_tk 1 (dpM 11 bd_law_1) _ _ (run_nx h (by kernel_rfl))
theorem chC_gg  (h : HS) : denMs (Ph ws dx 47) (psiOf ws) noThk (dpM 11 bd_law_1) [sl0, sl1, sl2, sl3, sl4, sl5, sl6, sl7, sl8, sl9, .val R0, .val (.bl true), .val T0, .val (.bl true), sl14, sl15, sl16, sl17, sl18, sl19, sl20, sl21, sl22] h = denMs (Ph ws dx 47) (psiOf ws) noThk (dpM 12 bd_law_1) [sl0, sl1, sl2, sl3, sl4, sl5, sl6, sl7, sl8, sl9, .val R0, .val (.bl true), .val T0, .val (.bl true), sl14, sl15, sl16, sl17, sl18, sl19, sl20, sl21, sl22] h := ms_tk 1 (dpM 11 bd_law_1) _ _ (run_nx h (by kernel_rfl))
theorem chC_gb  (hy : y ∈ WT ∨ ∃ o, y = D.lst [o]) (h : HS) : denMs (Ph ws dx 47) (psiOf ws) noThk (dpM 11 bd_law_1) [sl0, sl1, sl2, sl3, sl4, sl5, sl6, sl7, sl8, sl9, .val R0, .val (.bl true), .val y, .val (.bl false), sl14, sl15, sl16, sl17, sl18, sl19, sl20, sl21, sl22] h = denMs (Ph ws dx 47) (psiOf ws) noThk (dpM 12 bd_law_1) [sl0, sl1, sl2, sl3, sl4, sl5, sl6, sl7, sl8, sl9, .val R0, .val (.bl true), .val y, .val (.bl false), sl14, sl15, sl16, sl17, sl18, sl19, sl20, sl21, sl22] h := by
  refine forW (P := fun y => denMs (Ph ws dx 47) (psiOf ws) noThk (dpM 11 bd_law_1) [sl0, sl1, sl2, sl3, sl4, sl5, sl6, sl7, sl8, sl9, .val R0, .val (.bl true), .val y, .val (.bl false), sl14, sl15, sl16, sl17, sl18, sl19, sl20, sl21, sl22] h = denMs (Ph ws dx 47) (psiOf ws) noThk (dpM 12 bd_law_1) [sl0, sl1, sl2, sl3, sl4, sl5, sl6, sl7, sl8, sl9, .val R0, .val (.bl true), .val y, .val (.bl false), sl14, sl15, sl16, sl17, sl18, sl19, sl20, sl21, sl22] h) (all7 ?_ ?_ ?_ ?_ ?_ ?_ ?_) (fun o => ?_) hy <;> exact ms_tk 1 (dpM 11 bd_law_1) _ _ (run_nx h (by kernel_rfl))
theorem chC (hq : OkP R0 WQ x b) (ht : OkP T0 WT y c) (h : HS) : denMs (Ph ws dx 47) (psiOf ws) noThk (dpM 11 bd_law_1) [sl0, sl1, sl2, sl3, sl4, sl5, sl6, sl7, sl8, sl9, .val x, .val (.bl b), .val y, .val (.bl c), sl14, sl15, sl16, sl17, sl18, sl19, sl20, sl21, sl22] h = denMs (Ph ws dx 47) (psiOf ws) noThk (dpM 12 bd_law_1) [sl0, sl1, sl2, sl3, sl4, sl5, sl6, sl7, sl8, sl9, .val x, .val (.bl b), .val y, .val (.bl c), sl14, sl15, sl16, sl17, sl18, sl19, sl20, sl21, sl22] h := by
  rcases hq with ⟨rfl, rfl⟩ | ⟨hx, rfl⟩
  · rcases ht with ⟨rfl, rfl⟩ | ⟨hy, rfl⟩
    · exact chC_gg h
    · exact chC_gb hy h
  · cases c
    · exact chC_b0 hx h
    · exact chC_b1 hx h
theorem chE_b1  (hx : x ∈ WQ ∨ ∃ o, x = D.lst [o]) (h : HS) : denMs (Ph ws dx 47) (psiOf ws) noThk (dpM 20 bd_law_1) [sl0, sl1, sl2, sl3, sl4, sl5, sl6, sl7, sl8, sl9, .val x, .val (.bl false), sl12, sl13, sl14, sl15, sl16, sl17, .val y, .val (.bl true), sl20, sl21, sl22] h = denMs (Ph ws dx 47) (psiOf ws) noThk (dpM 21 bd_law_1) [sl0, sl1, sl2, sl3, sl4, sl5, sl6, sl7, sl8, sl9, .val x, .val (.bl false), sl12, sl13, sl14, sl15, sl16, sl17, .val y, .val (.bl true), sl20, sl21, sl22] h := by
  refine forW (P := fun x => denMs (Ph ws dx 47) (psiOf ws) noThk (dpM 20 bd_law_1) [sl0, sl1, sl2, sl3, sl4, sl5, sl6, sl7, sl8, sl9, .val x, .val (.bl false), sl12, sl13, sl14, sl15, sl16, sl17, .val y, .val (.bl true), sl20, sl21, sl22] h = denMs (Ph ws dx 47) (psiOf ws) noThk (dpM 21 bd_law_1) [sl0, sl1, sl2, sl3, sl4, sl5, sl6, sl7, sl8, sl9, .val x, .val (.bl false), sl12, sl13, sl14, sl15, sl16, sl17, .val y, .val (.bl true), sl20, sl21, sl22] h) (all10 ?_ ?_ ?_ ?_ ?_ ?_ ?_ ?_ ?_ ?_) (fun o => ?_) hx <;> exact ms_tk 1 (dpM 20 bd_law_1) _ _ (run_nx h (by kernel_rfl))
theorem chE_b0  (hx : x ∈ WQ ∨ ∃ o, x = D.lst [o]) (h : HS) : denMs (Ph ws dx 47) (psiOf ws) noThk (dpM 20 bd_law_1) [sl0, sl1, sl2, sl3, sl4, sl5, sl6, sl7, sl8, sl9, .val x, .val (.bl false), sl12, sl13, sl14, sl15, sl16, sl17, .val y, .val (.bl false), sl20, sl21, sl22] h = denMs (Ph ws dx 47) (psiOf ws) noThk (dpM 21 bd_law_1) [sl0, sl1, sl2, sl3, sl4, sl5, sl6, sl7, sl8, sl9, .val x, .val (.bl false), sl12, sl13, sl14, sl15, sl16, sl17, .val y, .val (.bl false), sl20, sl21, sl22] h := by
  refine forW (P := fun x => denMs (Ph ws dx 47) (psiOf ws) noThk (dpM 20 bd_law_1) [sl0, sl1, sl2, sl3, sl4, sl5, sl6, sl7, sl8, sl9, .val x, .val (.bl false), sl12, sl13, sl14, sl15, sl16, sl17, .val y, .val (.bl false), sl20, sl21, sl22] h = denMs (Ph ws dx 47) (psiOf ws) noThk (dpM 21 bd_law_1) [sl0, sl1, sl2, sl3, sl4, sl5, sl6, sl7, sl8, sl9, .val x, .val (.bl false), sl12, sl13, sl14, sl15, sl16, sl17, .val y, .val (.bl false), sl20, sl21, sl22] h) (all10 ?_ ?_ ?_ ?_ ?_ ?_ ?_ ?_ ?_ ?_) (fun o => ?_) hx <;> exact ms_tk 1 (dpM 20 bd_law_1) _ _ (run_nx h (by kernel_rfl))
theorem chE_gg  (h : HS) : denMs (Ph ws dx 47) (psiOf ws) noThk (dpM 20 bd_law_1) [sl0, sl1, sl2, sl3, sl4, sl5, sl6, sl7, sl8, sl9, .val R0, .val (.bl true), sl12, sl13, sl14, sl15, sl16, sl17, .val S0, .val (.bl true), sl20, sl21, sl22] h = denMs (Ph ws dx 47) (psiOf ws) noThk (dpM 21 bd_law_1) [sl0, sl1, sl2, sl3, sl4, sl5, sl6, sl7, sl8, sl9, .val R0, .val (.bl true), sl12, sl13, sl14, sl15, sl16, sl17, .val S0, .val (.bl true), sl20, sl21, sl22] h := ms_tk 1 (dpM 20 bd_law_1) _ _ (run_nx h (by kernel_rfl))
theorem chE_gb  (hy : y ∈ WS ∨ ∃ o, y = D.lst [o]) (h : HS) : denMs (Ph ws dx 47) (psiOf ws) noThk (dpM 20 bd_law_1) [sl0, sl1, sl2, sl3, sl4, sl5, sl6, sl7, sl8, sl9, .val R0, .val (.bl true), sl12, sl13, sl14, sl15, sl16, sl17, .val y, .val (.bl false), sl20, sl21, sl22] h = denMs (Ph ws dx 47) (psiOf ws) noThk (dpM 21 bd_law_1) [sl0, sl1, sl2, sl3, sl4, sl5, sl6, sl7, sl8, sl9, .val R0, .val (.bl true), sl12, sl13, sl14, sl15, sl16, sl17, .val y, .val (.bl false), sl20, sl21, sl22] h := by
  refine forW (P := fun y => denMs (Ph ws dx 47) (psiOf ws) noThk (dpM 20 bd_law_1) [sl0, sl1, sl2, sl3, sl4, sl5, sl6, sl7, sl8, sl9, .val R0, .val (.bl true), sl12, sl13, sl14, sl15, sl16, sl17, .val y, .val (.bl false), sl20, sl21, sl22] h = denMs (Ph ws dx 47) (psiOf ws) noThk (dpM 21 bd_law_1) [sl0, sl1, sl2, sl3, sl4, sl5, sl6, sl7, sl8, sl9, .val R0, .val (.bl true), sl12, sl13, sl14, sl15, sl16, sl17, .val y, .val (.bl false), sl20, sl21, sl22] h) (all8 ?_ ?_ ?_ ?_ ?_ ?_ ?_ ?_) (fun o => ?_) hy <;> exact ms_tk 1 (dpM 20 bd_law_1) _ _ (run_nx h (by kernel_rfl))
theorem chE (hq : OkP R0 WQ x b) (ht : OkP S0 WS y c) (h : HS) : denMs (Ph ws dx 47) (psiOf ws) noThk (dpM 20 bd_law_1) [sl0, sl1, sl2, sl3, sl4, sl5, sl6, sl7, sl8, sl9, .val x, .val (.bl b), sl12, sl13, sl14, sl15, sl16, sl17, .val y, .val (.bl c), sl20, sl21, sl22] h = denMs (Ph ws dx 47) (psiOf ws) noThk (dpM 21 bd_law_1) [sl0, sl1, sl2, sl3, sl4, sl5, sl6, sl7, sl8, sl9, .val x, .val (.bl b), sl12, sl13, sl14, sl15, sl16, sl17, .val y, .val (.bl c), sl20, sl21, sl22] h := by
  rcases hq with ⟨rfl, rfl⟩ | ⟨hx, rfl⟩
  · rcases ht with ⟨rfl, rfl⟩ | ⟨hy, rfl⟩
    · exact chE_gg h
    · exact chE_gb hy h
  · cases c
    · exact chE_b0 hx h
    · exact chE_b1 hx h
theorem chF_b1  (hx : x ∈ WQ ∨ ∃ o, x = D.lst [o]) (h : HS) : denMs (Ph ws dx 47) (psiOf ws) noThk (dpM 24 bd_law_1) [sl0, sl1, sl2, sl3, sl4, sl5, sl6, sl7, sl8, sl9, .val x, .val (.bl false), sl12, sl13, sl14, sl15, sl16, sl17, sl18, sl19, .val y, .val (.bl true), sl22] h = denMs (Ph ws dx 47) (psiOf ws) noThk (dpM 25 bd_law_1) [sl0, sl1, sl2, sl3, sl4, sl5, sl6, sl7, sl8, sl9, .val x, .val (.bl false), sl12, sl13, sl14, sl15, sl16, sl17, sl18, sl19, .val y, .val (.bl true), sl22] h := by
  refine forW (P := fun x => denMs (Ph ws dx 47) (psiOf ws) noThk (dpM 24 bd_law_1) [sl0, sl1, sl2, sl3, sl4, sl5, sl6, sl7, sl8, sl9, .val x, .val (.bl false), sl12, sl13, sl14, sl15, sl16, sl17, sl18, sl19, .val y, .val (.bl true), sl22] h = denMs (Ph ws dx 47) (psiOf ws) noThk (dpM 25 bd_law_1) [sl0, sl1, sl2, sl3, sl4, sl5, sl6, sl7, sl8, sl9, .val x, .val (.bl false), sl12, sl13, sl14, sl15, sl16, sl17, sl18, sl19, .val y, .val (.bl true), sl22] h) (all10 ?_ ?_ ?_ ?_ ?_ ?_ ?_ ?_ ?_ ?_) (fun o => ?_) hx <;> exact ms_tk 1 (dpM 24 bd_law_1) _ _ (run_nx h (by kernel_rfl))
theorem chF_b0  (hx : x ∈ WQ ∨ ∃ o, x = D.lst [o]) (h : HS) : denMs (Ph ws dx 47) (psiOf ws) noThk (dpM 24 bd_law_1) [sl0, sl1, sl2, sl3, sl4, sl5, sl6, sl7, sl8, sl9, .val x, .val (.bl false), sl12, sl13, sl14, sl15, sl16, sl17, sl18, sl19, .val y, .val (.bl false), sl22] h = denMs (Ph ws dx 47) (psiOf ws) noThk (dpM 25 bd_law_1) [sl0, sl1, sl2, sl3, sl4, sl5, sl6, sl7, sl8, sl9, .val x, .val (.bl false), sl12, sl13, sl14, sl15, sl16, sl17, sl18, sl19, .val y, .val (.bl false), sl22] h := by
  refine forW (P := fun x => denMs (Ph ws dx 47) (psiOf ws) noThk (dpM 24 bd_law_1) [sl0, sl1, sl2, sl3, sl4, sl5, sl6, sl7, sl8, sl9, .val x, .val (.bl false), sl12, sl13, sl14, sl15, sl16, sl17, sl18, sl19, .val y, .val (.bl false), sl22] h = denMs (Ph ws dx 47) (psiOf ws) noThk (dpM 25 bd_law_1) [sl0, sl1, sl2, sl3, sl4, sl5, sl6, sl7, sl8, sl9, .val x, .val (.bl false), sl12, sl13, sl14, sl15, sl16, sl17, sl18, sl19, .val y, .val (.bl false), sl22] h) (all10 ?_ ?_ ?_ ?_ ?_ ?_ ?_ ?_ ?_ ?_) (fun o => ?_) hx <;> exact ms_tk 1 (dpM 24 bd_law_1) _ _ (run_nx h (by kernel_rfl))
theorem chF_gg  (h : HS) : denMs (Ph ws dx 47) (psiOf ws) noThk (dpM 24 bd_law_1) [sl0, sl1, sl2, sl3, sl4, sl5, sl6, sl7, sl8, sl9, .val R0, .val (.bl true), sl12, sl13, sl14, sl15, sl16, sl17, sl18, sl19, .val U0, .val (.bl true), sl22] h = denMs (Ph ws dx 47) (psiOf ws) noThk (dpM 25 bd_law_1) [sl0, sl1, sl2, sl3, sl4, sl5, sl6, sl7, sl8, sl9, .val R0, .val (.bl true), sl12, sl13, sl14, sl15, sl16, sl17, sl18, sl19, .val U0, .val (.bl true), sl22] h := ms_tk 1 (dpM 24 bd_law_1) _ _ (run_nx h (by kernel_rfl))
theorem chF_gb  (hy : y ∈ WW ∨ ∃ o, y = D.lst [o]) (h : HS) : denMs (Ph ws dx 47) (psiOf ws) noThk (dpM 24 bd_law_1) [sl0, sl1, sl2, sl3, sl4, sl5, sl6, sl7, sl8, sl9, .val R0, .val (.bl true), sl12, sl13, sl14, sl15, sl16, sl17, sl18, sl19, .val y, .val (.bl false), sl22] h = denMs (Ph ws dx 47) (psiOf ws) noThk (dpM 25 bd_law_1) [sl0, sl1, sl2, sl3, sl4, sl5, sl6, sl7, sl8, sl9, .val R0, .val (.bl true), sl12, sl13, sl14, sl15, sl16, sl17, sl18, sl19, .val y, .val (.bl false), sl22] h := by
  refine forW (P := fun y => denMs (Ph ws dx 47) (psiOf ws) noThk (dpM 24 bd_law_1) [sl0, sl1, sl2, sl3, sl4, sl5, sl6, sl7, sl8, sl9, .val R0, .val (.bl true), sl12, sl13, sl14, sl15, sl16, sl17, sl18, sl19, .val y, .val (.bl false), sl22] h = denMs (Ph ws dx 47) (psiOf ws) noThk (dpM 25 bd_law_1) [sl0, sl1, sl2, sl3, sl4, sl5, sl6, sl7, sl8, sl9, .val R0, .val (.bl true), sl12, sl13, sl14, sl15, sl16, sl17, sl18, sl19, .val y, .val (.bl false), sl22] h) (all7 ?_ ?_ ?_ ?_ ?_ ?_ ?_) (fun o => ?_) hy <;> exact ms_tk 1 (dpM 24 bd_law_1) _ _ (run_nx h (by kernel_rfl))
theorem chF (hq : OkP R0 WQ x b) (ht : OkP U0 WW y c) (h : HS) : denMs (Ph ws dx 47) (psiOf ws) noThk (dpM 24 bd_law_1) [sl0, sl1, sl2, sl3, sl4, sl5, sl6, sl7, sl8, sl9, .val x, .val (.bl b), sl12, sl13, sl14, sl15, sl16, sl17, sl18, sl19, .val y, .val (.bl c), sl22] h = denMs (Ph ws dx 47) (psiOf ws) noThk (dpM 25 bd_law_1) [sl0, sl1, sl2, sl3, sl4, sl5, sl6, sl7, sl8, sl9, .val x, .val (.bl b), sl12, sl13, sl14, sl15, sl16, sl17, sl18, sl19, .val y, .val (.bl c), sl22] h := by
  rcases hq with ⟨rfl, rfl⟩ | ⟨hx, rfl⟩
  · rcases ht with ⟨rfl, rfl⟩ | ⟨hy, rfl⟩
    · exact chF_gg h
    · exact chF_gb hy h
  · cases c
    · exact chF_b0 hx h
    · exact chF_b1 hx h
theorem chB  (h : HS) : denMs (Ph ws dx 47) (psiOf ws) noThk (dpM 7 bd_law_1) [sl0, sl1, sl2, sl3, sl4, sl5, sl6, sl7, sl8, sl9, sl10, sl11, sl12, sl13, sl14, sl15, sl16, sl17, sl18, sl19, sl20, sl21, sl22] h = denMs (Ph ws dx 47) (psiOf ws) noThk (dpM 10 bd_law_1) [sl0, sl1, sl2, sl3, sl4, .val (.lst WT), sl6, sl7, sl8, sl9, sl10, sl11, sl12, sl13, sl14, sl15, sl16, sl17, sl18, sl19, sl20, sl21, sl22] h := ms_tk 3 (dpM 7 bd_law_1) _ _ (run_nx h (by kernel_rfl))
theorem chG  (h : HS) : denMs (Ph ws dx 47) (psiOf ws) noThk (dpM 17 bd_law_1) [sl0, sl1, sl2, sl3, sl4, sl5, sl6, sl7, sl8, sl9, sl10, sl11, sl12, sl13, sl14, sl15, sl16, sl17, sl18, sl19, sl20, sl21, sl22] h = denMs (Ph ws dx 47) (psiOf ws) noThk (dpM 19 bd_law_1) [sl0, sl1, sl2, sl3, sl4, .val (.lst WS), sl6, sl7, sl8, sl9, sl10, sl11, sl12, sl13, sl14, sl15, sl16, sl17, sl18, sl19, sl20, sl21, sl22] h := ms_tk 2 (dpM 17 bd_law_1) _ _ (run_nx h (by kernel_rfl))
theorem chH  (h : HS) : denMs (Ph ws dx 47) (psiOf ws) noThk (dpM 21 bd_law_1) [sl0, sl1, sl2, sl3, sl4, sl5, sl6, sl7, sl8, sl9, sl10, sl11, sl12, sl13, sl14, sl15, sl16, sl17, sl18, sl19, sl20, sl21, sl22] h = denMs (Ph ws dx 47) (psiOf ws) noThk (dpM 23 bd_law_1) [sl0, sl1, sl2, sl3, sl4, .val (.lst WW), sl6, sl7, sl8, sl9, sl10, sl11, sl12, sl13, sl14, sl15, sl16, sl17, sl18, sl19, sl20, sl21, sl22] h := ms_tk 2 (dpM 21 bd_law_1) _ _ (run_nx h (by kernel_rfl))
theorem pkT (q : Ph ws dx 47 45 [.hnd, T0, .lst WT] h = .ok (.tup [x, .bl b]) h') : denMs (Ph ws dx 47) (psiOf ws) noThk (dpM 10 bd_law_1) [sl0, .val .hnd, sl2, sl3, sl4, .val (.lst WT), sl6, sl7, sl8, sl9, sl10, sl11, sl12, sl13, sl14, sl15, sl16, sl17, sl18, sl19, sl20, sl21, sl22] h = denMs (Ph ws dx 47) (psiOf ws) noThk (dpM 11 bd_law_1) [sl0, .val .hnd, sl2, sl3, sl4, .val (.lst WT), sl6, sl7, sl8, sl9, sl10, sl11, .val x, .val (.bl b), sl14, sl15, sl16, sl17, sl18, sl19, sl20, sl21, sl22] h' :=
  ms_hd (b := dpM 10 bd_law_1) (m_pick rfl (run_e h (by kernel_rfl)) (run_e h (by kernel_rfl)) q)
theorem pkA (q : Ph ws dx 47 45 [.hnd, (.int 0), .lst CW] h = .ok (.tup [x, .bl b]) h') : denMs (Ph ws dx 47) (psiOf ws) noThk (dpM 12 bd_law_1) [sl0, .val .hnd, sl2, sl3, sl4, sl5, sl6, sl7, sl8, sl9, sl10, sl11, sl12, sl13, sl14, sl15, sl16, sl17, sl18, sl19, sl20, sl21, sl22] h = denMs (Ph ws dx 47) (psiOf ws) noThk (dpM 13 bd_law_1) [sl0, .val .hnd, sl2, sl3, sl4, sl5, sl6, sl7, sl8, sl9, sl10, sl11, sl12, sl13, .val x, .val (.bl b), sl16, sl17, sl18, sl19, sl20, sl21, sl22] h' :=
  ms_hd (b := dpM 12 bd_law_1) (m_pick rfl (run_e h (by kernel_rfl)) (run_e h (by kernel_rfl)) q)
theorem pkB (q : Ph ws dx 47 45 [.hnd, (.int 2), .lst CW] h = .ok (.tup [x, .bl b]) h') : denMs (Ph ws dx 47) (psiOf ws) noThk (dpM 13 bd_law_1) [sl0, .val .hnd, sl2, sl3, sl4, sl5, sl6, sl7, sl8, sl9, sl10, sl11, sl12, sl13, sl14, sl15, sl16, sl17, sl18, sl19, sl20, sl21, sl22] h = denMs (Ph ws dx 47) (psiOf ws) noThk (dpM 14 bd_law_1) [sl0, .val .hnd, sl2, sl3, sl4, sl5, sl6, sl7, sl8, sl9, sl10, sl11, sl12, sl13, sl14, sl15, .val x, .val (.bl b), sl18, sl19, sl20, sl21, sl22] h' :=
  ms_hd (b := dpM 13 bd_law_1) (m_pick rfl (run_e h (by kernel_rfl)) (run_e h (by kernel_rfl)) q)
theorem pkS (q : Ph ws dx 47 45 [.hnd, S0, .lst WS] h = .ok (.tup [x, .bl b]) h') : denMs (Ph ws dx 47) (psiOf ws) noThk (dpM 19 bd_law_1) [sl0, .val .hnd, sl2, sl3, sl4, .val (.lst WS), sl6, sl7, sl8, sl9, sl10, sl11, sl12, sl13, sl14, sl15, sl16, sl17, sl18, sl19, sl20, sl21, sl22] h = denMs (Ph ws dx 47) (psiOf ws) noThk (dpM 20 bd_law_1) [sl0, .val .hnd, sl2, sl3, sl4, .val (.lst WS), sl6, sl7, sl8, sl9, sl10, sl11, sl12, sl13, sl14, sl15, sl16, sl17, .val x, .val (.bl b), sl20, sl21, sl22] h' :=
  ms_hd (b := dpM 19 bd_law_1) (m_pick rfl (run_e h (by kernel_rfl)) (run_e h (by kernel_rfl)) q)
theorem pkW (q : Ph ws dx 47 45 [.hnd, U0, .lst WW] h = .ok (.tup [x, .bl b]) h') : denMs (Ph ws dx 47) (psiOf ws) noThk (dpM 23 bd_law_1) [sl0, .val .hnd, sl2, sl3, sl4, .val (.lst WW), sl6, sl7, sl8, sl9, sl10, sl11, sl12, sl13, sl14, sl15, sl16, sl17, sl18, sl19, sl20, sl21, sl22] h = denMs (Ph ws dx 47) (psiOf ws) noThk (dpM 24 bd_law_1) [sl0, .val .hnd, sl2, sl3, sl4, .val (.lst WW), sl6, sl7, sl8, sl9, sl10, sl11, sl12, sl13, sl14, sl15, sl16, sl17, sl18, sl19, .val x, .val (.bl b), sl22] h' :=
  ms_hd (b := dpM 23 bd_law_1) (m_pick rfl (run_e h (by kernel_rfl)) (run_e h (by kernel_rfl)) q)
theorem chD_b00  (hx : x ∈ WQ ∨ ∃ o, x = D.lst [o]) (h : HS) : denMs (Ph ws dx 47) (psiOf ws) noThk (dpM 14 bd_law_1) [sl0, sl1, sl2, sl3, sl4, sl5, sl6, sl7, sl8, sl9, .val x, .val (.bl false), sl12, sl13, .val y, .val (.bl false), .val z, .val (.bl false), sl18, sl19, sl20, sl21, sl22] h = denMs (Ph ws dx 47) (psiOf ws) noThk (dpM 17 bd_law_1) [sl0, sl1, sl2, sl3, .own (.lst [.str "quarter", .str "quarter"]), sl5, sl6, .val (.lst [.tup [.str "quarter", .bl false], .tup [.str "corner", .bl false], .tup [.str "corner", .bl false]]), sl8, sl9, .val x, .val (.bl false), sl12, sl13, .val y, .val (.bl false), .val z, .val (.bl false), sl18, sl19, sl20, sl21, sl22] h := by
  refine forW (P := fun x => denMs (Ph ws dx 47) (psiOf ws) noThk (dpM 14 bd_law_1) [sl0, sl1, sl2, sl3, sl4, sl5, sl6, sl7, sl8, sl9, .val x, .val (.bl false), sl12, sl13, .val y, .val (.bl false), .val z, .val (.bl false), sl18, sl19, sl20, sl21, sl22] h = denMs (Ph ws dx 47) (psiOf ws) noThk (dpM 17 bd_law_1) [sl0, sl1, sl2, sl3, .own (.lst [.str "quarter", .str "quarter"]), sl5, sl6, .val (.lst [.tup [.str "quarter", .bl false], .tup [.str "corner", .bl false], .tup [.str "corner", .bl false]]), sl8, sl9, .val x, .val (.bl false), sl12, sl13, .val y, .val (.bl false), .val z, .val (.bl false), sl18, sl19, sl20, sl21, sl22] h) (all10 ?_ ?_ ?_ ?_ ?_ ?_ ?_ ?_ ?_ ?_) (fun o => ?_) hx <;> exact ms_tk 3 (dpM 14 bd_law_1) _ _ (run_nx h (by kernel_rfl))
theorem chD_b01  (hx : x ∈ WQ ∨ ∃ o, x = D.lst [o]) (h : HS) : denMs (Ph ws dx 47) (psiOf ws) noThk (dpM 14 bd_law_1) [sl0, sl1, sl2, sl3, sl4, sl5, sl6, sl7, sl8, sl9, .val x, .val (.bl false), sl12, sl13, .val y, .val (.bl false), .val z, .val (.bl true), sl18, sl19, sl20, sl21, sl22] h = denMs (Ph ws dx 47) (psiOf ws) noThk (dpM 17 bd_law_1) [sl0, sl1, sl2, sl3, .own (.lst [.str "quarter", .str "quarter"]), sl5, sl6, .val (.lst [.tup [.str "quarter", .bl false], .tup [.str "corner", .bl false], .tup [.str "corner", .bl true]]), sl8, sl9, .val x, .val (.bl false), sl12, sl13, .val y, .val (.bl false), .val z, .val (.bl true), sl18, sl19, sl20, sl21, sl22] h := by
  refine forW (P := fun x => denMs (Ph ws dx 47) (psiOf ws) noThk (dpM 14 bd_law_1) [sl0, sl1, sl2, sl3, sl4, sl5, sl6, sl7, sl8, sl9, .val x, .val (.bl false), sl12, sl13, .val y, .val (.bl false), .val z, .val (.bl true), sl18, sl19, sl20, sl21, sl22] h = denMs (Ph ws dx 47) (psiOf ws) noThk (dpM 17 bd_law_1) [sl0, sl1, sl2, sl3, .own (.lst [.str "quarter", .str "quarter"]), sl5, sl6, .val (.lst [.tup [.str "quarter", .bl false], .tup [.str "corner", .bl false], .tup [.str "corner", .bl true]]), sl8, sl9, .val x, .val (.bl false), sl12, sl13, .val y, .val (.bl false), .val z, .val (.bl true), sl18, sl19, sl20, sl21, sl22] h) (all10 ?_ ?_ ?_ ?_ ?_ ?_ ?_ ?_ ?_ ?_) (fun o => ?_) hx <;> exact ms_tk 3 (dpM 14 bd_law_1) _ _ (run_nx h (by kernel_rfl))
theorem chD_b10  (hx : x ∈ WQ ∨ ∃ o, x = D.lst [o]) (h : HS) : denMs (Ph ws dx 47) (psiOf ws) noThk (dpM 14 bd_law_1) [sl0, sl1, sl2, sl3, sl4, sl5, sl6, sl7, sl8, sl9, .val x, .val (.bl false), sl12, sl13, .val y, .val (.bl true), .val z, .val (.bl false), sl18, sl19, sl20, sl21, sl22] h = denMs (Ph ws dx 47) (psiOf ws) noThk (dpM 17 bd_law_1) [sl0, sl1, sl2, sl3, .own (.lst [.str "quarter", .str "quarter"]), sl5, sl6, .val (.lst [.tup [.str "quarter", .bl false], .tup [.str "corner", .bl true], .tup [.str "corner", .bl false]]), sl8, sl9, .val x, .val (.bl false), sl12, sl13, .val y, .val (.bl true), .val z, .val (.bl false), sl18, sl19, sl20, sl21, sl22] h := by
  refine forW (P := fun x => denMs (Ph ws dx 47) (psiOf ws) noThk (dpM 14 bd_law_1) [sl0, sl1, sl2, sl3, sl4, sl5, sl6, sl7, sl8, sl9, .val x, .val (.bl false), sl12, sl13, .val y, .val (.bl true), .val z, .val (.bl false), sl18, sl19, sl20, sl21, sl22] h = denMs (Ph ws dx 47) (psiOf ws) noThk (dpM 17 bd_law_1) [sl0, sl1, sl2, sl3, .own (.lst [.str "quarter", .str "quarter"]), sl5, sl6, .val (.lst [.tup [.str "quarter", .bl false], .tup [.str "corner", .bl true], .tup [.str "corner", .bl false]]), sl8, sl9, .val x, .val (.bl false), sl12, sl13, .val y, .val (.bl true), .val z, .val (.bl false), sl18, sl19, sl20, sl21, sl22] h) (all10 ?_ ?_ ?_ ?_ ?_ ?_ ?_ ?_ ?_ ?_) (fun o => ?_) hx <;> exact ms_tk 3 (dpM 14 bd_law_1) _ _ (run_nx h (by kernel_rfl))
theorem chD_b11  (hx : x ∈ WQ ∨ ∃ o, x = D.lst [o]) (h : HS) : denMs (Ph ws dx 47) (psiOf ws) noThk (dpM 14 bd_law_1) [sl0, sl1, sl2, sl3, sl4, sl5, sl6, sl7, sl8, sl9, .val x, .val (.bl false), sl12, sl13, .val y, .val (.bl true), .val z, .val (.bl true), sl18, sl19, sl20, sl21, sl22] h = denMs (Ph ws dx 47) (psiOf ws) noThk (dpM 17 bd_law_1) [sl0, sl1, sl2, sl3, .own (.lst [.str "quarter", .str "quarter"]), sl5, sl6, .val (.lst [.tup [.str "quarter", .bl false], .tup [.str "corner", .bl true], .tup [.str "corner", .bl true]]), sl8, sl9, .val x, .val (.bl false), sl12, sl13, .val y, .val (.bl true), .val z, .val (.bl true), sl18, sl19, sl20, sl21, sl22] h := by
  refine forW (P := fun x => denMs (Ph ws dx 47) (psiOf ws) noThk (dpM 14 bd_law_1) [sl0, sl1, sl2, sl3, sl4, sl5, sl6, sl7, sl8, sl9, .val x, .val (.bl false), sl12, sl13, .val y, .val (.bl true), .val z, .val (.bl true), sl18, sl19, sl20, sl21, sl22] h = denMs (Ph ws dx 47) (psiOf ws) noThk (dpM 17 bd_law_1) [sl0, sl1, sl2, sl3, .own (.lst [.str "quarter", .str "quarter"]), sl5, sl6, .val (.lst [.tup [.str "quarter", .bl false], .tup [.str "corner", .bl true], .tup [.str "corner", .bl true]]), sl8, sl9, .val x, .val (.bl false), sl12, sl13, .val y, .val (.bl true), .val z, .val (.bl true), sl18, sl19, sl20, sl21, sl22] h) (all10 ?_ ?_ ?_ ?_ ?_ ?_ ?_ ?_ ?_ ?_) (fun o => ?_) hx <;> exact ms_tk 3 (dpM 14 bd_law_1) _ _ (run_nx h (by kernel_rfl))
theorem chD_a0  (hy : y ∈ CW ∨ ∃ o, y = D.lst [o]) (h : HS) : denMs (Ph ws dx 47) (psiOf ws) noThk (dpM 14 bd_law_1) [sl0, sl1, sl2, sl3, sl4, sl5, sl6, sl7, sl8, sl9, .val R0, .val (.bl true), sl12, sl13, .val y, .val (.bl false), .val z, .val (.bl false), sl18, sl19, sl20, sl21, sl22] h = denMs (Ph ws dx 47) (psiOf ws) noThk (dpM 17 bd_law_1) [sl0, sl1, sl2, sl3, .own (.lst [.str "corner", .str "corner"]), sl5, sl6, .val (.lst [.tup [.str "quarter", .bl true], .tup [.str "corner", .bl false], .tup [.str "corner", .bl false]]), sl8, sl9, .val R0, .val (.bl true), sl12, sl13, .val y, .val (.bl false), .val z, .val (.bl false), sl18, sl19, sl20, sl21, sl22] h := by
  refine forW (P := fun y => denMs (Ph ws dx 47) (psiOf ws) noThk (dpM 14 bd_law_1) [sl0, sl1, sl2, sl3, sl4, sl5, sl6, sl7, sl8, sl9, .val R0, .val (.bl true), sl12, sl13, .val y, .val (.bl false), .val z, .val (.bl false), sl18, sl19, sl20, sl21, sl22] h = denMs (Ph ws dx 47) (psiOf ws) noThk (dpM 17 bd_law_1) [sl0, sl1, sl2, sl3, .own (.lst [.str "corner", .str "corner"]), sl5, sl6, .val (.lst [.tup [.str "quarter", .bl true], .tup [.str "corner", .bl false], .tup [.str "corner", .bl false]]), sl8, sl9, .val R0, .val (.bl true), sl12, sl13, .val y, .val (.bl false), .val z, .val (.bl false), sl18, sl19, sl20, sl21, sl22] h) (all4 ?_ ?_ ?_ ?_) (fun o => ?_) hy <;> exact ms_tk 3 (dpM 14 bd_law_1) _ _ (run_nx h (by kernel_rfl))
theorem chD_a1  (hy : y ∈ CW ∨ ∃ o, y = D.lst [o]) (h : HS) : denMs (Ph ws dx 47) (psiOf ws) noThk (dpM 14 bd_law_1) [sl0, sl1, sl2, sl3, sl4, sl5, sl6, sl7, sl8, sl9, .val R0, .val (.bl true), sl12, sl13, .val y, .val (.bl false), .val z, .val (.bl true), sl18, sl19, sl20, sl21, sl22] h = denMs (Ph ws dx 47) (psiOf ws) noThk (dpM 17 bd_law_1) [sl0, sl1, sl2, sl3, .own (.lst [.str "corner", .str "corner"]), sl5, sl6, .val (.lst [.tup [.str "quarter", .bl true], .tup [.str "corner", .bl false], .tup [.str "corner", .bl true]]), sl8, sl9, .val R0, .val (.bl true), sl12, sl13, .val y, .val (.bl false), .val z, .val (.bl true), sl18, sl19, sl20, sl21, sl22] h := by
  refine forW (P := fun y => denMs (Ph ws dx 47) (psiOf ws) noThk (dpM 14 bd_law_1) [sl0, sl1, sl2, sl3, sl4, sl5, sl6, sl7, sl8, sl9, .val R0, .val (.bl true), sl12, sl13, .val y, .val (.bl false), .val z, .val (.bl true), sl18, sl19, sl20, sl21, sl22] h = denMs (Ph ws dx 47) (psiOf ws) noThk (dpM 17 bd_law_1) [sl0, sl1, sl2, sl3, .own (.lst [.str "corner", .str "corner"]), sl5, sl6, .val (.lst [.tup [.str "quarter", .bl true], .tup [.str "corner", .bl false], .tup [.str "corner", .bl true]]), sl8, sl9, .val R0, .val (.bl true), sl12, sl13, .val y, .val (.bl false), .val z, .val (.bl true), sl18, sl19, sl20, sl21, sl22] h) (all4 ?_ ?_ ?_ ?_) (fun o => ?_) hy <;> exact ms_tk 3 (dpM 14 bd_law_1) _ _ (run_nx h (by kernel_rfl))
theorem chD_z  (hz : z ∈ CW ∨ ∃ o, z = D.lst [o]) (h : HS) : denMs (Ph ws dx 47) (psiOf ws) noThk (dpM 14 bd_law_1) [sl0, sl1, sl2, sl3, sl4, sl5, sl6, sl7, sl8, sl9, .val R0, .val (.bl true), sl12, sl13, .val (.int 0), .val (.bl true), .val z, .val (.bl false), sl18, sl19, sl20, sl21, sl22] h = denMs (Ph ws dx 47) (psiOf ws) noThk (dpM 17 bd_law_1) [sl0, sl1, sl2, sl3, .own (.lst [.str "corner", .str "corner"]), sl5, sl6, .val (.lst [.tup [.str "quarter", .bl true], .tup [.str "corner", .bl true], .tup [.str "corner", .bl false]]), sl8, sl9, .val R0, .val (.bl true), sl12, sl13, .val (.int 0), .val (.bl true), .val z, .val (.bl false), sl18, sl19, sl20, sl21, sl22] h := by
  refine forW (P := fun z => denMs (Ph ws dx 47) (psiOf ws) noThk (dpM 14 bd_law_1) [sl0, sl1, sl2, sl3, sl4, sl5, sl6, sl7, sl8, sl9, .val R0, .val (.bl true), sl12, sl13, .val (.int 0), .val (.bl true), .val z, .val (.bl false), sl18, sl19, sl20, sl21, sl22] h = denMs (Ph ws dx 47) (psiOf ws) noThk (dpM 17 bd_law_1) [sl0, sl1, sl2, sl3, .own (.lst [.str "corner", .str "corner"]), sl5, sl6, .val (.lst [.tup [.str "quarter", .bl true], .tup [.str "corner", .bl true], .tup [.str "corner", .bl false]]), sl8, sl9, .val R0, .val (.bl true), sl12, sl13, .val (.int 0), .val (.bl true), .val z, .val (.bl false), sl18, sl19, sl20, sl21, sl22] h) (all4 ?_ ?_ ?_ ?_) (fun o => ?_) hz <;> exact ms_tk 3 (dpM 14 bd_law_1) _ _ (run_nx h (by kernel_rfl))
theorem chD_g  (h : HS) : denMs (Ph ws dx 47) (psiOf ws) noThk (dpM 14 bd_law_1) [sl0, sl1, sl2, sl3, sl4, sl5, sl6, sl7, sl8, sl9, .val R0, .val (.bl true), sl12, sl13, .val (.int 0), .val (.bl true), .val (.int 2), .val (.bl true), sl18, sl19, sl20, sl21, sl22] h = denMs (Ph ws dx 47) (psiOf ws) noThk (dpM 17 bd_law_1) [sl0, sl1, sl2, sl3, .own (.lst [.str "let", .str "let"]), sl5, sl6, .val (.lst [.tup [.str "quarter", .bl true], .tup [.str "corner", .bl true], .tup [.str "corner", .bl true]]), sl8, sl9, .val R0, .val (.bl true), sl12, sl13, .val (.int 0), .val (.bl true), .val (.int 2), .val (.bl true), sl18, sl19, sl20, sl21, sl22] h := ms_tk 3 (dpM 14 bd_law_1) _ _ (run_nx h (by kernel_rfl))
theorem chD (hq : OkP R0 WQ x b) (ha : OkP (.int 0) CW y c) (hb : OkP (.int 2) CW z d) (h : HS) (sl0 sl1 sl2 sl3 sl4 sl5 sl6 sl7 sl8 sl9 sl12 sl13 sl18 sl19 sl20 sl21 sl22 : PD.Slot) : ∃ w4 w7 : PD.Slot, denMs (Ph ws dx 47) (psiOf ws) noThk (dpM 14 bd_law_1) [sl0, sl1, sl2, sl3, sl4, sl5, sl6, sl7, sl8, sl9, .val x, .val (.bl b), sl12, sl13, .val y, .val (.bl c), .val z, .val (.bl d), sl18, sl19, sl20, sl21, sl22] h = denMs (Ph ws dx 47) (psiOf ws) noThk (dpM 17 bd_law_1) [sl0, sl1, sl2, sl3, w4, sl5, sl6, w7, sl8, sl9, .val x, .val (.bl b), sl12, sl13, .val y, .val (.bl c), .val z, .val (.bl d), sl18, sl19, sl20, sl21, sl22] h := by
  rcases hq with ⟨rfl, rfl⟩ | ⟨hx, rfl⟩
  · rcases ha with ⟨rfl, rfl⟩ | ⟨hy, rfl⟩
    · rcases hb with ⟨rfl, rfl⟩ | ⟨hz, rfl⟩
      · exact ⟨_, _, chD_g h⟩
      · exact ⟨_, _, chD_z hz h⟩
    · cases d
      · exact ⟨_, _, chD_a0 hy h⟩
      · exact ⟨_, _, chD_a1 hy h⟩
  · cases c
    · cases d
      · exact ⟨_, _, chD_b00 hx h⟩
      · exact ⟨_, _, chD_b01 hx h⟩
    · cases d
      · exact ⟨_, _, chD_b10 hx h⟩
      · exact ⟨_, _, chD_b11 hx h⟩
theorem chA (hq : OkP R0 WQ x b) (h : HS) (sl0 sl1 sl2 sl3 sl4 sl5 sl6 sl7 sl8 sl9 sl12 sl13 sl14 sl15 sl16 sl17 sl18 sl19 sl20 sl21 sl22 : PD.Slot) : ∃ w4 : PD.Slot, denMs (Ph ws dx 47) (psiOf ws) noThk (dpM 2 bd_law_1) [sl0, sl1, sl2, sl3, sl4, sl5, sl6, sl7, sl8, sl9, .val x, .val (.bl b), sl12, sl13, sl14, sl15, sl16, sl17, sl18, sl19, sl20, sl21, sl22] h = denMs (Ph ws dx 47) (psiOf ws) noThk (dpM 7 bd_law_1) [sl0, sl1, sl2, sl3, w4, sl5, .val cls1, sl7, sl8, sl9, .val x, .val (.bl b), sl12, sl13, sl14, sl15, sl16, sl17, sl18, sl19, sl20, sl21, sl22] h := by
  rcases hq with ⟨rfl, rfl⟩ | ⟨hx, rfl⟩
  · exact ⟨_, chA_good h⟩
  · exact ⟨_, chA_bad hx h⟩

theorem turn {hs : HS} (I : HandOk hs) (sl0 sl3 sl4 sl5 sl6 sl7 sl8 sl9 sl10 sl11 sl12 sl13 sl14 sl15 sl16 sl17 sl18 sl19 sl20 sl21 sl22 : PD.Slot) : ∃ y4 y5 y6 y7 y10 y11 y12 y13 y14 y15 y16 y17 y18 y19 y20 y21 hs', HandOk hs' ∧ denMs (Ph ws dx 47) (psiOf ws) noThk bd_law_1 [sl0, .val .hnd, .val R0, sl3, sl4, sl5, sl6, sl7, sl8, sl9, sl10, sl11, sl12, sl13, sl14, sl15, sl16, sl17, sl18, sl19, sl20, sl21, sl22] hs = .ok (.nx [sl0, .val .hnd, .val R0, sl3, y4, y5, y6, y7, sl8, sl9, y10, y11, y12, y13, y14, y15, y16, y17, y18, y19, y20, y21, sl22]) hs' := by
  obtain ⟨x, b, h1, I1, q1, o1⟩ := ok_pick (R := R0) (xs := WQ) (by show 10 ≤ 100; decide) I
  obtain ⟨t, c, h2, I2, q2, o2⟩ := ok_pick (R := T0) (xs := WT) (by show 7 ≤ 100; decide) I1
  obtain ⟨y, ga, h3, I3, q3, o3⟩ := ok_pick (R := .int 0) (xs := CW) (by show 4 ≤ 100; decide) I2
  obtain ⟨z, gb, h4, I4, q4, o4⟩ := ok_pick (R := .int 2) (xs := CW) (by show 4 ≤ 100; decide) I3
  obtain ⟨s, gs, h5, I5, q5, o5⟩ := ok_pick (R := S0) (xs := WS) (by show 8 ≤ 100; decide) I4
  obtain ⟨u, gu, h6, I6, q6, o6⟩ := ok_pick (R := U0) (xs := WW) (by show 7 ≤ 100; decide) I5
  obtain ⟨w1, eA⟩ := chA o1 h1 sl0 (.val .hnd) (.val R0) sl3 sl4 (.own (.lst WQ8)) sl6 sl7 sl8 sl9 sl12 sl13 sl14 sl15 sl16 sl17 sl18 sl19 sl20 sl21 sl22
  obtain ⟨w4, w7, eD⟩ := chD o1 o3 o4 h4 sl0 (.val .hnd) (.val R0) sl3 w1 (.val (.lst WT)) (.val cls1) sl7 sl8 sl9 (.val t) (.val (.bl c)) sl18 sl19 sl20 sl21 sl22
  refine ⟨w4, .val (.lst WW), .val cls1, w7, .val x, .val (.bl b), .val t, .val (.bl c), .val y, .val (.bl ga), .val z, .val (.bl gb), .val s, .val (.bl gs), .val u, .val (.bl gu), h6, I6, ?_⟩
  refine (ch0 hs).trans ?_
  refine (ch1 ((q1).at 47 (by decide) (by decide))).trans ?_
  refine eA.trans ?_
  refine (chB h1).trans ?_
  refine (pkT ((q2).at 47 (by decide) (by decide))).trans ?_
  refine (chC o1 o2 h2).trans ?_
  refine (pkA ((q3).at 47 (by decide) (by decide))).trans ?_
  refine (pkB ((q4).at 47 (by decide) (by decide))).trans ?_
  refine eD.trans ?_
  refine (chG h4).trans ?_
  refine (pkS ((q5).at 47 (by decide) (by decide))).trans ?_
  refine (chE o1 o5 h5).trans ?_
  refine (chH h5).trans ?_
  refine (pkW ((q6).at 47 (by decide) (by decide))).trans ?_
  exact (chF o1 o6 h6).trans rfl
theorem turns {hs : HS} (I : HandOk hs) (sl0 sl3 sl4 sl5 sl6 sl7 sl8 sl9 sl10 sl11 sl12 sl13 sl14 sl15 sl16 sl17 sl18 sl19 sl20 sl21 sl22 : PD.Slot) : ∃ y3 y4 y5 y6 y7 y10 y11 y12 y13 y14 y15 y16 y17 y18 y19 y20 y21 hs', denMs (Ph ws dx 47) (psiOf ws) noThk (dpM 1 ir_law) [sl0, .val .hnd, .val R0, sl3, sl4, sl5, sl6, sl7, sl8, sl9, sl10, sl11, sl12, sl13, sl14, sl15, sl16, sl17, sl18, sl19, sl20, sl21, sl22] hs = denMs (Ph ws dx 47) (psiOf ws) noThk (dpM 2 ir_law) [sl0, .val .hnd, .val R0, y3, y4, y5, y6, y7, sl8, sl9, y10, y11, y12, y13, y14, y15, y16, y17, y18, y19, y20, y21, sl22] hs' := by
  obtain ⟨ρ', h', e, ⟨y3, y4, y5, y6, y7, y10, y11, y12, y13, y14, y15, y16, y17, y18, y19, y20, y21, rfl⟩, I'⟩ := for_inv (Φ := Ph ws dx 47) (Ψ := psiOf ws) (thk := noThk) (t := .nm 3) (s := .rng1 (.lit (.int 6))) (b := bd_law_1) (its := rangeD 0 6) (ρ := [sl0, .val .hnd, .val R0, sl3, sl4, sl5, sl6, sl7, sl8, sl9, sl10, sl11, sl12, sl13, sl14, sl15, sl16, sl17, sl18, sl19, sl20, sl21, sl22]) (h := hs) (h1 := hs)
    (fun _ ρ h' => (∃ y3 y4 y5 y6 y7 y10 y11 y12 y13 y14 y15 y16 y17 y18 y19 y20 y21, ρ = [sl0, .val .hnd, .val R0, y3, y4, y5, y6, y7, sl8, sl9, y10, y11, y12, y13, y14, y15, y16, y17, y18, y19, y20, y21, sl22]) ∧ HandOk h') (s_rng1 (n := 6) (by simp only [den, atom]; rfl) (by decide)) ⟨⟨sl3, sl4, sl5, sl6, sl7, sl10, sl11, sl12, sl13, sl14, sl15, sl16, sl17, sl18, sl19, sl20, sl21, rfl⟩, I⟩ (by
    rintro i d ρ h' hd ⟨⟨y3, y4, y5, y6, y7, y10, y11, y12, y13, y14, y15, y16, y17, y18, y19, y20, y21, rfl⟩, I'⟩
    obtain ⟨z4, z5, z6, z7, z10, z11, z12, z13, z14, z15, z16, z17, z18, z19, z20, z21, h2, I2, e⟩ := turn I' sl0 (.val d) y4 y5 y6 y7 sl8 sl9 y10 y11 y12 y13 y14 y15 y16 y17 y18 y19 y20 y21 sl22
    exact ⟨_, _, h2, rfl, .inl e, ⟨_, _, _, _, _, _, _, _, _, _, _, _, _, _, _, _, _, rfl⟩, I2⟩)
  exact ⟨y3, y4, y5, y6, y7, y10, y11, y12, y13, y14, y15, y16, y17, y18, y19, y20, y21, h', ms_hd (b := dpM 1 ir_law) e⟩
theorem hd_ok (h : HS) : denMs (Ph ws dx 47) (psiOf ws) noThk ir_law [sl0, sl1, sl2, sl3, sl4, sl5, sl6, sl7, sl8, sl9, sl10, sl11, sl12, sl13, sl14, sl15, sl16, sl17, sl18, sl19, sl20, sl21, sl22] h = denMs (Ph ws dx 47) (psiOf ws) noThk (dpM 1 ir_law) [sl0, sl1, .val R0, sl3, sl4, sl5, sl6, sl7, sl8, sl9, sl10, sl11, sl12, sl13, sl14, sl15, sl16, sl17, sl18, sl19, sl20, sl21, sl22] h := ms_tk 1 ir_law _ _ (run_nx h (by kernel_rfl))
theorem tail_ok (h : HS) : denMs (Ph ws dx 47) (psiOf ws) noThk (dpM 2 ir_law) [sl0, sl1, .val R0, sl3, sl4, sl5, sl6, sl7, sl8, sl9, sl10, sl11, sl12, sl13, sl14, sl15, sl16, sl17, sl18, sl19, sl20, sl21, sl22] h = .ok (.rt (.bl true)) h := run_rt h (by kernel_rfl)
theorem lawTrue : LawTrue lx.ws lx.m0 lx.dx lx.d := by
  intro ns _ _
  rw [ph_all]
  obtain ⟨y3, y4, y5, y6, y7, y10, y11, y12, y13, y14, y15, y16, y17, y18, y19, y20, y21, h', e⟩ := turns (hand0_ok lx.m0 ns) .no .no .no .no .no .no .no .no .no .no .no .no .no .no .no .no .no .no .no .no .no
  exact ⟨h', (hd_ok _).trans (e.trans (tail_ok h'))⟩

end Lk80
open PySem PySem.W PySem.Calls PyProof.Rows
theorem PySem.Challenge.cw_streethouse_k80_refusals_of_ploughs_holds : PySem.Challenge.rw_streethouse_k80_refusals_of_ploughs.Holds := by
  w_on; o_law
  refine HandSHeadRun.head_any (r := OpenLaw.row PySem.Challenge.rw_streethouse_k80_refusals_of_ploughs) (q := view (OpenLaw.row PySem.Challenge.rw_streethouse_k80_refusals_of_ploughs).prog [70]) (H := Lk80.hk_) (ob := Lk80.ob_) (M := 4000) (loose := Lk80.loose) (d := HandSHeadRun.topDef (OpenLaw.row PySem.Challenge.rw_streethouse_k80_refusals_of_ploughs).prog 70) (kwd := []) Lk80.ob_eq
    (by kernel_rfl) (fun s => by kernel_rfl) Lk80.headrun (by kernel_rfl) (by kernel_rfl) (by kernel_rfl) (by rfl) (by first | assumption | decide +kernel) (by decide +kernel) ⟨rfl, rfl, rfl, rfl, rfl, by decide +kernel⟩ ?hw ?hc
  case hw => w_witness2
  case hc =>
    refine LamX.walk_ofTsE (l := PySem.Challenge.rw_streethouse_k80_refusals_of_ploughs) (n := 63) (k := 145) (x := "script") (CX := fun w => L2.CX (PySem.Challenge.rw_streethouse_k80_refusals_of_ploughs).prog w) rfl (by decide) (by kernel_rfl) ⟨rfl, by decide, by decide⟩ ?F (fun w H s e s' z => by obtain ⟨_, _, _, _, _, _, _, _, _, _, _, _, z⟩ := z; exact z)
    intro w mg fa h Y G hmg0
    obtain ⟨K, KX, c⟩ := Y
    have hmg : mg ("law" : PySem.Str) = some (.ref fa) := by
      have e : (HandSHeadRun.topDef (OpenLaw.row PySem.Challenge.rw_streethouse_k80_refusals_of_ploughs).prog 70).name = ("law" : PySem.Str) := by kernel_rfl
      rw [← e]
      exact hmg0
    exact ⟨K, KX, PD.law_at (l := Lk80.lx) Lk80.lxok KX G hmg c Lk80.lawTrue⟩

