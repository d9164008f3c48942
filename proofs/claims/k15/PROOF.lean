import PyProof.Rows.All
import Wide.All
import OpenK.AllK
import Wide.FinOn
import PySem.Challenge.RW_threeshelves_k15_whole_files_go_alone
import HandS.ForMost
import KE.SortData
import HandS.Star
import KE.KDictKeyed
import HandS.Style
import HandS.TupAny
import HandS.TupMul
import HandS.CallLocal
import HandS.Wide
import HandS.Text
import HandS.Deep
import HandS.RevTup
import HandS.Iter
import HandS.Comp
import HandS.IsInst
import HandS.AnyAll
import PyProof.Rows.TupDisplay
import HandS.Conv
import HandS.DictComp
import HandS.Zip
import KE.GoesMore
import KE.KDictWalk
import KE.SortKeyHeap
import HandS.SortKw
import HandS.ExcValue
import PyProof.FactsAll.list_3
import PyProof.FactsAll.list_0
import PyProof.FactsAll.dict_3
import HandS.Flow
import HandS.Defaults
import HandS.Exc
import HandS.Words
import HandS.HeadHook1
import HandS.HeadHook2
import HandS.Head0
import HandS.Head1
import HandS.Head2
import HandS.HeadEnd
import KE.KStateDown
set_option Elab.async false
set_option linter.all false
set_option maxRecDepth 100000
/-! A1: values, stores, the small terms and what it computes. -/
namespace TZ
open PySem

/-! ### values without addresses -/
inductive W where
  | non | bl (b : Bool) | int (i : Int) | str (x : Str)
  | tup (ws : List W) | lst (ws : List W) | dct (ks us : List W)
  | ref (n : Nat) | fn (f : Nat)
  deriving Inhabited

mutual
def W.same : W → W → Bool
  | .non, .non => true
  | .bl a, .bl b => a == b
  | .int a, .int b => a == b
  | .str a, .str b => a == b
  | .tup a, .tup b => sames a b
  | .lst a, .lst b => sames a b
  | .dct a c, .dct b d => sames a b && sames c d
  | .ref a, .ref b => a == b
  | .fn a, .fn b => a == b
  | _, _ => false
def sames : List W → List W → Bool
  | [], [] => true
  | a :: as, b :: bs => W.same a b && sames as bs
  | _, _ => false
end
mutual
theorem W.same_self : ∀ a : W, W.same a a = true
  | .non => rfl
  | .bl a => by simp [W.same]
  | .int a => by simp [W.same]
  | .str a => by simp [W.same]
  | .tup a => by simp [W.same, sames_self a]
  | .lst a => by simp [W.same, sames_self a]
  | .dct a c => by simp [W.same, sames_self a, sames_self c]
  | .ref a => by simp [W.same]
  | .fn a => by simp [W.same]
theorem sames_self : ∀ a : List W, sames a a = true
  | [] => rfl
  | a :: as => by simp [sames, W.same_self a, sames_self as]
end
mutual
theorem W.eq_of_same : ∀ a b : W, W.same a b = true → a = b
  | .non, b, h => by cases b <;> simp_all [W.same]
  | .bl a, b, h => by cases b <;> simp_all [W.same]
  | .int a, b, h => by cases b <;> simp_all [W.same]
  | .str a, b, h => by cases b <;> simp_all [W.same]
  | .tup a, b, h => by
    cases b <;> simp only [W.same, Bool.false_eq_true] at h
    rw [eq_of_sames a _ h]
  | .lst a, b, h => by
    cases b <;> simp only [W.same, Bool.false_eq_true] at h
    rw [eq_of_sames a _ h]
  | .dct a c, b, h => by
    cases b <;> simp only [W.same, Bool.false_eq_true, Bool.and_eq_true] at h
    rw [eq_of_sames a _ h.1, eq_of_sames c _ h.2]
  | .ref a, b, h => by cases b <;> simp_all [W.same]
  | .fn a, b, h => by cases b <;> simp_all [W.same]
theorem eq_of_sames : ∀ a b : List W, sames a b = true → a = b
  | [], b, h => by cases b <;> simp_all [sames]
  | a :: as, b, h => by
    cases b with
    | nil => simp [sames] at h
    | cons b bs =>
      simp only [sames, Bool.and_eq_true] at h
      rw [W.eq_of_same a b h.1, eq_of_sames as bs h.2]
end
instance : DecidableEq W := fun a b => if h : W.same a b = true then .isTrue (W.eq_of_same a b h) else .isFalse fun e => h (e ▸ W.same_self a)

inductive Ob where
  | lst (ws : List W) | dct (ks us : List W)
  deriving DecidableEq, Inhabited

abbrev Sto := List Ob
abbrev Rho := List (Option W)

/-! ### equality, as data -/
mutual
def W.py : W → PyData
  | .bl b => .bool b
  | .int i => .int i
  | .str x => .str x
  | .tup ws => .tuple (pys ws)
  | .lst ws => .list (pys ws)
  | .non | .dct _ _ | .ref _ | .fn _ => .none
def pys : List W → List PyData
  | [] => []
  | w :: ws => W.py w :: pys ws
end
mutual
/-- data all through: nothing that is a place, a def or a dict; not deeper than n -/
def W.flat : Nat → W → Bool
  | _, .non | _, .bl _ | _, .int _ | _, .str _ => true
  | 0, .tup _ | 0, .lst _ => false
  | n + 1, .tup ws | n + 1, .lst ws => flats n ws
  | _, .dct _ _ | _, .ref _ | _, .fn _ => false
def flats : Nat → List W → Bool
  | _, [] => true
  | n, w :: ws => W.flat n w && flats n ws
end
def W.eqv (a b : W) : Bool := PyData.eqv a.py b.py

/-! ### the store -/
abbrev M (α : Type) := Sto → Option (α × Sto)
@[reducible] def M.ret {α : Type} (a : α) : M α := fun S => some (a, S)
@[reducible] def M.bind {α β : Type} (m : M α) (f : α → M β) : M β := fun S => match m S with
  | some (a, S') => f a S'
  | none => none
instance : Monad M where
  pure := M.ret
  bind := M.bind
@[reducible] def M.no {α : Type} : M α := fun _ => none
@[reducible] def M.opt {α : Type} : Option α → M α
  | some a => M.ret a
  | none => M.no
@[reducible] def M.grd (b : Bool) : M Unit := fun S => if b = true then some ((), S) else none
@[reducible] def M.new (o : Ob) : M W := fun S => some (.ref S.length, S ++ [o])

def lineN : Nat := 16777216
@[reducible] def M.fits (n : Nat) : M Unit := M.grd (decide (n ≤ lineN))

/-- the items of a list: a frozen one, or one of the store -/
def listOf (S : Sto) : W → Option (List W)
  | .lst ws => some ws
  | .ref n => match S[n]? with
    | some (.lst ws) => some ws
    | _ => none
  | _ => none
/-- .. of a list or a tuple -/
def seqOf (S : Sto) : W → Option (List W)
  | .tup ws => some ws
  | w => listOf S w
def dictOf (S : Sto) : W → Option (List W × List W)
  | .dct ks us => some (ks, us)
  | .ref n => match S[n]? with
    | some (.dct ks us) => some (ks, us)
    | _ => none
  | _ => none

mutual
/-- every place put out of the way by g -/
def W.mapR (g : Nat → Option W) : W → Option W
  | .ref n => g n
  | .tup ws => (mapRs g ws).map .tup
  | .lst ws => (mapRs g ws).map .lst
  | .dct ks us => match mapRs g ks, mapRs g us with
    | some ks', some us' => some (.dct ks' us')
    | _, _ => none
  | .non => some .non
  | .bl b => some (.bl b)
  | .int i => some (.int i)
  | .str x => some (.str x)
  | .fn f => some (.fn f)
def mapRs (g : Nat → Option W) : List W → Option (List W)
  | [] => some []
  | w :: ws => match W.mapR g w, mapRs g ws with
    | some w', some ws' => some (w' :: ws')
    | _, _ => none
end
/-- the object at r, frozen; places below n₀ stay -/
def thaw (n₀ : Nat) (S : Sto) : Nat → Nat → Option W
  | 0, r => if r < n₀ then some (.ref r) else none
  | k + 1, r => if r < n₀ then some (.ref r) else match S[r]? with
    | some (.lst ws) => (mapRs (thaw n₀ S k) ws).map .lst
    | some (.dct ks us) => match mapRs (thaw n₀ S k) ks, mapRs (thaw n₀ S k) us with
      | some ks', some us' => some (.dct ks' us')
      | _, _ => none
    | none => none
def W.frz (n₀ : Nat) (S : Sto) (w : W) : Option W := w.mapR (thaw n₀ S 8)
mutual
/-- no place at n₀ or behind it -/
def W.under (n₀ : Nat) : W → Bool
  | .ref n => decide (n < n₀)
  | .tup ws | .lst ws => unders n₀ ws
  | .dct ks us => unders n₀ ks && unders n₀ us
  | .non | .bl _ | .int _ | .str _ | .fn _ => true
def unders (n₀ : Nat) : List W → Bool
  | [] => true
  | w :: ws => W.under n₀ w && unders n₀ ws
end
def Ob.under (n₀ : Nat) : Ob → Bool
  | .lst ws => unders n₀ ws
  | .dct ks us => unders n₀ ks && unders n₀ us
def underAll (n₀ : Nat) (S : Sto) : Bool := S.all (Ob.under n₀)

/-! ### operations on values -/
def deep : Nat := 60
/-- a value as data -/
def asData (S : Sto) (w : W) : Option W := match w.frz 0 S with
  | some w' => if w'.flat deep = true then some w' else none
  | none => none
def wEq (a b : W) : M Bool := fun S => match asData S a, asData S b with
  | some x, some y => some (W.eqv x y, S)
  | _, _ => none
def strLt (x y : Str) : Bool := decide (x.cps.toList < y.cps.toList)
def wLt (a b : W) : M Bool := fun S => match a, b with
  | .int i, .int j => some (decide (i < j), S)
  | .str x, .str y => some (strLt x y, S)
  | _, _ => none
def wLe (a b : W) : M Bool := fun S => match a, b with
  | .int i, .int j => some (decide (i ≤ j), S)
  | .str x, .str y => some (!strLt y x, S)
  | _, _ => none
def wGt (a b : W) : M Bool := fun S => match a, b with
  | .int i, .int j => some (decide (j < i), S)
  | _, _ => none
def wGe (a b : W) : M Bool := fun S => match a, b with
  | .int i, .int j => some (decide (j ≤ i), S)
  | _, _ => none
/-- keys of dicts -/
def W.leaf : W → Bool
  | .non | .bl _ | .int _ | .str _ => true
  | _ => false
mutual
def W.hk : Nat → W → Bool
  | _, .non | _, .bl _ | _, .int _ | _, .str _ => true
  | n + 1, .tup ws => hks n ws
  | _, _ => false
def hks : Nat → List W → Bool
  | _, [] => true
  | n, w :: ws => W.hk n w && hks n ws
end
def W.isTup : W → Bool
  | .tup _ => true
  | _ => false
def W.tkey (w : W) : Bool := w.isTup && w.hk 8
/-- x may be asked of a dict with the keys ks -/
def keyFor (ks : List W) (x : W) : Bool := (x.leaf && ks.all W.leaf) || (x.tkey && ks.all W.tkey)
def kIdx (ks : List W) (x : W) : Option Nat := ks.findIdx? fun k => W.eqv k x
def dAt (ks us : List W) (x : W) : Option W := match kIdx ks x with
  | some i => us[i]?
  | none => none
def dHas (ks : List W) (x : W) : Bool := (kIdx ks x).isSome
def dPut (ks us : List W) (x v : W) : List W × List W := match kIdx ks x with
  | some i => (ks, us.set i v)
  | none => (ks ++ [x], us ++ [v])
mutual
/-- a key's hash, where no world's seed is in it -/
def W.nh : W → Option Int
  | .non => some (reduceHash 0xFCA86420)
  | .bl b => some (hashInt (if b = true then 1 else 0))
  | .int i => some (hashInt i)
  | .tup ws => match nhs ws with
    | some hs => some (reduceHash (Builtin.Tuple.tupleHashOf hs))
    | none => none
  | .str _ | .lst _ | .dct _ _ | .ref _ | .fn _ => none
def nhs : List W → Option (List Int)
  | [] => some []
  | w :: ws => match W.nh w, nhs ws with
    | some h, some hs => some (h :: hs)
    | _, _ => none
end
/-- the keys q may be merged into a dict with the keys p -/
def mergeOk (p q : List W) : Bool := decide (p.length + q.length ≤ lineN) && (!p.isEmpty || q.all W.leaf || match nhs q with
  | some hs => decide hs.Nodup
  | none => false)
def dMerge (ks us : List W) : List W → List W → List W × List W
  | x :: xs, v :: vs => let p := dPut ks us x v; dMerge p.1 p.2 xs vs
  | _, _ => (ks, us)

/-- x in a list, a tuple, a text, a dict -/
def anyEqv (x : W) (ws : List W) : Bool := ws.any fun w => W.eqv w x
def strIn (x y : Str) : Bool := !(Builtin.Str.occurrences y x 0 y.length 1).isEmpty
def wIn (a b : W) : M Bool := fun S => match a, b with
  | .str x, .str y => some (strIn x y, S)
  | a, b => match dictOf S b with
    | some (ks, _) => if keyFor ks a = true then some (dHas ks a, S) else none
    | none => match asData S a, asData S b with
      | some x, some (.lst ws) => some (anyEqv x ws, S)
      | some x, some (.tup ws) => some (anyEqv x ws, S)
      | _, _ => none

inductive Cop | eq | ne | lt | le | gt | ge | in_ | ni
  deriving DecidableEq
def wCmp : Cop → W → W → M Bool
  | .eq, a, b => wEq a b
  | .ne, a, b => do let c ← wEq a b; pure (!c)
  | .lt, a, b => wLt a b
  | .le, a, b => wLe a b
  | .gt, a, b => wGt a b
  | .ge, a, b => wGe a b
  | .in_, a, b => wIn a b
  | .ni, a, b => do let c ← wIn a b; pure (!c)

inductive Bop | add | sub | mul | mod | fdiv | pow
  deriving DecidableEq
def bigN : Int := 18446744073709551616
def wAdd (a b : W) : M W := fun S => match a, b with
  | .int i, .int j => some (.int (i + j), S)
  | .str x, .str y => if x.length + y.length ≤ lineN then some (.str (x ++ y), S) else none
  | .tup xs, .tup ys => if xs.length + ys.length ≤ lineN then some (.tup (xs ++ ys), S) else none
  | a, b => match listOf S a, listOf S b with
    | some xs, some ys => if xs.length + ys.length ≤ lineN then some (.lst (xs ++ ys), S) else none
    | _, _ => none
def rep {α : Type} (k : Nat) (xs : List α) : List α := (List.replicate k xs).flatten
def wMul (a b : W) : M W := fun S => match a, b with
  | .int i, .int j => if -bigN < i ∧ i < bigN then some (.int (i * j), S) else none
  | .tup xs, .int k => if xs.length ≤ 1000 ∧ xs ≠ [] ∧ 1 ≤ k ∧ k ≤ 1000 then some (.tup (rep k.toNat xs), S) else none
  | .ref n, .int k => match S[n]? with
    | some (.lst xs) => if xs.length * k.toNat ≤ lineN ∧ -1000 ≤ k ∧ k ≤ 1000 then some (.lst (rep k.toNat xs), S) else none
    | _ => none
  | _, _ => none
def wSub (a b : W) : M W := fun S => match a, b with
  | .int i, .int j => some (.int (i - j), S)
  | _, _ => none
def wMod (a b : W) : M W := fun S => match a, b with
  | .int i, .int j => if 0 < j then some (.int (i % j), S) else none
  | _, _ => none
def wFdiv (a b : W) : M W := fun S => match a, b with
  | .int i, .int j => if 0 < j ∧ j < bigN then some (.int (i / j), S) else none
  | _, _ => none
def wPow (a b : W) : M W := fun S => match a, b with
  | .int i, .int j => if 0 ≤ j ∧ j ≤ 1000 ∧ 0 ≤ i ∧ i < 1000 then some (.int (i ^ j.toNat), S) else none
  | _, _ => none
def wBin : Bop → W → W → M W
  | .add => wAdd
  | .mul => wMul
  | .sub => wSub
  | .mod => wMod
  | .fdiv => wFdiv
  | .pow => wPow

/-! ### subscripts -/
def ixOf (n : Nat) (i : Int) : Option Nat := if 0 ≤ i then (if i < n then some i.toNat else none) else if -(n : Int) ≤ i then some (i + n).toNat else none
def atOf {α : Type} (xs : List α) (i : Int) : Option α := match ixOf xs.length i with
  | some j => xs[j]?
  | none => none
def wIx (a b : W) : M W := fun S => match a, b with
  | .str x, .int i => match atOf x.cps.toList i with
    | some c => some (.str ⟨#[c]⟩, S)
    | none => none
  | a, b => match dictOf S a with
    | some (ks, us) => if keyFor ks b = true then (match dAt ks us b with
        | some u => some (u, S)
        | none => none) else none
    | none => match b, seqOf S a with
      | .int i, some xs => match atOf xs i with
        | some w => some (w, S)
        | none => none
      | _, _ => none
def endOf : W → Option (Option Int)
  | .non => some none
  | .int i => some (some i)
  | _ => none
def plOf (n d : Nat) : Option Int → Nat
  | none => d
  | some v => if v < 0 then (v + (n : Int)).toNat else min v.toNat n
def cutOf {α : Type} (xs : List α) (lo hi : Option Int) : List α := (xs.drop (plOf xs.length 0 lo)).take (plOf xs.length xs.length hi - plOf xs.length 0 lo)
def wSlc (a lo hi : W) : M W := fun S => match endOf lo, endOf hi with
  | some l, some h => match a with
    | .str x => some (.str ⟨(cutOf x.cps.toList l h).toArray⟩, S)
    | .tup xs => some (.tup (cutOf xs l h), S)
    | a => match listOf S a with
      | some xs => some (.lst (cutOf xs l h), S)
      | none => none
  | _, _ => none
/-- xs[::-1]: of a list a new one of the store -/
def wRev (a : W) : M W := fun S => match listOf S a with
  | some xs => M.new (.lst xs.reverse) S
  | none => none
def wSet (o i v : W) : M Unit := fun S => match o with
  | .ref n => match S[n]? with
    | some (.lst xs) => match i with
      | .int k => match ixOf xs.length k with
        | some j => some ((), S.set n (.lst (xs.set j v)))
        | none => none
      | _ => none
    | some (.dct ks us) => if keyFor ks i = true ∧ ks.length < lineN then some ((), S.set n (.dct (dPut ks us i v).1 (dPut ks us i v).2)) else none
    | none => none
  | _ => none

/-! ### built-ins, methods -/
inductive Blt
  | len | lenset | list | tuple | sorted | sortset | sortkey | all | any | max1 | max2 | min2 | int | str | bool | dict
  deriving DecidableEq
inductive Mth | append | pop0 | pop1 | insert | get1 | get2 | join | split | ljust
  deriving DecidableEq
def blsOf : List W → Option (List Bool)
  | [] => some []
  | .bl b :: ws => match blsOf ws with
    | some bs => some (b :: bs)
    | none => none
  | _ => none
def intsOf : List W → Option (List Int)
  | [] => some []
  | .int b :: ws => match intsOf ws with
    | some bs => some (b :: bs)
    | none => none
  | _ => none
def strsOf : List W → Option (List Str)
  | [] => some []
  | .str b :: ws => match strsOf ws with
    | some bs => some (b :: bs)
    | none => none
  | _ => none
def maxOf : List Int → Option Int
  | [] => none
  | x :: xs => some (xs.foldl (fun m y => if m < y then y else m) x)
/-- the kinds that isinstance asks, as a set: 1 int, 2 bool, 4 str, 8 list, 16 tuple -/
structure Kinds where
  int : Bool := false
  bool : Bool := false
  str : Bool := false
  list : Bool := false
  tuple : Bool := false
  deriving DecidableEq
def wIsi (k : Kinds) (a : W) : M Bool := fun S => match a with
  | .non => some (false, S)
  | .bl _ => some (k.bool || k.int, S)
  | .int _ => some (k.int, S)
  | .str _ => some (k.str, S)
  | .tup _ => some (k.tuple, S)
  | a => match listOf S a with
    | some _ => some (k.list, S)
    | none => none


/-! ### sorting -/
def wAlike (ws : List W) : Bool := ws.all fun a => ws.all fun b => PySem.W.alike a.py b.py
def wSorts (ws : List W) : Bool := (ws.all fun w => match w with
    | .tup (_ :: _) => true
    | _ => false) || ws.all fun w => match w with
    | .bl _ | .int _ | .str _ => true
    | _ => false
def wLe2 (a b : W) : Bool := PySem.W.dataLe false W.py a b
def wSort (ws : List W) : Option (List W) := if flats 30 ws = true ∧ wAlike ws = true ∧ wSorts ws = true then some (ws.mergeSort wLe2) else none
/-- the first of equal ones -/
def wDedup : List W → List W
  | [] => []
  | w :: ws => w :: (wDedup ws).filter fun x => !W.eqv w x
def setable (ws : List W) : Bool := (ws.all W.leaf || ws.all W.tkey) && decide (ws.length ≤ 4000)

/-! ### the small terms -/
inductive P where
  | nm (i : Nat) | nil | cons (p ps : P) | tp (ps : P)
  deriving DecidableEq, Inhabited
inductive E where
  | var (i : Nat) | non | bl (b : Bool) | int (i : Int) | str (x : Str) | gcon (g : Nat) | gfn (f : Nat)
  | nil | cons (e es : E) | star (e es : E)
  | tup (es : E) | lst (es : E)
  | dnil | dpair (k v ds : E) | dstar (d ds : E) | dct (ds : E)
  | and (a b : E) | or (a b : E) | not (a : E) | ifx (c a b : E)
  | cmp (o : Cop) (a b : E) | chain (o p : Cop) (a b c : E) | isn (a : E) | notn (a : E) | isb (a : E) (b : Bool)
  | bin (o : Bop) (a b : E)
  | ix (a i : E) | slc (a lo hi : E) | rev (a : E)
  | call (f : Nat) (es : E) | callv (i : Nat) (es : E)
  | blt (b : Blt) (es : E) | skey (a : E) (f : Nat) | mth (m : Mth) (a es : E) | isi (k : Kinds) (a : E)
  | lc (vs : List Nat) (t : P) (it c e : E)
  | lc2 (vs vs1 : List Nat) (t : P) (it c : E) (t1 : P) (it1 c1 e : E)
  | dc (vs : List Nat) (t : P) (it c k v : E)
  | iter (a : E) | rng1 (a : E) | rng2 (a b : E) | enum (a : E) | zip (a b : E) | items (a : E)
  deriving DecidableEq, Inhabited
inductive T where
  | nm (i : Nat) | nil | cons (p ps : T) | tp (ps : T) | sub (o i : E)
  deriving DecidableEq, Inhabited
inductive C where
  | skip | seq (a b : C) | expr (e : E) | asg (t : T) (e : E) | aug (i : Nat) (o : Bop) (e : E)
  | ite (c : E) (a b : C) | whl (c : E) (b : C) | for_ (t : P) (it : E) (b : C) | ret (e : E) | brk | cont
  deriving DecidableEq, Inhabited
/-- a def: its parameters, whether the last one takes the rest, its slots, whether what it hands back stays in the store -/
structure Def where
  ps : Nat
  rest : Bool := false
  slots : Nat
  keep : Bool := false
  body : C
  deriving DecidableEq, Inhabited

/-! ### targets -/
def P.slots : P → List Nat
  | .nm i => [i]
  | .nil => []
  | .cons p ps => p.slots ++ ps.slots
  | .tp ps => ps.slots
mutual
def P.put : P → W → Rho → Option Rho
  | .nm i, w, ρ => some (ρ.set i (some w))
  | .tp ps, .tup ws, ρ => P.puts ps ws ρ
  | _, _, _ => none
def P.puts : P → List W → Rho → Option Rho
  | .nil, [], ρ => some ρ
  | .cons p ps, w :: ws, ρ => match P.put p w ρ with
    | some ρ' => P.puts ps ws ρ'
    | none => none
  | _, _, _ => none
end
def wipeR (ρ : Rho) : List Nat → Rho
  | [] => ρ
  | v :: vs => (wipeR ρ vs).set v none

/-! ### what it computes -/
structure Dn where
  v : Rho → M W := fun _ => .no
  a : Rho → M (List W) := fun _ => .no
  d : Rho → List W × List W → M (List W × List W) := fun _ _ => .no
  it : Rho → M (List W × List (Nat × Ob)) := fun _ => .no
/-- the objects that a loop walks stand as they stood -/
def stands (S : Sto) (src : List (Nat × Ob)) : Bool := src.all fun p => decide (S[p.1]? = some p.2)
def srcOf (S : Sto) : W → List (Nat × Ob)
  | .ref n => match S[n]? with
    | some o => [(n, o)]
    | none => []
  | _ => []
/-- what a for walks: a list, a tuple, a text, a dict -/
def wIter (w : W) : M (List W × List (Nat × Ob)) := fun S => match w with
  | .str x => some ((x.cps.toList.map fun c => W.str ⟨#[c]⟩, []), S)
  | w => match dictOf S w with
    | some (ks, _) => some ((ks, srcOf S w), S)
    | none => match seqOf S w with
      | some ws => some ((ws, srcOf S w), S)
      | none => none
def truth (m : M W) : M Bool := fun S => match m S with
  | some (.bl b, S') => some (b, S')
  | _ => none
/-- a comprehension's loop -/
def compL {α : Type} (src : List (Nat × Ob)) (f : W → M (List α)) : List W → M (List α)
  | [] => fun S => if stands S src = true then some ([], S) else none
  | x :: xs => fun S => if stands S src = true then (match f x S with
    | some (ys, S') => (match compL src f xs S' with
      | some (zs, S'') => some (ys ++ zs, S'')
      | none => none)
    | none => none) else none
/-- .. a dict comprehension's -/
def dcL (src : List (Nat × Ob)) (f : W → M (Option (W × W))) : List W → List W × List W → M (List W × List W)
  | [], p => fun S => if stands S src = true then some (p, S) else none
  | x :: xs, p => fun S => if stands S src = true then (match f x S with
    | some (some (k, v), S') => if keyFor p.1 k = true then dcL src f xs (dPut p.1 p.2 k v) S' else none
    | some (none, S') => dcL src f xs p S'
    | none => none) else none
def turnOf (t : P) (vs : List Nat) (ρ : Rho) (c e : Dn) (x : W) : M (List W) := fun S => match P.put t x (wipeR ρ vs) with
  | some ρ' => (match truth (c.v ρ') S with
    | some (true, S') => (match e.v ρ' S' with
      | some (w, S'') => some ([w], S'')
      | none => none)
    | some (false, S') => some ([], S')
    | none => none)
  | none => none
def turnD (t : P) (vs : List Nat) (ρ : Rho) (c k v : Dn) (x : W) : M (Option (W × W)) := fun S => match P.put t x (wipeR ρ vs) with
  | some ρ' => (match truth (c.v ρ') S with
    | some (true, S') => (match k.v ρ' S' with
      | some (kw, S2) => (match v.v ρ' S2 with
        | some (w, S'') => some (some (kw, w), S'')
        | none => none)
      | none => none)
    | some (false, S') => some (none, S')
    | none => none)
  | none => none
def turn2 (t : P) (vs vs1 : List Nat) (ρ : Rho) (c : Dn) (t1 : P) (it1 c1 e : Dn) (x : W) : M (List W) := fun S => match P.put t x (wipeR ρ vs) with
  | some ρ' => (match truth (c.v ρ') S with
    | some (true, S') => (match it1.it ρ' S' with
      | some ((xs, src), S2) => compL src (turnOf t1 vs1 ρ' c1 e) xs S2
      | none => none)
    | some (false, S') => some ([], S')
    | none => none)
  | none => none

def bLen (as : List W) : M W := fun S => match as with
  | [.str x] => some (.int x.length, S)
  | [w] => match seqOf S w with
    | some ws => some (.int ws.length, S)
    | none => none
  | _ => none
def bLenset (as : List W) : M W := fun S => match as with
  | [w] => match seqOf S w with
    | some ws => if setable ws = true then some (.int (wDedup ws).length, S) else none
    | none => none
  | _ => none
def bList (as : List W) : M W := fun S => match as with
  | [w] => match seqOf S w with
    | some ws => M.new (.lst ws) S
    | none => none
  | _ => none
def bTuple (as : List W) : M W := fun S => match as with
  | [w] => match seqOf S w with
    | some ws => some (.tup ws, S)
    | none => none
  | _ => none
def bSorted (as : List W) : M W := fun S => match as with
  | [w] => match dictOf S w with
    | some (ks, _) => if ks.all W.leaf = true then (match wSort ks with
      | some ws => M.new (.lst ws) S
      | none => none) else none
    | none => match listOf S w with
      | some ws => match wSort ws with
        | some ws => M.new (.lst ws) S
        | none => none
      | none => none
  | _ => none
def bSortset (as : List W) : M W := fun S => match as with
  | [w] => match seqOf S w with
    | some ws => if setable ws = true then (match wSort (wDedup ws) with
      | some ws => M.new (.lst ws) S
      | none => none) else none
    | none => none
  | _ => none
def bAll (as : List W) : M W := fun S => match as with
  | [w] => match (listOf S w).bind blsOf with
    | some bs => some (.bl (bs.all id), S)
    | none => none
  | _ => none
def bAny (as : List W) : M W := fun S => match as with
  | [w] => match (listOf S w).bind blsOf with
    | some bs => some (.bl (bs.any id), S)
    | none => none
  | _ => none
def bMax1 (as : List W) : M W := fun S => match as with
  | [w] => match (listOf S w).bind intsOf with
    | some is => match maxOf is with
      | some m => some (.int m, S)
      | none => none
    | none => none
  | _ => none
def bMax2 (as : List W) : M W := fun S => match as with
  | [.int i, .int j] => some (.int (if j > i then j else i), S)
  | _ => none
def bMin2 (as : List W) : M W := fun S => match as with
  | [.int i, .int j] => some (.int (if j < i then j else i), S)
  | _ => none
def bInt (as : List W) : M W := fun S => match as with
  | [.bl b] => some (.int (if b = true then 1 else 0), S)
  | _ => none
def bBool (as : List W) : M W := fun S => match as with
  | [.bl b] => some (.bl b, S)
  | _ => none
def bDict (as : List W) : M W := fun S => match as with
  | [w] => match dictOf S w with
    | some (ks, us) => M.new (.dct ks us) S
    | none => none
  | _ => none
def wBlt : Blt → List W → M W
  | .len => bLen
  | .lenset => bLenset
  | .list => bList
  | .tuple => bTuple
  | .sorted => bSorted
  | .sortset => bSortset
  | .all => bAll
  | .any => bAny
  | .max1 => bMax1
  | .max2 => bMax2
  | .min2 => bMin2
  | .int => bInt
  | .bool => bBool
  | .dict => bDict
  | .str | .sortkey => fun _ => .no
def mAppend (o : W) (as : List W) : M W := fun S => match o, as with
  | .ref n, [w] => match S[n]? with
    | some (.lst ws) => if ws.length < lineN then some (.non, S.set n (.lst (ws ++ [w]))) else none
    | _ => none
  | _, _ => none
def mPop0 (o : W) (as : List W) : M W := fun S => match o, as with
  | .ref n, [] => match S[n]? with
    | some (.lst ws) => match ws[ws.length - 1]? with
      | some w => some (w, S.set n (.lst ws.dropLast))
      | none => none
    | _ => none
  | _, _ => none
def mPop1 (o : W) (as : List W) : M W := fun S => match o, as with
  | .ref n, [.int i] => match S[n]? with
    | some (.lst ws) => match ixOf ws.length i with
      | some k => match ws[k]? with
        | some w => some (w, S.set n (.lst (ws.eraseIdx k)))
        | none => none
      | none => none
    | _ => none
  | _, _ => none
def mInsert (o : W) (as : List W) : M W := fun S => match o, as with
  | .ref n, [.int i, w] => match S[n]? with
    | some (.lst ws) => if 0 ≤ i ∧ i ≤ ws.length ∧ ws.length < lineN then some (.non, S.set n (.lst (ws.take i.toNat ++ w :: ws.drop i.toNat))) else none
    | _ => none
  | _, _ => none
def mGet1 (o : W) (as : List W) : M W := fun S => match as with
  | [k] => match dictOf S o with
    | some (ks, us) => if keyFor ks k = true then some ((dAt ks us k).getD .non, S) else none
    | none => none
  | _ => none
def mGet2 (o : W) (as : List W) : M W := fun S => match as with
  | [k, d] => match dictOf S o with
    | some (ks, us) => if keyFor ks k = true then some ((dAt ks us k).getD d, S) else none
    | none => none
  | _ => none
def wMth : Mth → W → List W → M W
  | .append => mAppend
  | .pop0 => mPop0
  | .pop1 => mPop1
  | .insert => mInsert
  | .get1 => mGet1
  | .get2 => mGet2
  | .join | .split | .ljust => fun _ _ => .no

/-- what the receiver must be, before the arguments are asked -/
def wRecv (m : Mth) (o : W) : M Unit := fun S => match m with
  | .get1 | .get2 => if (dictOf S o).isSome = true then some ((), S) else none
  | .append | .pop0 | .pop1 | .insert => if (listOf S o).isSome = true then some ((), S) else none
  | .join | .split | .ljust => match o with
    | .str _ => some ((), S)
    | _ => none
def wIsb (x : W) (b : Bool) : M W := match x with
  | .bl c => .ret (.bl (decide (c = b)))
  | _ => .no
def rhoAt (i : Nat) (ρ : Rho) : M W := fun S => match ρ[i]? with
  | some (some w) => some (w, S)
  | _ => none
def itemsOf (w : W) : M (List W) := fun S => match seqOf S w with
  | some ws => some (ws, S)
  | none => none
def pairsOf (w : W) : M (List W × List W) := fun S => match dictOf S w with
  | some q => some (q, S)
  | none => none
def itemsD (w : W) : M (List W × List (Nat × Ob)) := fun S => match dictOf S w with
  | some (ks, us) => some ((List.zipWith (fun u v => W.tup [u, v]) ks us, srcOf S w), S)
  | none => none
def wRng1 : W → M (List W × List (Nat × Ob))
  | .int n => if -4000000 ≤ n ∧ n ≤ 4000000 then .ret ((List.range n.toNat).map fun (i : Nat) => W.int (Int.ofNat i), []) else .no
  | _ => .no
def wRng2 : W → W → M (List W × List (Nat × Ob))
  | .int i, .int j => if -4000000 ≤ i ∧ i ≤ 4000000 ∧ -4000000 ≤ j ∧ j ≤ 4000000 then .ret ((List.range (j - i).toNat).map fun (k : Nat) => W.int (i + Int.ofNat k), []) else .no
  | _, _ => .no
def wEnum (w : W) : M (List W × List (Nat × Ob)) := fun S => match seqOf S w with
  | some ws => some ((ws.zipIdx.map fun q => W.tup [.int (Int.ofNat q.2), q.1], srcOf S w), S)
  | none => none
def wZip (a b : W) : M (List W × List (Nat × Ob)) := fun S => match a, b with
  | .tup us, .tup ws => if us.length ≤ lineN then some ((List.zipWith (fun u v => W.tup [u, v]) us ws, []), S) else none
  | a, b => match listOf S a, listOf S b with
    | some us, some ws => if us.length ≤ lineN then some ((List.zipWith (fun u v => W.tup [u, v]) us ws, srcOf S a ++ srcOf S b), S) else none
    | _, _ => none
section
variable (gc : Nat → W) (cf : Nat → List W → M W)
def sortKey (f : Nat) : List W → Sto → Option (List W)
  | [], _ => some []
  | w :: ws, S => match cf f [w] S with
    | some (k, S') => if S' = S then (match sortKey f ws S with
      | some ks => some (k :: ks)
      | none => none) else none
    | none => none
def wSortKey (f : Nat) (x : W) : M W := fun S => match listOf S x with
  | some ws => (match sortKey cf f ws S with
    | some ks => if flats 30 ks = true ∧ wAlike ks = true ∧ wSorts ks = true then M.new (.lst (((ks.zip ws).mergeSort fun p q => wLe2 p.1 q.1).map Prod.snd)) S else none
    | none => none)
  | none => none
def wCallV (x : W) (ws : List W) : M W := match x with
  | .fn f => cf f ws
  | _ => .no
def den : E → Dn
  | .var i => { v := rhoAt i }
  | .non => { v := fun _ => .ret .non }
  | .bl b => { v := fun _ => .ret (.bl b) }
  | .int i => { v := fun _ => .ret (.int i) }
  | .str x => { v := fun _ => .ret (.str x) }
  | .gcon g => { v := fun _ => .ret (gc g) }
  | .gfn f => { v := fun _ => .ret (.fn f) }
  | .nil => { a := fun _ => .ret [] }
  | .cons e es => { a := fun ρ => do let w ← (den e).v ρ; let ws ← (den es).a ρ; pure (w :: ws) }
  | .star e es => { a := fun ρ => do
      let w ← (den e).v ρ
      let us ← itemsOf w
      let ws ← (den es).a ρ
      pure (us ++ ws) }
  | .tup es => { v := fun ρ => do let ws ← (den es).a ρ; M.fits ws.length; pure (.tup ws) }
  | .lst es => { v := fun ρ => do let ws ← (den es).a ρ; M.fits ws.length; M.new (.lst ws) }
  | .dnil => { d := fun _ p => .ret p }
  | .dpair k v ds => { d := fun ρ p => do
      let x ← (den k).v ρ
      let y ← (den v).v ρ
      M.grd (keyFor p.1 x)
      (den ds).d ρ (dPut p.1 p.2 x y) }
  | .dstar e ds => { d := fun ρ p => do
      let x ← (den e).v ρ
      let q ← pairsOf x
      M.grd ((q.1.all fun k => keyFor p.1 k && keyFor q.1 k) && mergeOk p.1 q.1)
      (den ds).d ρ (dMerge p.1 p.2 q.1 q.2) }
  | .dct ds => { v := fun ρ => do let p ← (den ds).d ρ ([], []); M.fits p.1.length; M.new (.dct p.1 p.2) }
  | .and a b => { v := fun ρ => do let c ← truth ((den a).v ρ); if c = true then (den b).v ρ else pure (.bl false) }
  | .or a b => { v := fun ρ => do let c ← truth ((den a).v ρ); if c = true then pure (.bl true) else (den b).v ρ }
  | .not a => { v := fun ρ => do let c ← truth ((den a).v ρ); pure (.bl (!c)) }
  | .ifx c a b => { v := fun ρ => do let c ← truth ((den c).v ρ); if c = true then (den a).v ρ else (den b).v ρ }
  | .cmp o a b => { v := fun ρ => do let x ← (den a).v ρ; let y ← (den b).v ρ; let c ← wCmp o x y; pure (.bl c) }
  | .chain o p a b c => { v := fun ρ => do
      let x ← (den a).v ρ
      let y ← (den b).v ρ
      let c1 ← wCmp o x y
      if c1 = true then do let z ← (den c).v ρ; let c2 ← wCmp p y z; pure (.bl c2) else pure (.bl false) }
  | .isn a => { v := fun ρ => do let x ← (den a).v ρ; pure (.bl (decide (x = .non))) }
  | .notn a => { v := fun ρ => do let x ← (den a).v ρ; pure (.bl (!decide (x = .non))) }
  | .isb a b => { v := fun ρ => do let x ← (den a).v ρ; wIsb x b }
  | .bin o a b => { v := fun ρ => do let x ← (den a).v ρ; let y ← (den b).v ρ; wBin o x y }
  | .ix a i => { v := fun ρ => do let x ← (den a).v ρ; let y ← (den i).v ρ; wIx x y }
  | .slc a lo hi => { v := fun ρ => do let x ← (den a).v ρ; let l ← (den lo).v ρ; let h ← (den hi).v ρ; wSlc x l h }
  | .rev a => { v := fun ρ => do let x ← (den a).v ρ; wRev x }
  | .call f es => { v := fun ρ => do let ws ← (den es).a ρ; cf f ws }
  | .callv i es => { v := fun ρ => do let x ← rhoAt i ρ; let ws ← (den es).a ρ; wCallV cf x ws }
  | .blt b es => { v := fun ρ => do let ws ← (den es).a ρ; wBlt b ws }
  | .skey a f => { v := fun ρ => do let x ← (den a).v ρ; wSortKey cf f x }
  | .mth m a es => { v := fun ρ => do let x ← (den a).v ρ; wRecv m x; let ws ← (den es).a ρ; wMth m x ws }
  | .isi k a => { v := fun ρ => do let x ← (den a).v ρ; let b ← wIsi k x; pure (.bl b) }
  | .lc vs t it c e => { v := fun ρ => do
      let p ← (den it).it ρ
      let ws ← compL p.2 (turnOf t vs ρ (den c) (den e)) p.1
      pure (.lst ws) }
  | .lc2 vs vs1 t it c t1 it1 c1 e => { v := fun ρ => do
      let p ← (den it).it ρ
      let ws ← compL p.2 (turn2 t vs vs1 ρ (den c) t1 (den it1) (den c1) (den e)) p.1
      M.fits ws.length
      pure (.lst ws) }
  | .dc vs t it c k v => { v := fun ρ => do
      let p ← (den it).it ρ
      let q ← dcL p.2 (turnD t vs ρ (den c) (den k) (den v)) p.1 ([], [])
      M.new (.dct q.1 q.2) }
  | .iter a => { it := fun ρ => do let x ← (den a).v ρ; wIter x }
  | .rng1 a => { it := fun ρ => do let x ← (den a).v ρ; wRng1 x }
  | .rng2 a b => { it := fun ρ => do let x ← (den a).v ρ; let y ← (den b).v ρ; wRng2 x y }
  | .enum a => { it := fun ρ => do let x ← (den a).v ρ; wEnum x }
  | .zip a b => { it := fun ρ => do let x ← (den a).v ρ; let y ← (den b).v ρ; wZip x y }
  | .items a => { it := fun ρ => do let x ← (den a).v ρ; itemsD x }

inductive Fl where
  | nx | brk | cont | ret (w : W)
abbrev St' := Rho × Sto
mutual
def T.put : T → W → Rho → Sto → Option (Rho × Sto)
  | .nm i, w, ρ, S => some (ρ.set i (some w), S)
  | .tp ps, .tup ws, ρ, S => T.puts ps ws ρ S
  | .sub o i, w, ρ, S => match (den gc cf o).v ρ S with
    | some (ow, S1) => match (den gc cf i).v ρ S1 with
      | some (iw, S2) => match wSet ow iw w S2 with
        | some (_, S3) => some (ρ, S3)
        | none => none
      | none => none
    | none => none
  | _, _, _, _ => none
def T.puts : T → List W → Rho → Sto → Option (Rho × Sto)
  | .nil, [], ρ, S => some (ρ, S)
  | .cons p ps, w :: ws, ρ, S => match T.put p w ρ S with
    | some (ρ', S') => T.puts ps ws ρ' S'
    | none => none
  | _, _, _, _ => none
end
def forL (src : List (Nat × Ob)) (t : P) (f : Rho → Sto → Option (Fl × Rho × Sto)) : List W → Rho → Sto → Option (Fl × Rho × Sto)
  | [], ρ, S => if stands S src = true then some (.nx, ρ, S) else none
  | x :: xs, ρ, S => if stands S src = true then (match P.put t x ρ with
    | some ρ' => (match f ρ' S with
      | some (.nx, ρ2, S2) | some (.cont, ρ2, S2) => forL src t f xs ρ2 S2
      | some (.brk, ρ2, S2) => some (.nx, ρ2, S2)
      | some (.ret w, ρ2, S2) => some (.ret w, ρ2, S2)
      | none => none)
    | none => none) else none
def whileL (c : Rho → M Bool) (f : Rho → Sto → Option (Fl × Rho × Sto)) : Nat → Rho → Sto → Option (Fl × Rho × Sto)
  | 0, _, _ => none
  | n + 1, ρ, S => match c ρ S with
    | some (true, S1) => (match f ρ S1 with
      | some (.nx, ρ2, S2) | some (.cont, ρ2, S2) => whileL c f n ρ2 S2
      | some (.brk, ρ2, S2) => some (.nx, ρ2, S2)
      | some (.ret w, ρ2, S2) => some (.ret w, ρ2, S2)
      | none => none)
    | some (false, S1) => some (.nx, ρ, S1)
    | none => none
def turns : Nat := 1000
def run : C → Rho → Sto → Option (Fl × Rho × Sto)
  | .skip, ρ, S => some (.nx, ρ, S)
  | .seq a b, ρ, S => match run a ρ S with
    | some (.nx, ρ', S') => run b ρ' S'
    | r => r
  | .expr e, ρ, S => match (den gc cf e).v ρ S with
    | some (_, S') => some (.nx, ρ, S')
    | none => none
  | .asg t e, ρ, S => match (den gc cf e).v ρ S with
    | some (w, S') => match T.put gc cf t w ρ S' with
      | some (ρ2, S2) => some (.nx, ρ2, S2)
      | none => none
    | none => none
  | .aug i o e, ρ, S => match ρ[i]? with
    | some (some x) => match (den gc cf e).v ρ S with
      | some (y, S') => match wBin o x y S' with
        | some (w, S2) => some (.nx, ρ.set i (some w), S2)
        | none => none
      | none => none
    | _ => none
  | .ite c a b, ρ, S => match truth ((den gc cf c).v ρ) S with
    | some (true, S') => run a ρ S'
    | some (false, S') => run b ρ S'
    | none => none
  | .whl c b, ρ, S => whileL (fun ρ => truth ((den gc cf c).v ρ)) (fun ρ S => run b ρ S) turns ρ S
  | .for_ t it b, ρ, S => match (den gc cf it).it ρ S with
    | some ((xs, src), S') => forL src t (fun ρ S => run b ρ S) xs ρ S'
    | none => none
  | .ret e, ρ, S => match (den gc cf e).v ρ S with
    | some (w, S') => some (.ret w, ρ, S')
    | none => none
  | .brk, ρ, S => some (.brk, ρ, S)
  | .cont, ρ, S => some (.cont, ρ, S)
end

/-- what a call leaves: the answer frozen, the store cut back -/
def finish (keep : Bool) (n₀ : Nat) (w : W) (S : Sto) : Option (W × Sto) :=
  if keep = true then some (w, S) else match w.frz n₀ S with
    | some w' => if w'.under n₀ = true ∧ underAll n₀ (S.take n₀) = true then some (w', S.take n₀) else none
    | none => none
def Def.bind (d : Def) (ws : List W) : Option (List W) :=
  if d.rest = true then (if 1 ≤ d.ps ∧ d.ps ≤ ws.length + 1 ∧ ws.length ≤ lineN then some (ws.take (d.ps - 1) ++ [.tup (ws.drop (d.ps - 1))]) else none)
  else if ws.length = d.ps then some ws else none
def Def.rho (d : Def) (ws : List W) : Rho := ws.map some ++ List.replicate (d.slots - ws.length) none
def callF (gc : Nat → W) (tb : Nat → Option Def) : Nat → Nat → List W → M W
  | 0, _, _ => .no
  | n + 1, f, ws => fun S => match tb f with
    | some d => match d.bind ws with
      | some as => match run gc (callF gc tb n) d.body (d.rho as) S with
        | some (.ret w, _, S') => finish d.keep S.length w S'
        | some (.nx, _, S') => finish d.keep S.length .non S'
        | _ => none
      | none => none
    | none => none

end TZ

set_option Elab.async false
set_option linter.all false
set_option maxRecDepth 100000
/-! A2: from the model's trees to the small terms. -/
namespace TZ
open PySem

/-- what the module's names are: constants, defs -/
structure Glob where
  con : List (Str × Nat)
  fns : List (Str × Nat)
  deriving Inhabited

def bltOf : List (Str × Nat × Blt) := [("len", 1, .len), ("list", 1, .list), ("tuple", 1, .tuple), ("sorted", 1, .sorted), ("all", 1, .all), ("any", 1, .any), ("max", 1, .max1), ("max", 2, .max2), ("min", 2, .min2), ("int", 1, .int), ("str", 1, .str), ("bool", 1, .bool), ("dict", 1, .dict)]
def mthOf : List (Str × Nat × Mth) := [("append", 1, .append), ("pop", 0, .pop0), ("pop", 1, .pop1), ("insert", 2, .insert), ("get", 1, .get1), ("get", 2, .get2), ("join", 1, .join), ("split", 1, .split), ("ljust", 1, .ljust)]
def findB {α : Type} (x : Str) (n : Nat) : List (Str × Nat × α) → Option α
  | [] => none
  | (y, m, b) :: r => if x = y ∧ n = m then some b else findB x n r
def kindOf1 (k : Kinds) (x : Str) : Option Kinds :=
  if x = ("int" : Str) then some { k with int := true } else if x = ("bool" : Str) then some { k with bool := true } else if x = ("str" : Str) then some { k with str := true }
  else if x = ("list" : Str) then some { k with list := true } else if x = ("tuple" : Str) then some { k with tuple := true } else none
def copOf : CmpOp → Option Cop
  | .Eq => some .eq | .NotEq => some .ne | .Lt => some .lt | .LtE => some .le | .Gt => some .gt | .GtE => some .ge | .In => some .in_ | .NotIn => some .ni
  | _ => none
def bopOf : Operator → Option Bop
  | .Add => some .add | .Sub => some .sub | .Mult => some .mul | .Mod => some .mod | .FloorDiv => some .fdiv | .Pow => some .pow
  | _ => none
def isVis : Option NameKind → Bool
  | some .local | some .cell | some .free => true
  | _ => false
def isOwn : Option NameKind → Bool
  | some .local | some .cell => true
  | _ => false
def litOk (x : Str) : Bool := PyData.strOk x && decide (x.length ≤ lineN)

def isStar : Expr → Bool
  | .Starred _ _ => true
  | _ => false
def isSlice : Expr → Bool
  | .Slice _ _ _ _ => true
  | _ => false
/-- no super(), so that a method's base is asked plainly -/
def plainBase : Expr → Bool
  | .Call (.Name _ _) [] [] _ => false
  | _ => true
/-- the argument lists that a def is called with here -/
def argsOk : List Expr → Bool
  | [] => true
  | [.Starred _ _] => true
  | a :: _ => !isStar a
/-- a store of several names, to be taken -/
def tupOk (t e : Expr) : Bool := match t, e with
  | .Tuple _ _ _, .Tuple vs _ _ => !vs.all (constantsAlone 8) || vs.all (foldedForSure 8)
  | .List _ _, _ => false
  | _, _ => true
def bltNames : List Str := ["len", "list", "tuple", "sorted", "all", "any", "max", "min", "int", "str", "bool", "dict", "set", "isinstance", "range", "zip", "enumerate"]
section
variable (G : Glob) (N : List Str)
def slotOf (x : Str) : Option Nat := if x ∈ N then some (N.idxOf x) else none
/-- a block's own names, with their slots -/
def ownOf (sc : Scope) : List (Str × Nat) := sc.names.filterMap fun y => if (y.2 == .local || y.2 == .cell) && N.contains y.1 then some (y.1, N.idxOf y.1) else none
/-- what a comprehension's scope must be -/
def blkOk (sc scope : Scope) : Bool :=
  scope.kind == .function && scope.names.all (fun y => scope.names.lookup y.1 == some y.2) &&
  scope.names.all (fun y => y.2 != .free || (sc.names.lookup y.1 == some .cell || sc.names.lookup y.1 == some .free))
def trPos (x : Str) : Bool := !(x == ("__debug__" : Str)) && !(x == ("__classdict__" : Str))

mutual
def trP : Nat → Scope → Expr → Option P
  | n + 1, sc, .Name x _ => if isOwn (sc.names.lookup x) = true then (slotOf N x).map .nm else none
  | n + 1, sc, .Tuple es _ _ => (trPs n sc es).map .tp
  | _, _, _ => none
def trPs : Nat → Scope → List Expr → Option P
  | _, _, [] => some .nil
  | n + 1, sc, e :: es => match trP n sc e, trPs n sc es with
    | some p, some ps => some (.cons p ps)
    | _, _ => none
  | _, _, _ => none
end
def trName (sc : Scope) (x : Str) : Option E :=
  if trPos x = true then
    (if isVis (sc.names.lookup x) = true then (slotOf N x).map .var
     else if sc.names.lookup x = some .globalImplicit then (match G.con.lookup x with
       | some g => some (.gcon g)
       | none => (G.fns.lookup x).map .gfn)
     else none)
  else none
/-- the name of a built-in, unhidden -/
def isBlt (sc : Scope) (x : Str) : Bool := bltNames.contains x && trPos x && sc.names.lookup x == some .globalImplicit && (G.con.lookup x).isNone && (G.fns.lookup x).isNone
def trKs (sc : Scope) : Kinds → List Expr → Option Kinds
  | k, [] => some k
  | k, .Name x _ :: es => if isBlt G sc x = true then (match kindOf1 k x with
    | some k' => trKs sc k' es
    | none => none) else none
  | _, _ => none
def trKinds (sc : Scope) : Expr → Option Kinds
  | .Name x _ => if isBlt G sc x = true then kindOf1 {} x else none
  | .Tuple es _ _ => if es.length ≤ 100 then trKs G sc {} es else none
  | _ => none
mutual
def trE : Nat → Scope → Expr → Option E
  | 0, _, _ => none
  | n + 1, sc, e => match e with
    | .Name x _ => trName G N sc x
    | .Constant c _ _ => match c with
      | .none => some .non
      | .bool b => some (.bl b)
      | .int i => some (.int i)
      | .str x => if litOk x = true then some (.str x) else none
      | _ => none
    | .Tuple es _ _ => (trEs n sc es).map .tup
    | .List es _ => (trEs n sc es).map .lst
    | .Dict ks vs _ => (trD n sc ks vs).map .dct
    | .BoolOp op es _ => trB n sc op es
    | .UnaryOp .Not a _ => (trE n sc a).map .not
    | .UnaryOp .USub (.Constant (.int i) _ _) _ => some (.int (-i))
    | .IfExp c a b _ => match trE n sc c, trE n sc a, trE n sc b with
      | some c', some a', some b' => some (.ifx c' a' b')
      | _, _, _ => none
    | .Compare a [.Is] [.Constant .none _ _] _ => (trE n sc a).map .isn
    | .Compare a [.IsNot] [.Constant .none _ _] _ => (trE n sc a).map .notn
    | .Compare a [.Is] [.Constant (.bool b) _ _] _ => (trE n sc a).map fun a' => .isb a' b
    | .Compare a [o] [b] _ => match copOf o, trE n sc a, trE n sc b with
      | some o', some a', some b' => some (.cmp o' a' b')
      | _, _, _ => none
    | .Compare a [o, p] [b, c] _ => match copOf o, copOf p, trE n sc a, trE n sc b, trE n sc c with
      | some o', some p', some a', some b', some c' => some (.chain o' p' a' b' c')
      | _, _, _, _, _ => none
    | .BinOp a o b _ => match bopOf o, trE n sc a, trE n sc b with
      | some o', some a', some b' => some (.bin o' a' b')
      | _, _, _ => none
    | .Subscript a (.Slice none none (some (.UnaryOp .USub (.Constant (.int 1) _ _) _)) _) _ => (trE n sc a).map .rev
    | .Subscript a (.Slice lo hi none _) _ => match trE n sc a, trO n sc lo, trO n sc hi with
      | some a', some l', some h' => some (.slc a' l' h')
      | _, _, _ => none
    | .Subscript a i _ => match trE n sc a, trE n sc i with
      | some a', some i' => some (.ix a' i')
      | _, _ => none
    | .Call (.Name f _) args kws _ => trC n sc f args kws
    | .Call (.Attribute o m apos) args [] cpos => if (apos.endLine == cpos.line) = true ∧ args.any isStar = false ∧ plainBase o = true then (match findB m args.length mthOf, trE n sc o, trEs n sc args with
      | some m', some o', some es' => some (.mth m' o' es')
      | _, _, _ => none) else none
    | .ListComp elt [⟨tg, it, ifs, 0⟩] scope _ => if blkOk sc scope = true then (match trP N n scope tg, trI n sc it, trIfs n scope ifs, trE n scope elt with
      | some t, some i, some c, some e' => some (.lc ((ownOf N scope).map (·.2)) t i c e')
      | _, _, _, _ => none) else none
    | .ListComp elt [⟨tg, it, ifs, 0⟩, ⟨tg1, it1, ifs1, 0⟩] scope _ => if blkOk sc scope = true then (match trP N n scope tg, trI n sc it, trIfs n scope ifs, trP N n scope tg1, trI n scope it1, trIfs n scope ifs1, trE n scope elt with
      | some t, some i, some c, some t1, some i1, some c1, some e' => some (.lc2 ((ownOf N scope).map (·.2)) t1.slots t i c t1 i1 c1 e')
      | _, _, _, _, _, _, _ => none) else none
    | .DictComp k v [⟨tg, it, ifs, 0⟩] scope _ => if blkOk sc scope = true then (match trP N n scope tg, trI n sc it, trIfs n scope ifs, trE n scope k, trE n scope v with
      | some t, some i, some c, some k', some v' => some (.dc ((ownOf N scope).map (·.2)) t i c k' v')
      | _, _, _, _, _ => none) else none
    | _ => none
/-- a call by a name -/
def trC : Nat → Scope → Str → List Expr → List Keyword → Option E
  | 0, _, _, _, _ => none
  | n + 1, sc, f, args, kws => if isVis (sc.names.lookup f) = true ∧ args.isEmpty = false ∧ args.any isStar = false then (match kws, trPos f, slotOf N f, trEs n sc args with
      | [], true, some i, some es => some (.callv i es)
      | _, _, _, _ => none)
    else if (G.fns.lookup f).isSome = true ∧ (G.con.lookup f).isNone = true ∧ argsOk args = true then (match kws, trPos f, sc.names.lookup f, G.fns.lookup f, args with
      | [], true, some .globalImplicit, some i, [.Starred v _] => (trE n sc v).map fun v' => .call i (.star v' .nil)
      | [], true, some .globalImplicit, some i, args => (trEs n sc args).map fun es => .call i es
      | _, _, _, _, _ => none)
    else if isBlt G sc f = true then (match kws, args with
      | [], [a] => match a with
        | .Call (.Name g _) [x] [] _ => if f = ("len" : Str) ∧ g = ("set" : Str) ∧ isBlt G sc g = true then (trE n sc x).map fun x' => .blt .lenset (.cons x' .nil)
          else if f = ("sorted" : Str) ∧ g = ("set" : Str) ∧ isBlt G sc g = true then (trE n sc x).map fun x' => .blt .sortset (.cons x' .nil)
          else (match findB f 1 bltOf, trE n sc a with
            | some b, some a' => some (.blt b (.cons a' .nil))
            | _, _ => none)
        | a => match findB f 1 bltOf, trE n sc a with
          | some b, some a' => some (.blt b (.cons a' .nil))
          | _, _ => none
      | [], [a, b] => if f = ("isinstance" : Str) then (match trE n sc a, trKinds G sc b with
          | some a', some k => some (.isi k a')
          | _, _ => none)
        else (match findB f 2 bltOf, trE n sc a, trE n sc b with
          | some c, some a', some b' => some (.blt c (.cons a' (.cons b' .nil)))
          | _, _, _ => none)
      | [⟨some key, .Name g _, _⟩], [a] => if f = ("sorted" : Str) ∧ key = ("key" : Str) then (match trName G N sc g, trE n sc a with
          | some (.gfn i), some a' => some (.skey a' i)
          | _, _ => none) else none
      | _, _ => none)
    else none
def trEs : Nat → Scope → List Expr → Option E
  | _, _, [] => some .nil
  | 0, _, _ => none
  | n + 1, sc, .Starred e _ :: es => match trE n sc e, trEs n sc es with
    | some e', some es' => some (.star e' es')
    | _, _ => none
  | n + 1, sc, e :: es => match trE n sc e, trEs n sc es with
    | some e', some es' => some (.cons e' es')
    | _, _ => none
def trD : Nat → Scope → List (Option Expr) → List Expr → Option E
  | _, _, [], [] => some .dnil
  | n + 1, sc, some k :: ks, v :: vs => match trE n sc k, trE n sc v, trD n sc ks vs with
    | some k', some v', some d => some (.dpair k' v' d)
    | _, _, _ => none
  | n + 1, sc, none :: ks, v :: vs => match trE n sc v, trD n sc ks vs with
    | some v', some d => some (.dstar v' d)
    | _, _ => none
  | _, _, _, _ => none
def trB : Nat → Scope → BoolOp → List Expr → Option E
  | 0, _, _, _ => none
  | n + 1, sc, op, es => match es with
    | [] => none
    | [a] => trE n sc a
    | a :: b :: r => match op, trE n sc a, trB n sc op (b :: r) with
      | .And, some a', some b' => some (.and a' b')
      | .Or, some a', some b' => some (.or a' b')
      | _, _, _ => none
def trO : Nat → Scope → Option Expr → Option E
  | _, _, none => some .non
  | 0, _, _ => none
  | n + 1, sc, some e => trE n sc e
def trIfs : Nat → Scope → List Expr → Option E
  | _, _, [] => some (.bl true)
  | n + 1, sc, [c] => trE n sc c
  | _, _, _ => none
/-- what is walked -/
def trI : Nat → Scope → Expr → Option E
  | 0, _, _ => none
  | n + 1, sc, e => match e with
    | .Call (.Name f _) [a] [] _ => if f = ("range" : Str) ∧ isBlt G sc f = true then (trE n sc a).map .rng1
      else if f = ("enumerate" : Str) ∧ isBlt G sc f = true then (trE n sc a).map .enum
      else (trE n sc e).map .iter
    | .Call (.Name f _) [a, b] [] _ => if f = ("range" : Str) ∧ isBlt G sc f = true then (match trE n sc a, trE n sc b with
        | some a', some b' => some (.rng2 a' b')
        | _, _ => none)
      else if f = ("zip" : Str) ∧ isBlt G sc f = true then (match trE n sc a, trE n sc b with
        | some a', some b' => some (.zip a' b')
        | _, _ => none)
      else (trE n sc e).map .iter
    | .Call (.Attribute o m apos) [] [] cpos => if m = ("items" : Str) then (if (apos.endLine == cpos.line) = true ∧ plainBase o = true then (trE n sc o).map .items else none) else (trE n sc e).map .iter
    | e => (trE n sc e).map .iter
end
mutual
def trT : Nat → Scope → Expr → Option T
  | n + 1, sc, .Name x _ => if isOwn (sc.names.lookup x) = true then (slotOf N x).map .nm else none
  | n + 1, sc, .Tuple es _ _ => (trTs n sc es).map .tp
  | n + 1, sc, .Subscript o i _ => match i with
    | .Slice _ _ _ _ => none
    | i => match trE G N n sc o, trE G N n sc i with
      | some o', some i' => some (.sub o' i')
      | _, _ => none
  | _, _, _ => none
def trTs : Nat → Scope → List Expr → Option T
  | _, _, [] => some .nil
  | n + 1, sc, e :: es => match trT n sc e, trTs n sc es with
    | some p, some ps => some (.cons p ps)
    | _, _ => none
  | _, _, _ => none
end
mutual
def trS : Nat → Scope → Stmt → Option C
  | 0, _, _ => none
  | n + 1, sc, s => match s with
    | .Pass _ => some .skip
    | .Break _ => some .brk
    | .Continue _ => some .cont
    | .Expr (.Call f as ks p) _ => (trE G N n sc (.Call f as ks p)).map .expr
    | .Return (some e) _ => (trE G N n sc e).map .ret
    | .Return none _ => some (.ret .non)
    | .Assign [t] e _ => if tupOk t e = true then (match trT G N n sc t, trE G N n sc e with
      | some t', some e' => some (.asg t' e')
      | _, _ => none) else none
    | .AugAssign (.Name x _) o e _ => if isOwn (sc.names.lookup x) = true then (match slotOf N x, bopOf o, trE G N n sc e with
      | some i, some o', some e' => some (.aug i o' e')
      | _, _, _ => none) else none
    | .If c a b _ => match trE G N n sc c, trSs n sc a, trSs n sc b with
      | some c', some a', some b' => some (.ite c' a' b')
      | _, _, _ => none
    | .While c a [] _ => match trE G N n sc c, trSs n sc a with
      | some c', some a' => some (.whl c' a')
      | _, _ => none
    | .For t it b [] _ => match trP N n sc t, trI G N n sc it, trSs n sc b with
      | some t', some i', some b' => some (.for_ t' i' b')
      | _, _, _ => none
    | _ => none
def trSs : Nat → Scope → List Stmt → Option C
  | _, _, [] => some .skip
  | 0, _, _ => none
  | n + 1, sc, [s] => trS n sc s
  | n + 1, sc, s :: r => match trS n sc s, trSs n sc r with
    | some a, some b => some (.seq a b)
    | _, _ => none
end
end
end TZ

set_option Elab.async false
set_option linter.all false
set_option maxRecDepth 100000
/-! A3: what the plain values and stores stand for in HandS' heap. -/
namespace TZ
open PySem L2

/-! ### keys -/
mutual
def W.nkey : W → NestedKey
  | .bl b => .num (if b = true then 1 else 0)
  | .int i => .num i
  | .str x => .text x
  | .tup ws => .tup (nkeys ws)
  | .non | .lst _ | .dct _ _ | .ref _ | .fn _ => .none
def nkeys : List W → List NestedKey
  | [] => []
  | w :: ws => W.nkey w :: nkeys ws
end
/-- the entries of a dict by its keys and values -/
inductive Ents (w : World) : List W → List V → List V → List DictEntry → Prop where
  | nil : Ents w [] [] [] []
  | cons {k : W} {ks : List W} {kv uv : V} {kvs uvs : List V} {e : DictEntry} {es : List DictEntry} : e.hash = k.nkey.hash w → RelV kv e.key → RelV uv e.val → Ents w ks kvs uvs es → Ents w (k :: ks) (kv :: kvs) (uv :: uvs) (e :: es)
/-- a dict object told by its entries -/
def dOb (a : Addr) (es : List DictEntry) (ep : Nat) : HO := .ext fun h => (a == sysModules) = false ∧ es.length ≤ sizeLine ∧ ∃ o, h.get? a = some o ∧ o.ExactDict ∧ o.data = .dict es.toArray ep

/-- a tuple among the module's own objects -/
def CT (K : PySem.W.Frag) (a : Addr) (xs : List V) : Prop :=
  ∃ (o : Obj) (its : Array Value) (n : Nat), K.lookup a = some o ∧ o.cls = .type "tuple" ∧ o.data = .seq its n ∧ its.size ≤ sizeLine ∧ Vals xs its.toList
/-- .. a list -/
def CL (K : PySem.W.Frag) (a : Addr) (xs : List V) : Prop :=
  ∃ (o : Obj) (its : Array Value) (n : Nat), K.lookup a = some o ∧ o.cls = .type "list" ∧ o.dict = none ∧ o.data = .seq its n ∧ its.size ≤ sizeLine ∧ Vals xs its.toList
/-- where the store's objects stand; hd: objects in the making, that no value means -/
structure Pls where
  pl : List Addr
  hd : List Addr
instance : Membership Addr Pls := ⟨fun ι a => a ∈ ι.pl ∨ a ∈ ι.hd⟩
theorem Pls.mem {ι : Pls} {a : Addr} : a ∈ ι ↔ a ∈ ι.pl ∨ a ∈ ι.hd := Iff.rfl
theorem Pls.nmem {ι : Pls} {a : Addr} : a ∉ ι ↔ a ∉ ι.pl ∧ a ∉ ι.hd := not_or
def Pls.push (ι : Pls) (a : Addr) : Pls := ⟨ι.pl ++ [a], ι.hd⟩
def Pls.hide (ι : Pls) (a : Addr) : Pls := ⟨ι.pl, a :: ι.hd⟩
section
variable (w : World) (K : PySem.W.Frag) (fa : Nat → Option Addr)
mutual
/-- the value w stands for: ι says where the store's objects stand -/
def RV (H : Hp) (ι : Pls) : W → V → Prop
  | .non, v => v = .non
  | .bl b, v => v = .bl b
  | .int i, v => v = .int i
  | .str x, v => v = .str x ∧ litOk x = true
  | .tup ws, v => ∃ a vs, v = .ref a ∧ ((Rd H a (.tup vs) ∧ a ∉ ι) ∨ CT K a vs) ∧ RVs H ι ws vs
  | .lst ws, v => ∃ a vs, v = .ref a ∧ ((Rd H a (.lst vs) ∧ a ∉ ι) ∨ CL K a vs) ∧ RVs H ι ws vs
  | .dct ks us, v => ∃ a es ep kvs uvs, v = .ref a ∧ H a = some (dOb a es ep) ∧ a ∉ ι ∧ Ents w ks kvs uvs es ∧ (ks.map W.nkey).Nodup ∧ RVs H ι ks kvs ∧ RVs H ι us uvs
  | .ref n, v => ∃ a, ι.pl[n]? = some a ∧ v = .ref a
  | .fn f, v => ∃ a, fa f = some a ∧ v = .ref a
def RVs (H : Hp) (ι : Pls) : List W → List V → Prop
  | [], vs => vs = []
  | w :: ws, vs => ∃ v vs', vs = v :: vs' ∧ RV H ι w v ∧ RVs H ι ws vs'
end
def RO (H : Hp) (ι : Pls) (a : Addr) : Ob → Prop
  | .lst ws => ∃ vs, H a = some (.lst vs) ∧ RVs w K fa H ι ws vs
  | .dct ks us => ∃ es ep kvs uvs, H a = some (dOb a es ep) ∧ Ents w ks kvs uvs es ∧ (ks.map W.nkey).Nodup ∧ RVs w K fa H ι ks kvs ∧ RVs w K fa H ι us uvs
structure RS (H : Hp) (ι : Pls) (S : Sto) : Prop where
  len : ι.pl.length = S.length
  nd : ι.pl.Nodup
  dj : ∀ a ∈ ι.hd, a ∉ ι.pl
  hid : ∀ a ∈ ι.hd, H a ≠ none
  ob : ∀ (n : Nat) (o : Ob) (a : Addr), S[n]? = some o → ι.pl[n]? = some a → RO w K fa H ι a o
structure RR (H : Hp) (ι : Pls) (ρ : Rho) (σ : St) : Prop where
  len : ρ.length = σ.length
  at_ : ∀ (i : Nat) (x : W), ρ[i]? = some (some x) → ∃ v, σ[i]? = some (some v) ∧ RV w K fa H ι x v
end

/-- a step: the store's places may be more; what is tracked and no place of the store's stays -/
structure Ext (ι : Pls) (H : Hp) (ι' : Pls) (H' : Hp) : Prop where
  pre : ∃ κ, ι'.pl = ι.pl ++ κ ∧ ∀ a ∈ κ, H a = none
  hid : ι'.hd = ι.hd
  keep : ∀ a o, H a = some o → a ∉ ι.pl → H' a = some o
  there : ∀ a, H a ≠ none → H' a ≠ none
  dk : ∀ a es ep, H a = some (dOb a es ep) → ∃ es' ep', H' a = some (dOb a es' ep') ∧ es.length ≤ es'.length ∧ (es'.length = es.length → ep' = ep)
theorem Ext.refl (ι : Pls) (H : Hp) : Ext ι H ι H := ⟨⟨[], by simp, fun _ h => nomatch h⟩, rfl, fun _ _ h _ => h, fun _ h => h, fun _ es ep h => ⟨es, ep, h, Nat.le_refl _, fun _ => rfl⟩⟩
theorem Ext.nopl {ι ι' : Pls} {H H' : Hp} (x : Ext ι H ι' H') {a : Addr} (h : H a ≠ none) (n : a ∉ ι.pl) : a ∉ ι'.pl := by
  obtain ⟨κ, e, hk⟩ := x.pre
  rw [e]
  intro m
  rcases List.mem_append.mp m with m | m
  · exact n m
  · exact h (hk a m)
theorem Ext.notin {ι ι' : Pls} {H H' : Hp} (x : Ext ι H ι' H') {a : Addr} (h : H a ≠ none) (n : a ∉ ι) : a ∉ ι' := by
  rw [Pls.nmem] at n ⊢
  exact ⟨x.nopl h n.1, by rw [x.hid]; exact n.2⟩
theorem Ext.trans {ι ι1 ι2 : Pls} {H H1 H2 : Hp} (x : Ext ι H ι1 H1) (y : Ext ι1 H1 ι2 H2) : Ext ι H ι2 H2 := by
  refine ⟨?_, y.hid.trans x.hid, fun a o h n => ?_, fun a h => y.there a (x.there a h), fun a es ep h => ?_⟩
  · obtain ⟨κ, e, hk⟩ := x.pre
    obtain ⟨κ', e', hk'⟩ := y.pre
    refine ⟨κ ++ κ', by rw [e', e, List.append_assoc], fun a m => ?_⟩
    rcases List.mem_append.mp m with m | m
    · exact hk a m
    · cases q : H a with
      | none => rfl
      | some o => exact absurd (hk' a m) (x.there a (by rw [q]; simp))
  · exact y.keep a o (x.keep a o h n) (x.nopl (by rw [h]; simp) n)
  · obtain ⟨es1, ep1, h1, l1, q1⟩ := x.dk a es ep h
    obtain ⟨es2, ep2, h2, l2, q2⟩ := y.dk a es1 ep1 h1
    exact ⟨es2, ep2, h2, Nat.le_trans l1 l2, fun e => by rw [q2 (by omega), q1 (by omega)]⟩
theorem Ext.at {ι ι' : Pls} {H H' : Hp} (x : Ext ι H ι' H') {n : Nat} {a : Addr} (h : ι.pl[n]? = some a) : ι'.pl[n]? = some a := by
  obtain ⟨κ, e, _⟩ := x.pre
  rw [e, List.getElem?_append_left (List.getElem?_eq_some_iff.mp h).1]
  exact h
/-- as a step, but that objects in the making may be written -/
structure Exh (ι : Pls) (H : Hp) (ι' : Pls) (H' : Hp) : Prop where
  pre : ∀ (n : Nat) (a : Addr), ι.pl[n]? = some a → ι'.pl[n]? = some a
  out : ∀ a, H a ≠ none → a ∉ ι → a ∉ ι'
  keep : ∀ a o, H a = some o → a ∉ ι → H' a = some o
  there : ∀ a, H a ≠ none → H' a ≠ none
  hdo : ∀ a, H a ≠ none → a ∉ ι.hd → a ∉ ι'.hd
  dk : ∀ a es ep, a ∉ ι.hd → H a = some (dOb a es ep) → ∃ es' ep', H' a = some (dOb a es' ep') ∧ es.length ≤ es'.length ∧ (es'.length = es.length → ep' = ep)
theorem Ext.exh {ι ι' : Pls} {H H' : Hp} (x : Ext ι H ι' H') : Exh ι H ι' H' := ⟨fun _ _ => x.at, fun _ => x.notin, fun a o h n => x.keep a o h (Pls.nmem.mp n).1, x.there, fun a _ n => by rw [x.hid]; exact n, fun a es ep _ => x.dk a es ep⟩
theorem Exh.trans {ι ι1 ι2 : Pls} {H H1 H2 : Hp} (x : Exh ι H ι1 H1) (y : Exh ι1 H1 ι2 H2) : Exh ι H ι2 H2 := by
  refine ⟨fun n a h => y.pre n a (x.pre n a h), fun a h n => y.out a (x.there a h) (x.out a h n), fun a o h n => y.keep a o (x.keep a o h n) (x.out a (by rw [h]; simp) n), fun a h => y.there a (x.there a h),
    fun a h n => y.hdo a (x.there a h) (x.hdo a h n), fun a es ep n h => ?_⟩
  obtain ⟨es1, ep1, h1, l1, q1⟩ := x.dk a es ep n h
  obtain ⟨es2, ep2, h2, l2, q2⟩ := y.dk a es1 ep1 (x.hdo a (by rw [h]; simp) n) h1
  exact ⟨es2, ep2, h2, Nat.le_trans l1 l2, fun e => by rw [q2 (by omega), q1 (by omega)]⟩
theorem Exh.rd {ι ι' : Pls} {H H' : Hp} (x : Exh ι H ι' H') {a : Addr} {u : HO} (h : Rd H a u) (n : a ∉ ι) : Rd H' a u ∧ a ∉ ι' := by
  rcases h with h | ⟨o, h⟩
  · exact ⟨.inl (x.keep a _ h n), x.out a (by rw [h]; simp) n⟩
  · exact ⟨.inr ⟨o, x.keep a _ h n⟩, x.out a (by rw [h]; simp) n⟩

section
variable {w : World} {K : PySem.W.Frag} {fa : Nat → Option Addr} {H H' : Hp} {ι ι' : Pls}
mutual
theorem RV.monoH (x : Exh ι H ι' H') : ∀ (a : W) (v : V), RV w K fa H ι a v → RV w K fa H' ι' a v
  | .non, v, h => by simpa only [RV] using h
  | .bl b, v, h => by simpa only [RV] using h
  | .int i, v, h => by simpa only [RV] using h
  | .str s, v, h => by simpa only [RV] using h
  | .fn f, v, h => by simpa only [RV] using h
  | .ref n, v, h => by
    simp only [RV] at h ⊢
    obtain ⟨a, e, r⟩ := h
    exact ⟨a, x.pre n a e, r⟩
  | .tup ws, v, h => by
    simp only [RV] at h ⊢
    obtain ⟨a, vs, e, t, r⟩ := h
    refine ⟨a, vs, e, ?_, RVs.monoH x ws vs r⟩
    rcases t with ⟨t, n⟩ | t
    · exact .inl (x.rd t n)
    · exact .inr t
  | .lst ws, v, h => by
    simp only [RV] at h ⊢
    obtain ⟨a, vs, e, t, r⟩ := h
    refine ⟨a, vs, e, ?_, RVs.monoH x ws vs r⟩
    rcases t with ⟨t, n⟩ | t
    · exact .inl (x.rd t n)
    · exact .inr t
  | .dct ks us, v, h => by
    simp only [RV] at h ⊢
    obtain ⟨a, es, ep, kvs, uvs, e, t, n, en, nd, r1, r2⟩ := h
    exact ⟨a, es, ep, kvs, uvs, e, x.keep a _ t n, x.out a (by rw [t]; simp) n, en, nd, RVs.monoH x ks kvs r1, RVs.monoH x us uvs r2⟩
theorem RVs.monoH (x : Exh ι H ι' H') : ∀ (as : List W) (vs : List V), RVs w K fa H ι as vs → RVs w K fa H' ι' as vs
  | [], vs, h => by simpa only [RVs] using h
  | a :: as, vs, h => by
    simp only [RVs] at h ⊢
    obtain ⟨v, vs', e, r, rs⟩ := h
    exact ⟨v, vs', e, RV.monoH x a v r, RVs.monoH x as vs' rs⟩
end
theorem RV.mono (x : Ext ι H ι' H') (a : W) (v : V) (h : RV w K fa H ι a v) : RV w K fa H' ι' a v := RV.monoH x.exh a v h
theorem RVs.mono (x : Ext ι H ι' H') (as : List W) (vs : List V) (h : RVs w K fa H ι as vs) : RVs w K fa H' ι' as vs := RVs.monoH x.exh as vs h
theorem RR.monoH {ρ : Rho} {σ : St} (x : Exh ι H ι' H') (r : RR w K fa H ι ρ σ) : RR w K fa H' ι' ρ σ :=
  ⟨r.len, fun i a e => let ⟨v, e', q⟩ := r.at_ i a e; ⟨v, e', q.monoH x⟩⟩
theorem RR.mono {ρ : Rho} {σ : St} (x : Ext ι H ι' H') (r : RR w K fa H ι ρ σ) : RR w K fa H' ι' ρ σ := r.monoH x.exh

/-! ### lists of values -/
theorem RVs.nil : RVs w K fa H ι [] [] := by simp only [RVs]
theorem RVs.cons {a : W} {as : List W} {v : V} {vs : List V} (h : RV w K fa H ι a v) (t : RVs w K fa H ι as vs) : RVs w K fa H ι (a :: as) (v :: vs) := by
  simp only [RVs]; exact ⟨v, vs, rfl, h, t⟩
theorem RVs.cons_inv {a : W} {as : List W} {vs : List V} (h : RVs w K fa H ι (a :: as) vs) : ∃ v vs', vs = v :: vs' ∧ RV w K fa H ι a v ∧ RVs w K fa H ι as vs' := by
  simpa only [RVs] using h
theorem RVs.nil_inv {vs : List V} (h : RVs w K fa H ι [] vs) : vs = [] := by simpa only [RVs] using h
theorem RVs.length : ∀ {as : List W} {vs : List V}, RVs w K fa H ι as vs → as.length = vs.length
  | [], _, h => by rw [h.nil_inv]; rfl
  | a :: as, _, h => by
    obtain ⟨v, vs', rfl, _, t⟩ := h.cons_inv
    simp [t.length]
theorem RVs.append : ∀ {as bs : List W} {vs us : List V}, RVs w K fa H ι as vs → RVs w K fa H ι bs us → RVs w K fa H ι (as ++ bs) (vs ++ us)
  | [], _, _, _, h, t => by rw [h.nil_inv]; exact t
  | a :: as, _, _, _, h, t => by
    obtain ⟨v, vs', rfl, r, q⟩ := h.cons_inv
    exact .cons r (q.append t)
theorem RVs.get : ∀ {as : List W} {vs : List V} {i : Nat} {a : W}, RVs w K fa H ι as vs → as[i]? = some a → ∃ v, vs[i]? = some v ∧ RV w K fa H ι a v
  | [], _, _, _, _, e => by simp at e
  | b :: as, _, 0, a, h, e => by
    obtain ⟨v, vs', rfl, r, q⟩ := h.cons_inv
    simp at e; subst e
    exact ⟨v, rfl, r⟩
  | b :: as, _, i + 1, a, h, e => by
    obtain ⟨v, vs', rfl, r, q⟩ := h.cons_inv
    obtain ⟨u, h1, h2⟩ := q.get (i := i) (by simpa using e)
    exact ⟨u, by simpa using h1, h2⟩
theorem RVs.get' : ∀ {as : List W} {vs : List V} {i : Nat} {v : V}, RVs w K fa H ι as vs → vs[i]? = some v → ∃ a, as[i]? = some a ∧ RV w K fa H ι a v
  | [], _, _, _, h, e => by rw [h.nil_inv] at e; simp at e
  | b :: as, _, 0, v, h, e => by
    obtain ⟨v, vs', rfl, r, q⟩ := h.cons_inv
    simp at e; subst e
    exact ⟨b, rfl, r⟩
  | b :: as, _, i + 1, v, h, e => by
    obtain ⟨v, vs', rfl, r, q⟩ := h.cons_inv
    obtain ⟨u, h1, h2⟩ := q.get' (i := i) (by simpa using e)
    exact ⟨u, by simpa using h1, h2⟩
theorem RVs.take : ∀ {as : List W} {vs : List V} (n : Nat), RVs w K fa H ι as vs → RVs w K fa H ι (as.take n) (vs.take n)
  | _, _, 0, _ => by simpa using RVs.nil
  | [], _, n + 1, h => by rw [h.nil_inv]; simpa using RVs.nil
  | a :: as, _, n + 1, h => by
    obtain ⟨v, vs', rfl, r, q⟩ := h.cons_inv
    exact .cons r (q.take n)
theorem RVs.drop : ∀ {as : List W} {vs : List V} (n : Nat), RVs w K fa H ι as vs → RVs w K fa H ι (as.drop n) (vs.drop n)
  | _, _, 0, h => by simpa using h
  | [], _, n + 1, h => by rw [h.nil_inv]; simpa using RVs.nil
  | a :: as, _, n + 1, h => by
    obtain ⟨v, vs', rfl, r, q⟩ := h.cons_inv
    exact q.drop n
theorem RVs.set {a : W} {v : V} (r : RV w K fa H ι a v) : ∀ {as : List W} {vs : List V} (n : Nat), RVs w K fa H ι as vs → RVs w K fa H ι (as.set n a) (vs.set n v)
  | [], _, n, h => by rw [h.nil_inv]; simpa using RVs.nil
  | b :: as, _, 0, h => by
    obtain ⟨v, vs', rfl, _, q⟩ := h.cons_inv
    exact .cons r q
  | b :: as, _, n + 1, h => by
    obtain ⟨v, vs', rfl, r', q⟩ := h.cons_inv
    exact .cons r' (q.set r n)
theorem RVs.reverse : ∀ {as : List W} {vs : List V}, RVs w K fa H ι as vs → RVs w K fa H ι as.reverse vs.reverse
  | [], _, h => by rw [h.nil_inv]; simpa using RVs.nil
  | a :: as, _, h => by
    obtain ⟨v, vs', rfl, r, q⟩ := h.cons_inv
    rw [List.reverse_cons, List.reverse_cons]
    exact q.reverse.append (.cons r .nil)
theorem RVs.dropLast {as : List W} {vs : List V} (h : RVs w K fa H ι as vs) : RVs w K fa H ι as.dropLast vs.dropLast := by
  rw [List.dropLast_eq_take, List.dropLast_eq_take, h.length]; exact h.take _
theorem RVs.eraseIdx : ∀ {as : List W} {vs : List V} (n : Nat), RVs w K fa H ι as vs → RVs w K fa H ι (as.eraseIdx n) (vs.eraseIdx n)
  | [], _, n, h => by rw [h.nil_inv]; simpa using RVs.nil
  | b :: as, _, 0, h => by
    obtain ⟨v, vs', rfl, _, q⟩ := h.cons_inv
    exact q
  | b :: as, _, n + 1, h => by
    obtain ⟨v, vs', rfl, r', q⟩ := h.cons_inv
    exact .cons r' (q.eraseIdx n)
theorem RVs.rep {as : List W} {vs : List V} (h : RVs w K fa H ι as vs) : ∀ k : Nat, RVs w K fa H ι (TZ.rep k as) (List.replicate k vs).flatten
  | 0 => RVs.nil
  | k + 1 => by
    show RVs w K fa H ι (List.replicate (k + 1) as).flatten (List.replicate (k + 1) vs).flatten
    rw [List.replicate_succ, List.replicate_succ, List.flatten_cons, List.flatten_cons]
    exact h.append (h.rep k)
theorem RVs.cut {as : List W} {vs : List V} (h : RVs w K fa H ι as vs) (lo hi : Option Int) : RVs w K fa H ι (cutOf as lo hi) (cutV vs lo hi) := by
  have e : ∀ n d o, plOf n d o = HT.sIx n d o := fun n d o => by cases o <;> rfl
  unfold cutOf cutV
  rw [e, e, h.length]
  exact (h.drop _).take _

/-! ### the store's objects -/
theorem RO.monoH {o : Ob} {a : Addr} (x : Exh ι H ι' H') (h : RO w K fa H ι a o) (e : H' a = H a) : RO w K fa H' ι' a o := by
  cases o with
  | lst ws =>
    obtain ⟨vs, h1, h2⟩ := h
    exact ⟨vs, by rw [e]; exact h1, h2.monoH x⟩
  | dct ks us =>
    obtain ⟨es, ep, kvs, uvs, h1, h2, h3, h4, h5⟩ := h
    exact ⟨es, ep, kvs, uvs, by rw [e]; exact h1, h2, h3, h4.monoH x, h5.monoH x⟩
theorem RO.there {o : Ob} {a : Addr} (h : RO w K fa H ι a o) : H a ≠ none := by
  cases o with
  | lst ws => obtain ⟨vs, h1, _⟩ := h; rw [h1]; simp
  | dct ks us => obtain ⟨es, ep, kvs, uvs, h1, _⟩ := h; rw [h1]; simp
theorem RS.there {S : Sto} (r : RS w K fa H ι S) {a : Addr} (m : a ∈ ι) : H a ≠ none := by
  rcases Pls.mem.mp m with m | m
  · obtain ⟨n, hn, e⟩ := List.getElem_of_mem m
    have hs : n < S.length := by rw [← r.len]; exact hn
    exact (r.ob n S[n] a (by simp [hs]) (by simp [hn, e])).there
  · exact r.hid a m
/-- a new object that is no place of the store's -/
theorem ext_new {p : Addr} {o : HO} (hp : H p = none) : Ext ι H ι (upd H p o) := by
  refine ⟨⟨[], by simp, fun _ h => nomatch h⟩, rfl, fun a u h _ => ?_, fun a h => ?_, fun a es ep h => ⟨es, ep, ?_, Nat.le_refl _, fun _ => rfl⟩⟩
  · rw [upd_ne (ne_of_none h hp)]; exact h
  · by_cases e : a = p
    · rw [e, upd_same]; simp
    · rw [upd_ne e]; exact h
  · rw [upd_ne (ne_of_none h hp)]; exact h
theorem RS.new {S : Sto} (r : RS w K fa H ι S) {p : Addr} {o : HO} (hp : H p = none) : Ext ι H ι (upd H p o) ∧ RS w K fa (upd H p o) ι S ∧ p ∉ ι := by
  have x : Ext ι H ι (upd H p o) := ext_new hp
  have n : p ∉ ι := fun m => r.there m hp
  refine ⟨x, ⟨r.len, r.nd, r.dj, fun a m => x.there a (r.hid a m), fun k ob a h1 h2 => (r.ob k ob a h1 h2).monoH x.exh ?_⟩, n⟩
  have q : a ≠ p := fun e => n (Pls.mem.mpr (.inl (by rw [← e]; exact List.mem_of_getElem? h2)))
  exact upd_ne q
/-- a new place -/
theorem RS.push {S : Sto} (r : RS w K fa H ι S) {p : Addr} {o : HO} {ob : Ob} (hp : H p = none)
    (h : ∀ H' ι', Ext ι H ι' H' → H' p = some o → RO w K fa H' ι' p ob) :
    Ext ι H (ι.push p) (upd H p o) ∧ RS w K fa (upd H p o) (ι.push p) (S ++ [ob]) := by
  have n : p ∉ ι := fun m => r.there m hp
  have n1 := Pls.nmem.mp n
  have x : Ext ι H (ι.push p) (upd H p o) := by
    refine ⟨⟨[p], rfl, fun a m => by rw [List.mem_singleton.mp m]; exact hp⟩, rfl, fun a u h _ => ?_, fun a h => ?_, fun a es ep h => ⟨es, ep, ?_, Nat.le_refl _, fun _ => rfl⟩⟩
    · rw [upd_ne (ne_of_none h hp)]; exact h
    · by_cases e : a = p
      · rw [e, upd_same]; simp
      · rw [upd_ne e]; exact h
    · rw [upd_ne (ne_of_none h hp)]; exact h
  refine ⟨x, ⟨by simp [Pls.push, r.len], ?_, ?_, fun a m => x.there a (r.hid a m), fun k u a h1 h2 => ?_⟩⟩
  · exact List.nodup_append.mpr ⟨r.nd, by simp, fun a ha b hb => by rw [List.mem_singleton.mp hb]; exact fun e => n1.1 (e ▸ ha)⟩
  · intro a ha m
    rcases List.mem_append.mp m with m | m
    · exact r.dj a ha m
    · rw [List.mem_singleton.mp m] at ha; exact n1.2 ha
  · have h2 : (ι.pl ++ [p])[k]? = some a := h2
    by_cases hk : k < S.length
    · rw [List.getElem?_append_left hk] at h1
      rw [List.getElem?_append_left (by rw [r.len]; exact hk)] at h2
      refine (r.ob k u a h1 h2).monoH x.exh ?_
      have q : a ≠ p := fun e => n1.1 (by rw [← e]; exact List.mem_of_getElem? h2)
      exact upd_ne q
    · have hk' : k = S.length := by
        have := (List.getElem?_eq_some_iff.mp h1).1
        simp at this; omega
      subst hk'
      rw [List.getElem?_append_right (Nat.le_refl _), Nat.sub_self] at h1
      rw [← r.len, List.getElem?_append_right (Nat.le_refl _), Nat.sub_self] at h2
      simp at h1 h2
      subst h1 h2
      exact h _ _ x upd_same
theorem RS.last {S : Sto} (r : RS w K fa H ι S) (p : Addr) : (ι.push p).pl[S.length]? = some p := by
  show (ι.pl ++ [p])[S.length]? = some p
  rw [← r.len]; simp
/-- a list written over -/
theorem lst_no {p : Addr} {vs : List V} {o : HO} (h : H p = some (.lst vs)) : ∀ es ep, H p = some (dOb p es ep) → ∃ es' ep', o = dOb p es' ep' ∧ es.length ≤ es'.length ∧ (es'.length = es.length → ep' = ep) := fun es ep e => by
  rw [h] at e; cases e
/-- a place written -/
theorem RS.put {S : Sto} (r : RS w K fa H ι S) {n : Nat} {p : Addr} {o : HO} {ob : Ob} (hn : ι.pl[n]? = some p)
    (hd : ∀ es ep, H p = some (dOb p es ep) → ∃ es' ep', o = dOb p es' ep' ∧ es.length ≤ es'.length ∧ (es'.length = es.length → ep' = ep))
    (h : ∀ H' ι', Ext ι H ι' H' → H' p = some o → RO w K fa H' ι' p ob) :
    Ext ι H ι (upd H p o) ∧ RS w K fa (upd H p o) ι (S.set n ob) := by
  have m : p ∈ ι.pl := List.mem_of_getElem? hn
  have x : Ext ι H ι (upd H p o) := by
    refine ⟨⟨[], by simp, fun _ h => nomatch h⟩, rfl, fun a u h q => ?_, fun a h => ?_, fun a es ep h0 => ?_⟩
    · have z : a ≠ p := fun e => q (by rw [e]; exact m)
      rw [upd_ne z]; exact h
    · by_cases e : a = p
      · rw [e, upd_same]; simp
      · rw [upd_ne e]; exact h
    · by_cases e : a = p
      · rw [e] at h0 ⊢
        obtain ⟨es', ep', e1, e2, e3⟩ := hd es ep h0
        exact ⟨es', ep', by rw [upd_same, e1], e2, e3⟩
      · exact ⟨es, ep, by rw [upd_ne e]; exact h0, Nat.le_refl _, fun _ => rfl⟩
  refine ⟨x, ⟨by simp [r.len], r.nd, r.dj, fun a m => x.there a (r.hid a m), fun k u a h1 h2 => ?_⟩⟩
  by_cases hk : n = k
  · subst hk
    rw [hn] at h2; cases h2
    have hs : n < S.length := by rw [← r.len]; exact (List.getElem?_eq_some_iff.mp hn).1
    rw [List.getElem?_set_self hs] at h1
    cases h1
    exact h _ _ x upd_same
  · rw [List.getElem?_set_ne hk] at h1
    refine (r.ob k u a h1 h2).monoH x.exh ?_
    have ne : a ≠ p := fun e => by
      subst e
      obtain ⟨l1, e1⟩ := List.getElem?_eq_some_iff.mp hn
      obtain ⟨l2, e2⟩ := List.getElem?_eq_some_iff.mp h2
      exact hk ((List.getElem_inj r.nd).mp (e1.trans e2.symm))
    rw [upd_ne ne]

/-! ### an object in the making -/
theorem exh_hide {p : Addr} {o : HO} (hp : H p = none) : Exh ι H (ι.hide p) (upd H p o) := by
  refine ⟨fun n a h => h, fun a h n => ?_, fun a u h _ => ?_, fun a h => ?_, fun a h n => ?_, fun a es ep n h => ?_⟩
  · rw [Pls.nmem] at n ⊢
    refine ⟨n.1, fun m => ?_⟩
    rcases List.mem_cons.mp m with m | m
    · rw [m] at h; exact h hp
    · exact n.2 m
  · rw [upd_ne (ne_of_none h hp)]; exact h
  · by_cases e : a = p
    · rw [e, upd_same]; simp
    · rw [upd_ne e]; exact h
  · intro m
    rcases List.mem_cons.mp m with m | m
    · rw [m] at h; exact h hp
    · exact n m
  · exact ⟨es, ep, by rw [upd_ne (ne_of_none h hp)]; exact h, Nat.le_refl _, fun _ => rfl⟩
theorem RS.hide {S : Sto} (r : RS w K fa H ι S) {p : Addr} {o : HO} (hp : H p = none) : RS w K fa (upd H p o) (ι.hide p) S := by
  have n : p ∉ ι := fun m => r.there m hp
  have n1 := Pls.nmem.mp n
  refine ⟨r.len, r.nd, fun a m => ?_, fun a m => ?_, fun k u a h1 h2 => ?_⟩
  · rcases List.mem_cons.mp m with m | m
    · rw [m]; exact n1.1
    · exact r.dj a m
  · rcases List.mem_cons.mp m with m | m
    · rw [m, upd_same]; simp
    · have : a ≠ p := fun e => n1.2 (by rw [← e]; exact m)
      rw [upd_ne this]; exact r.hid a m
  · refine (r.ob k u a h1 h2).monoH (exh_hide hp) ?_
    have q : a ≠ p := fun e => n1.1 (by rw [← e]; exact List.mem_of_getElem? h2)
    exact upd_ne q
/-- the object in the making is written -/
theorem exh_write {p : Addr} {o : HO} (hp : p ∈ ι.hd) : Exh ι H ι (upd H p o) :=
  ⟨fun n a h => h, fun a h n => n, fun a u h n => by
    have : a ≠ p := fun e => (Pls.nmem.mp n).2 (by rw [e]; exact hp)
    rw [upd_ne this]; exact h, fun a h => by
    by_cases e : a = p
    · rw [e, upd_same]; simp
    · rw [upd_ne e]; exact h, fun a h n => n, fun a es ep n h => by
    have : a ≠ p := fun e => n (by rw [e]; exact hp)
    exact ⟨es, ep, by rw [upd_ne this]; exact h, Nat.le_refl _, fun _ => rfl⟩⟩
theorem RS.write {S : Sto} (r : RS w K fa H ι S) {p : Addr} {o : HO} (hp : p ∈ ι.hd) : RS w K fa (upd H p o) ι S := by
  refine ⟨r.len, r.nd, r.dj, fun a m => ?_, fun k u a h1 h2 => (r.ob k u a h1 h2).monoH (exh_write hp) ?_⟩
  · by_cases e : a = p
    · rw [e, upd_same]; simp
    · rw [upd_ne e]; exact r.hid a m
  · exact upd_ne fun e => r.dj p hp (by rw [← e]; exact List.mem_of_getElem? h2)
/-- it is made -/
def Pls.show (ι : Pls) : Pls := ⟨ι.pl, ι.hd.tail⟩
theorem exh_show : Exh ι H ι.show H :=
  ⟨fun n a h => h, fun a h n => by
    rw [Pls.nmem] at n ⊢
    exact ⟨n.1, fun m => n.2 (List.mem_of_mem_tail m)⟩, fun a u h n => h, fun a h => h, fun a h n m => n (List.mem_of_mem_tail m), fun a es ep n h => ⟨es, ep, h, Nat.le_refl _, fun _ => rfl⟩⟩
theorem Ext.show (x : Ext ι H ι' H') : Ext ι.show H ι'.show H' := ⟨x.pre, by show ι'.hd.tail = ι.hd.tail; rw [x.hid], x.keep, x.there, x.dk⟩
/-- the object in the making wasn't there -/
theorem Ext.wr {p : Addr} {o : HO} (x : Ext ι H ι' H') (hp : H p = none) : Ext ι H ι' (upd H' p o) := by
  refine ⟨x.pre, x.hid, fun a u h n => ?_, fun a h => ?_, fun a es ep h => ?_⟩
  · rw [upd_ne (ne_of_none h hp)]; exact x.keep a u h n
  · have : a ≠ p := fun e => h (by rw [e]; exact hp)
    rw [upd_ne this]; exact x.there a h
  · obtain ⟨es', ep', h1, h2⟩ := x.dk a es ep h
    exact ⟨es', ep', by rw [upd_ne (ne_of_none h hp)]; exact h1, h2⟩
theorem RS.show {S : Sto} (r : RS w K fa H ι S) : RS w K fa H ι.show S :=
  ⟨r.len, r.nd, fun a m => r.dj a (List.mem_of_mem_tail m), fun a m => r.hid a (List.mem_of_mem_tail m), fun k u a h1 h2 => (r.ob k u a h1 h2).monoH exh_show rfl⟩
end
end TZ

set_option Elab.async false
set_option linter.all false
set_option maxRecDepth 100000
/-! A4: readings by what the small terms computes, and how they go together. -/
namespace TZ
open PySem L2 StX PyProof.Rows

/-! ### the monad -/
theorem bindM {α β : Type} {m : M α} {f : α → M β} {S S' : Sto} {b : β} (h : (m >>= f) S = some (b, S')) : ∃ a S1, m S = some (a, S1) ∧ f a S1 = some (b, S') := by
  have h : (match m S with | some (a, S1) => f a S1 | none => none) = some (b, S') := h
  cases e : m S with
  | none => rw [e] at h; cases h
  | some p => obtain ⟨a, S1⟩ := p; rw [e] at h; exact ⟨a, S1, rfl, h⟩
theorem retM {α : Type} {a b : α} {S S' : Sto} (h : (pure a : M α) S = some (b, S')) : b = a ∧ S' = S := by
  have h : some (a, S) = some (b, S') := h
  cases h; exact ⟨rfl, rfl⟩
theorem truthM {m : M W} {S S' : Sto} {b : Bool} (h : truth m S = some (b, S')) : m S = some (.bl b, S') := by
  unfold truth at h
  split at h
  · rename_i b' S1 e
    cases h; exact e
  · cases h
theorem grdM {b : Bool} {S S' : Sto} {u : Unit} (h : M.grd b S = some (u, S')) : b = true ∧ S' = S := by
  unfold M.grd at h
  split at h
  · rename_i e; cases h; exact ⟨e, rfl⟩
  · cases h
theorem bind_some {α β : Type} {m : M α} {f : α → M β} {S S1 : Sto} {a : α} (h : m S = some (a, S1)) : (m >>= f) S = f a S1 := by
  show (match m S with | some (a, S1) => f a S1 | none => none) = f a S1
  rw [h]
theorem truth_some {m : M W} {S S1 : Sto} {b : Bool} (h : m S = some (.bl b, S1)) : truth m S = some (b, S1) := by
  unfold truth; rw [h]
theorem rhoM {i : Nat} {ρ : Rho} {S S' : Sto} {a : W} (h : rhoAt i ρ S = some (a, S')) : ρ[i]? = some (some a) ∧ S' = S := by
  unfold rhoAt at h
  split at h
  · rename_i b e; cases h; exact ⟨e, rfl⟩
  · cases h
theorem itemsM {a : W} {S S' : Sto} {us : List W} (h : itemsOf a S = some (us, S')) : seqOf S a = some us ∧ S' = S := by
  unfold itemsOf at h
  split at h
  · rename_i b e; cases h; exact ⟨e, rfl⟩
  · cases h
theorem lineN_eq : lineN = sizeLine := by rw [sizeLine_eq]; rfl

section
variable (w : World) (K : PySem.W.Frag) (fa : Nat → Option Addr)
/-- behind a value: whatever the heap is then -/
def After (ι : Pls) (H : Hp) (a : W) (S' : Sto) (Q : VK) : Prop := ∀ v H' ι', Ext ι H ι' H' → RS w K fa H' ι' S' → RV w K fa H' ι' a v → Q v H'
def rV (m : Rho → M W) : TE := fun σ H Q => ∃ ι ρ S a S', RS w K fa H ι S ∧ RR w K fa H ι ρ σ ∧ m ρ S = some (a, S') ∧ After w K fa ι H a S' Q
def rA (m : Rho → M (List W)) : TA := fun σ H Q => ∃ ι ρ S as S', RS w K fa H ι S ∧ RR w K fa H ι ρ σ ∧ m ρ S = some (as, S') ∧
  ∀ vs H' ι', Ext ι H ι' H' → RS w K fa H' ι' S' → RVs w K fa H' ι' as vs → Q vs H'
def rB (m : Rho → M Bool) : TT := fun σ H Q => ∃ ι ρ S b S', RS w K fa H ι S ∧ RR w K fa H ι ρ σ ∧ m ρ S = some (b, S') ∧
  ∀ H' ι', Ext ι H ι' H' → RS w K fa H' ι' S' → Q b H'
def rO2 (f : W → W → M W) : R2 := fun x y H Q => ∃ ι S a b c S', RS w K fa H ι S ∧ RV w K fa H ι a x ∧ RV w K fa H ι b y ∧ f a b S = some (c, S') ∧ After w K fa ι H c S' Q
def rCl (f : List W → M W) : List V → Hp → VK → Prop := fun xs H Q => ∃ ι S as c S', RS w K fa H ι S ∧ RVs w K fa H ι as xs ∧ f as S = some (c, S') ∧ After w K fa ι H c S' Q
def rMt (f : W → List W → M W) : V → List V → Hp → VK → Prop := fun x xs H Q => ∃ ι S a as c S', RS w K fa H ι S ∧ RV w K fa H ι a x ∧ RVs w K fa H ι as xs ∧ f a as S = some (c, S') ∧ After w K fa ι H c S' Q
end
section
variable {w : World} {K : PySem.W.Frag} {fa : Nat → Option Addr}
theorem After.mono {ι ι1 : Pls} {H H1 : Hp} {a : W} {S' : Sto} {Q : VK} (h : After w K fa ι H a S' Q) (x : Ext ι H ι1 H1) : After w K fa ι1 H1 a S' Q :=
  fun v H' ι' y rs rv => h v H' ι' (x.trans y) rs rv
/-- nothing is made: the value is there -/
theorem After.here {ι : Pls} {H : Hp} {a : W} {S : Sto} {Q : VK} {v : V} (h : After w K fa ι H a S Q) (rs : RS w K fa H ι S) (rv : RV w K fa H ι a v) : Q v H := h v H ι (Ext.refl _ _) rs rv
end

theorem PEimp {X : Cx} {e : Expr} {t t' : TE} (h : PE X e t) (i : ∀ σ H Q, t' σ H Q → t σ H Q) : PE X e t' := ⟨fun pins s σ H Q I q => h.run pins s σ H Q I (i σ H Q q)⟩
theorem PTimp {X : Cx} {e : Expr} {t t' : TT} (h : PT X e t) (i : ∀ σ H Q, t' σ H Q → t σ H Q) : PT X e t' := ⟨fun pins s σ H Q I q => h.run pins s σ H Q I (i σ H Q q)⟩
theorem PWimp {X : Cx} {e : Expr} {t t' : TT} (h : PW X e t) (i : ∀ σ H Q, t' σ H Q → t σ H Q) : PW X e t' := ⟨fun wh pins s σ H Q I q => h.run wh pins s σ H Q I (i σ H Q q)⟩
theorem PAimp {X : Cx} {e : List Expr} {t t' : TA} (h : PA X e t) (i : ∀ σ H Q, t' σ H Q → t σ H Q) : PA X e t' := ⟨fun pos pins s σ H Q I q => h.run pos pins s σ H Q I (i σ H Q q)⟩
theorem PSimp {X : Cx} {e : Stmt} {t t' : TS} (h : PS X e t) (i : ∀ D σ H, t' D σ H → t D σ H) : PS X e t' := ⟨fun pins s σ H D I q => h.run pins s σ H D I (i D σ H q)⟩
theorem PSsimp {X : Cx} {e : List Stmt} {t t' : TS} (h : PSs X e t) (i : ∀ D σ H, t' D σ H → t D σ H) : PSs X e t' := ⟨fun pins s σ H D I q => h.run pins s σ H D I (i D σ H q)⟩

section
variable {X : Cx} {w : World} {K : PySem.W.Frag} {fa : Nat → Option Addr} {pos : Pos}

/-! ### names and constants -/
theorem ev_const {e : Expr} {v : V} {a : W} (h : PE X e (tC v)) (r : ∀ H ι, RV w K fa H ι a v) : PE X e (rV w K fa fun _ => .ret a) :=
  PEimp h fun σ H Q ⟨ι, ρ, S, b, S', rs, rr, hm, q⟩ => by
    have e : some (a, S) = some (b, S') := hm
    cases e
    exact q.here rs (r H ι)
theorem ev_var {i : Nat} {x : Str} {p : Pos} (h : PE X (.Name x p) (tVar i)) : PE X (.Name x p) (rV w K fa (rhoAt i)) :=
  PEimp h fun σ H Q ⟨ι, ρ, S, b, S', rs, rr, hm, q⟩ => by
    obtain ⟨e, rfl⟩ := rhoM hm
    obtain ⟨v, e', rv⟩ := rr.at_ i _ e
    exact ⟨v, e', q.here rs rv⟩

/-! ### argument lists and displays -/
theorem ev_nil : PA X [] (rA w K fa fun _ => .ret []) := PAimp pa_nil fun σ H Q ⟨ι, ρ, S, b, S', rs, rr, hm, q⟩ => by
  have e : some (([] : List W), S) = some (b, S') := hm
  cases e
  exact q [] H ι (Ext.refl _ _) rs .nil
theorem ev_cons {e : Expr} {es : List Expr} {m : Rho → M W} {ms : Rho → M (List W)} (h1 : PE X e (rV w K fa m)) (h2 : PA X es (rA w K fa ms)) (hs : starEach (e :: es) X.env = (false, eval e X.env) :: starEach es X.env) :
    PA X (e :: es) (rA w K fa fun ρ => do let a ← m ρ; let as ← ms ρ; pure (a :: as)) := PAimp (pa_cons h1 h2 hs) fun σ H Q ⟨ι, ρ, S, b, S', rs, rr, hm, q⟩ => by
  obtain ⟨a, S1, h1, hm⟩ := bindM hm
  obtain ⟨as, S2, h2, hm⟩ := bindM hm
  obtain ⟨rfl, rfl⟩ := retM hm
  exact ⟨ι, ρ, S, a, S1, rs, rr, h1, fun v H1 ι1 x1 rs1 rv1 => ⟨ι1, ρ, S1, as, _, rs1, rr.mono x1, h2, fun vs H2 ι2 x2 rs2 rv2 => q (v :: vs) H2 ι2 (x1.trans x2) rs2 (.cons (rv1.mono x2) rv2)⟩⟩
theorem seqOf_rv {H : Hp} {ι : Pls} {S : Sto} {a : W} {ws : List W} {v : V} (rs : RS w K fa H ι S) (h : seqOf S a = some ws) (rv : RV w K fa H ι a v) : ∃ p vs, v = .ref p ∧ (SqT K H p vs ∨ SqL K H p vs) ∧ RVs w K fa H ι ws vs := by
  cases a with
  | tup us =>
    cases h
    simp only [RV] at rv
    obtain ⟨p, vs, e, t, r⟩ := rv
    refine ⟨p, vs, e, .inl ?_, r⟩
    rcases t with ⟨t, _⟩ | t
    · exact .inl t
    · exact .inr t
  | lst us =>
    cases h
    simp only [RV] at rv
    obtain ⟨p, vs, e, t, r⟩ := rv
    refine ⟨p, vs, e, .inr ?_, r⟩
    rcases t with ⟨t, _⟩ | t
    · exact .inl t
    · exact .inr t
  | ref n =>
    simp only [RV] at rv
    obtain ⟨p, hp, e⟩ := rv
    have h : (match S[n]? with | some (Ob.lst ws) => some ws | _ => none) = some ws := h
    split at h
    · rename_i us hn
      cases h
      obtain ⟨vs, h1, h2⟩ := rs.ob n _ p hn hp
      exact ⟨p, vs, e, .inr (SqL.of h1), h2⟩
    · cases h
  | non => cases h
  | bl b => cases h
  | int i => cases h
  | str s => cases h
  | dct ks us => cases h
  | fn f => cases h
theorem listOf_seq {S : Sto} {a : W} {ws : List W} (h : listOf S a = some ws) : seqOf S a = some ws := by
  cases a <;> first | exact h | cases h
theorem listOf_rv {H : Hp} {ι : Pls} {S : Sto} {a : W} {ws : List W} {v : V} (rs : RS w K fa H ι S) (h : listOf S a = some ws) (rv : RV w K fa H ι a v) : ∃ p vs, v = .ref p ∧ SqL K H p vs ∧ RVs w K fa H ι ws vs := by
  cases a with
  | lst us =>
    cases h
    simp only [RV] at rv
    obtain ⟨p, vs, e, t, r⟩ := rv
    refine ⟨p, vs, e, ?_, r⟩
    rcases t with ⟨t, _⟩ | t
    · exact .inl t
    · exact .inr t
  | ref n =>
    simp only [RV] at rv
    obtain ⟨p, hp, e⟩ := rv
    have h : (match S[n]? with | some (Ob.lst ws) => some ws | _ => none) = some ws := h
    split at h
    · rename_i us hn
      cases h
      obtain ⟨vs, h1, h2⟩ := rs.ob n _ p hn hp
      exact ⟨p, vs, e, SqL.of h1, h2⟩
    · cases h
  | non => cases h
  | bl b => cases h
  | int i => cases h
  | str s => cases h
  | tup ws => cases h
  | dct ks us => cases h
  | fn f => cases h
theorem ev_star {e : Expr} {es : List Expr} {p : Pos} {m : Rho → M W} {ms : Rho → M (List W)} (hK : K = X.K) (h1 : PE X e (rV w K fa m)) (h2 : PA X es (rA w K fa ms)) :
    PA X (.Starred e p :: es) (rA w K fa fun ρ => do
      let a ← m ρ
      let us ← itemsOf a
      let as ← ms ρ
      pure (us ++ as)) := PAimp (pa_star h1 h2) fun σ H Q ⟨ι, ρ, S, b, S', rs, rr, hm, q⟩ => by
  subst hK
  obtain ⟨a, S1, h1, hm⟩ := bindM hm
  obtain ⟨us, S2, h2, hm⟩ := bindM hm
  obtain ⟨as, S3, h3, hm⟩ := bindM hm
  obtain ⟨rfl, rfl⟩ := retM hm
  refine ⟨ι, ρ, S, a, S1, rs, rr, h1, fun v H1 ι1 x1 rs1 rv1 => ?_⟩
  obtain ⟨hw, rfl⟩ := itemsM h2
  obtain ⟨p, vs, e, hq, r⟩ := seqOf_rv rs1 hw rv1
  exact ⟨p, vs, e, hq, ι1, ρ, _, as, _, rs1, rr.mono x1, h3, fun vs' H2 ι2 x2 rs2 rv2 => q (vs ++ vs') H2 ι2 (x1.trans x2) rs2 ((r.mono x2).append rv2)⟩
theorem ev_tup {es : List Expr} {k : Nat} {ms : Rho → M (List W)} (h : PA X es (rA w K fa ms)) : PE X (.Tuple es k pos) (rV w K fa fun ρ => do let ws ← ms ρ; M.fits ws.length; pure (.tup ws)) :=
  PEimp (pe_tup h) fun σ H Q ⟨ι, ρ, S, b, S', rs, rr, hm, q⟩ => by
    obtain ⟨as, S1, h1, hm⟩ := bindM hm
    obtain ⟨_, S2, h2, hm⟩ := bindM hm
    obtain ⟨rfl, rfl⟩ := retM hm
    obtain ⟨hf, rfl⟩ := grdM h2
    have hz : as.length ≤ sizeLine := by rw [← lineN_eq]; exact of_decide_eq_true hf
    refine ⟨ι, ρ, S, as, _, rs, rr, h1, fun vs H1 ι1 x1 rs1 rv1 => ⟨by rw [← rv1.length]; exact hz, fun p hp => ?_⟩⟩
    obtain ⟨x2, rs2, n⟩ := rs1.new (o := .tup vs) hp
    refine q _ _ ι1 (x1.trans x2) rs2 ?_
    simp only [RV]
    exact ⟨p, vs, rfl, .inl ⟨.inl upd_same, n⟩, rv1.mono x2⟩
theorem ev_lst {es : List Expr} {ms : Rho → M (List W)} (h : PA X es (rA w K fa ms)) : PE X (.List es pos) (rV w K fa fun ρ => do let ws ← ms ρ; M.fits ws.length; M.new (.lst ws)) :=
  PEimp (pe_lst h) fun σ H Q ⟨ι, ρ, S, b, S', rs, rr, hm, q⟩ => by
    obtain ⟨as, S1, h1, hm⟩ := bindM hm
    obtain ⟨_, S2, h2, hm⟩ := bindM hm
    have e : some (W.ref S2.length, S2 ++ [Ob.lst as]) = some (b, S') := hm
    cases e
    obtain ⟨hf, rfl⟩ := grdM h2
    have hz : as.length ≤ sizeLine := by rw [← lineN_eq]; exact of_decide_eq_true hf
    refine ⟨ι, ρ, S, as, _, rs, rr, h1, fun vs H1 ι1 x1 rs1 rv1 => ⟨by rw [← rv1.length]; exact hz, fun p hp => ?_⟩⟩
    obtain ⟨x2, rs2⟩ := rs1.push (o := .lst vs) (ob := .lst as) hp fun H' ι' x e => ⟨vs, e, rv1.mono x⟩
    refine q _ _ _ (x1.trans x2) rs2 ?_
    simp only [RV]
    exact ⟨p, rs1.last p, rfl⟩

/-! ### tests, and, or, not -/
theorem tt_plain {e : Expr} {m : Rho → M W} (h : PE X e (rV w K fa m)) (he : ∀ whole, isTrue e X.env whole = (do let v ← whole; standAt e.pos; holding [v] (truthy v))) : PT X e (rB w K fa fun ρ => truth (m ρ)) :=
  PTimp (pt_val h he) fun σ H Q ⟨ι, ρ, S, b, S', rs, rr, hm, q⟩ => by
    refine ⟨ι, ρ, S, _, S', rs, rr, truthM hm, fun v H' ι' x rs' rv => ⟨b, ?_, q H' ι' x rs'⟩⟩
    simpa only [RV] using rv
theorem tt_cmp {r : R2} {m : Rho → M W} {t : TE} {e : Expr} (h : PT X e (tTest t)) (i : ∀ σ H Q, rV w K fa m σ H Q → t σ H Q) : PT X e (rB w K fa fun ρ => truth (m ρ)) :=
  PTimp h fun σ H Q ⟨ι, ρ, S, b, S', rs, rr, hm, q⟩ => by
    refine i σ H _ ⟨ι, ρ, S, _, S', rs, rr, truthM hm, fun v H' ι' x rs' rv => ⟨b, ?_, q H' ι' x rs'⟩⟩
    simpa only [RV] using rv
/-- the reading of `and` as a value, from a test of the left -/
theorem bl_of {v : V} {b : Bool} {H : Hp} {ι : Pls} (h : RV w K fa H ι (.bl b) v) : v = .bl b := by simpa only [RV] using h
theorem bl_to {b : Bool} {H : Hp} {ι : Pls} : RV w K fa H ι (.bl b) (.bl b) := by simp only [RV]
theorem ev_and {a b : Expr} {rest : List Expr} {ma mb : Rho → M W} (ha : PE X a (rV w K fa ma)) (hb : PE X (.BoolOp .And (b :: rest) pos) (rV w K fa mb)) :
    PE X (.BoolOp .And (a :: b :: rest) pos) (rV w K fa fun ρ => do let c ← truth (ma ρ); if c = true then mb ρ else pure (.bl false)) :=
  PEimp (pe_and ha hb) fun σ H Q ⟨ι, ρ, S, c, S', rs, rr, hm, q⟩ => by
    obtain ⟨d, S1, h1, hm⟩ := bindM hm
    refine ⟨ι, ρ, S, _, S1, rs, rr, truthM h1, fun v H1 ι1 x1 rs1 rv1 => ⟨d, bl_of rv1, ?_⟩⟩
    cases d with
    | true => exact ⟨ι1, ρ, S1, c, S', rs1, rr.mono x1, hm, q.mono x1⟩
    | false =>
      obtain ⟨rfl, rfl⟩ := retM hm
      exact (q.mono x1).here rs1 bl_to
theorem ev_or {a b : Expr} {rest : List Expr} {ma mb : Rho → M W} (ha : PE X a (rV w K fa ma)) (hb : PE X (.BoolOp .Or (b :: rest) pos) (rV w K fa mb)) :
    PE X (.BoolOp .Or (a :: b :: rest) pos) (rV w K fa fun ρ => do let c ← truth (ma ρ); if c = true then pure (.bl true) else mb ρ) :=
  PEimp (pe_or ha hb) fun σ H Q ⟨ι, ρ, S, c, S', rs, rr, hm, q⟩ => by
    obtain ⟨d, S1, h1, hm⟩ := bindM hm
    refine ⟨ι, ρ, S, _, S1, rs, rr, truthM h1, fun v H1 ι1 x1 rs1 rv1 => ⟨d, bl_of rv1, ?_⟩⟩
    cases d with
    | false => exact ⟨ι1, ρ, S1, c, S', rs1, rr.mono x1, hm, q.mono x1⟩
    | true =>
      obtain ⟨rfl, rfl⟩ := retM hm
      exact (q.mono x1).here rs1 bl_to
theorem tt_and {a b : Expr} {rest : List Expr} {ma mb : Rho → M W} (ha : PT X a (rB w K fa fun ρ => truth (ma ρ))) (hb : PW X (.BoolOp .And (b :: rest) pos) (rB w K fa fun ρ => truth (mb ρ))) :
    PW X (.BoolOp .And (a :: b :: rest) pos) (rB w K fa fun ρ => truth (do let c ← truth (ma ρ); if c = true then mb ρ else pure (.bl false))) :=
  PWimp (pw_and ha hb) fun σ H Q ⟨ι, ρ, S, c, S', rs, rr, hm, q⟩ => by
    obtain ⟨d, S1, h1, hm⟩ := bindM (truthM hm)
    refine ⟨ι, ρ, S, d, S1, rs, rr, h1, fun H1 ι1 x1 rs1 => ?_⟩
    cases d with
    | true => exact ⟨ι1, ρ, S1, c, S', rs1, rr.mono x1, by simp only [if_true] at hm; exact truth_some hm, fun H2 ι2 x2 rs2 => q H2 ι2 (x1.trans x2) rs2⟩
    | false =>
      obtain ⟨e, rfl⟩ := retM hm
      cases e
      exact q H1 ι1 x1 rs1
theorem tt_or {a b : Expr} {rest : List Expr} {ma mb : Rho → M W} (ha : PT X a (rB w K fa fun ρ => truth (ma ρ))) (hb : PW X (.BoolOp .Or (b :: rest) pos) (rB w K fa fun ρ => truth (mb ρ))) :
    PW X (.BoolOp .Or (a :: b :: rest) pos) (rB w K fa fun ρ => truth (do let c ← truth (ma ρ); if c = true then pure (.bl true) else mb ρ)) :=
  PWimp (pw_or ha hb) fun σ H Q ⟨ι, ρ, S, c, S', rs, rr, hm, q⟩ => by
    obtain ⟨d, S1, h1, hm⟩ := bindM (truthM hm)
    refine ⟨ι, ρ, S, d, S1, rs, rr, h1, fun H1 ι1 x1 rs1 => ?_⟩
    cases d with
    | false => exact ⟨ι1, ρ, S1, c, S', rs1, rr.mono x1, by simp only [Bool.false_eq_true, if_false] at hm; exact truth_some hm, fun H2 ι2 x2 rs2 => q H2 ι2 (x1.trans x2) rs2⟩
    | true =>
      obtain ⟨e, rfl⟩ := retM hm
      cases e
      exact q H1 ι1 x1 rs1
theorem ev_not {a : Expr} {ma : Rho → M W} (ha : PE X a (rV w K fa ma)) : PE X (.UnaryOp .Not a pos) (rV w K fa fun ρ => do let c ← truth (ma ρ); pure (.bl (!c))) :=
  PEimp (pe_not ha) fun σ H Q ⟨ι, ρ, S, c, S', rs, rr, hm, q⟩ => by
    obtain ⟨d, S1, h1, hm⟩ := bindM hm
    obtain ⟨rfl, rfl⟩ := retM hm
    exact ⟨ι, ρ, S, _, _, rs, rr, truthM h1, fun v H1 ι1 x1 rs1 rv1 => ⟨d, bl_of rv1, (q.mono x1).here rs1 bl_to⟩⟩
theorem tt_not {a : Expr} {ma : Rho → M W} (ha : PT X a (rB w K fa fun ρ => truth (ma ρ))) : PT X (.UnaryOp .Not a pos) (rB w K fa fun ρ => truth (do let c ← truth (ma ρ); pure (.bl (!c)))) :=
  PTimp (pt_not ha) fun σ H Q ⟨ι, ρ, S, c, S', rs, rr, hm, q⟩ => by
    obtain ⟨d, S1, h1, hm⟩ := bindM (truthM hm)
    obtain ⟨e, rfl⟩ := retM hm
    cases e
    exact ⟨ι, ρ, S, d, _, rs, rr, h1, q⟩
theorem ev_ifx {c a b : Expr} {mc ma mb : Rho → M W} (hc : PT X c (rB w K fa fun ρ => truth (mc ρ))) (ha : PE X a (rV w K fa ma)) (hb : PE X b (rV w K fa mb)) :
    PE X (.IfExp c a b pos) (rV w K fa fun ρ => do let c ← truth (mc ρ); if c = true then ma ρ else mb ρ) :=
  PEimp (pe_ifExp hc ha hb) fun σ H Q ⟨ι, ρ, S, r, S', rs, rr, hm, q⟩ => by
    obtain ⟨d, S1, h1, hm⟩ := bindM hm
    refine ⟨ι, ρ, S, d, S1, rs, rr, h1, fun H1 ι1 x1 rs1 => ?_⟩
    cases d with
    | true => exact ⟨ι1, ρ, S1, r, S', rs1, rr.mono x1, hm, q.mono x1⟩
    | false => exact ⟨ι1, ρ, S1, r, S', rs1, rr.mono x1, hm, q.mono x1⟩

/-! ### operators -/
theorem rV_op {a b : Expr} {ma mb : Rho → M W} {f : W → W → M W} (σ : L2.St) (H : Hp) (Q : VK) (h : rV w K fa (fun ρ => do let x ← ma ρ; let y ← mb ρ; f x y) σ H Q) :
    tOp (rO2 w K fa f) (rV w K fa ma) (rV w K fa mb) σ H Q := by
  obtain ⟨ι, ρ, S, c, S', rs, rr, hm, q⟩ := h
  obtain ⟨x, S1, h1, hm⟩ := bindM hm
  obtain ⟨y, S2, h2, hm⟩ := bindM hm
  exact ⟨ι, ρ, S, x, S1, rs, rr, h1, fun v1 H1 ι1 x1 rs1 rv1 => ⟨ι1, ρ, S1, y, S2, rs1, rr.mono x1, h2, fun v2 H2 ι2 x2 rs2 rv2 =>
    ⟨ι2, S2, x, y, c, S', rs2, rv1.mono x2, rv2, hm, q.mono (x1.trans x2)⟩⟩⟩
theorem ev_bin {a b : Expr} {op : Operator} {ma mb : Rho → M W} {f : W → W → M W} (ho : OpR X (binaryOp op) (rO2 w K fa f)) (ha : PE X a (rV w K fa ma)) (hb : PE X b (rV w K fa mb)) :
    PE X (.BinOp a op b pos) (rV w K fa fun ρ => do let x ← ma ρ; let y ← mb ρ; f x y) := PEimp (pe_op ho ha hb) fun σ H Q h => rV_op (a := a) (b := b) σ H Q h
theorem ev_cmp {a b : Expr} {op : CmpOp} {ma mb : Rho → M W} {f : W → W → M W} (ho : OpR X (compareOp op) (rO2 w K fa f)) (ha : PE X a (rV w K fa ma)) (hb : PE X b (rV w K fa mb)) (hm : behindInMarks op b = false) :
    PE X (.Compare a [op] [b] pos) (rV w K fa fun ρ => do let x ← ma ρ; let y ← mb ρ; f x y) := PEimp (pe_cmpR ho ha hb hm) fun σ H Q h => rV_op (a := a) (b := b) σ H Q h
theorem tt_cmp1 {a b : Expr} {op : CmpOp} {ma mb : Rho → M W} {f : W → W → M W} (ho : OpR X (compareOp op) (rO2 w K fa f)) (ha : PE X a (rV w K fa ma)) (hb : PE X b (rV w K fa mb)) (hm : behindInMarks op b = false) :
    PT X (.Compare a [op] [b] pos) (rB w K fa fun ρ => truth (do let x ← ma ρ; let y ← mb ρ; f x y)) := tt_cmp (r := rO2 w K fa f) (pt_cmpR ho ha hb hm) fun σ H Q h => rV_op (a := a) (b := b) σ H Q h
/-- a chain's reading -/
theorem rV_chain {ma mb mc : Rho → M W} {f g : W → W → M Bool} (σ : L2.St) (H : Hp) (Q : VK) (h : rV w K fa (fun ρ => do
      let x ← ma ρ
      let y ← mb ρ
      let c1 ← f x y
      if c1 = true then do let z ← mc ρ; let c2 ← g y z; pure (.bl c2) else pure (.bl false)) σ H Q) :
    tChain (rO2 w K fa fun x y => do let c ← f x y; pure (.bl c)) (rO2 w K fa fun x y => do let c ← g x y; pure (.bl c)) (rV w K fa ma) (rV w K fa mb) (rV w K fa mc) σ H Q := by
  obtain ⟨ι, ρ, S, c, S', rs, rr, hm, q⟩ := h
  obtain ⟨x, S1, h1, hm⟩ := bindM hm
  obtain ⟨y, S2, h2, hm⟩ := bindM hm
  obtain ⟨c1, S3, h3, hm⟩ := bindM hm
  refine ⟨ι, ρ, S, x, S1, rs, rr, h1, fun v1 H1 ι1 x1 rs1 rv1 => ⟨ι1, ρ, S1, y, S2, rs1, rr.mono x1, h2, fun v2 H2 ι2 x2 rs2 rv2 =>
    ⟨ι2, S2, x, y, .bl c1, S3, rs2, rv1.mono x2, rv2, ?_, fun v3 H3 ι3 x3 rs3 rv3 => ⟨c1, bl_of rv3, ?_⟩⟩⟩⟩
  · exact bind_some h3
  · cases c1 with
    | true =>
      simp only [if_true] at hm ⊢
      obtain ⟨z, S4, h4, hm⟩ := bindM hm
      exact ⟨ι3, ρ, S3, z, S4, rs3, ((rr.mono x1).mono x2).mono x3, h4, fun v4 H4 ι4 x4 rs4 rv4 => ⟨ι4, S4, y, z, c, S', rs4, (rv2.mono x3).mono x4, rv4, hm, ((q.mono x1).mono x2).mono (x3.trans x4)⟩⟩
    | false =>
      simp only [Bool.false_eq_true, if_false] at hm ⊢
      obtain ⟨rfl, rfl⟩ := retM hm
      exact (q.mono (x1.trans (x2.trans x3))).here rs3 bl_to
theorem non_iff {x : W} {v : V} {H : Hp} {ι : Pls} (h : RV w K fa H ι x v) : decide (v = .non) = decide (x = .non) := by
  cases x with
  | non => simp only [RV] at h; subst h; simp
  | bl b => simp only [RV] at h; subst h; simp
  | int b => simp only [RV] at h; subst h; simp
  | str b => simp only [RV] at h; obtain ⟨rfl, _⟩ := h; simp
  | tup b => simp only [RV] at h; obtain ⟨a, vs, rfl, _⟩ := h; simp
  | lst b => simp only [RV] at h; obtain ⟨a, vs, rfl, _⟩ := h; simp
  | dct b c => simp only [RV] at h; obtain ⟨a, es, ep, b, c, rfl, _⟩ := h; simp
  | ref b => simp only [RV] at h; obtain ⟨a, _, rfl⟩ := h; simp
  | fn b => simp only [RV] at h; obtain ⟨a, _, rfl⟩ := h; simp
theorem ev_isn {a : Expr} {ma : Rho → M W} {j p'} (ha : PE X a (rV w K fa ma)) : PE X (.Compare a [.Is] [.Constant .none j p'] pos) (rV w K fa fun ρ => do let x ← ma ρ; pure (.bl (decide (x = .non)))) :=
  PEimp (pe_cmp (pc_isN ha)) fun σ H Q ⟨ι, ρ, S, c, S', rs, rr, hm, q⟩ => by
    obtain ⟨x, S1, h1, hm⟩ := bindM hm
    obtain ⟨rfl, rfl⟩ := retM hm
    refine ⟨ι, ρ, S, x, _, rs, rr, h1, fun v H1 ι1 x1 rs1 rv1 => ?_⟩
    show Q (.bl (decide (v = .non))) H1
    rw [non_iff rv1]; exact (q.mono x1).here rs1 bl_to
theorem ev_notn {a : Expr} {ma : Rho → M W} {j p'} (ha : PE X a (rV w K fa ma)) : PE X (.Compare a [.IsNot] [.Constant .none j p'] pos) (rV w K fa fun ρ => do let x ← ma ρ; pure (.bl (!decide (x = .non)))) :=
  PEimp (pe_cmp (pc_notN ha)) fun σ H Q ⟨ι, ρ, S, c, S', rs, rr, hm, q⟩ => by
    obtain ⟨x, S1, h1, hm⟩ := bindM hm
    obtain ⟨rfl, rfl⟩ := retM hm
    refine ⟨ι, ρ, S, x, _, rs, rr, h1, fun v H1 ι1 x1 rs1 rv1 => ?_⟩
    show Q (.bl (!decide (v = .non))) H1
    rw [non_iff rv1]; exact (q.mono x1).here rs1 bl_to
theorem tB_rV {e : Expr} {t : TE} {m : Rho → M W} (h : PT X e (tB t)) (i : ∀ σ H Q, rV w K fa m σ H Q → t σ H Q) : PT X e (rB w K fa fun ρ => truth (m ρ)) :=
  PTimp h fun σ H Q ⟨ι, ρ, S, b, S', rs, rr, hm, q⟩ => i σ H _ ⟨ι, ρ, S, _, S', rs, rr, truthM hm, fun v H' ι' x rs' rv => ⟨b, bl_of rv, q H' ι' x rs'⟩⟩
end
end TZ

set_option Elab.async false
set_option linter.all false
set_option maxRecDepth 100000
/-! A5: calls. -/
namespace TZ
open PySem L2 StX PyProof.Rows

theorem star_no {e : Expr} {es : List Expr} {env : Env} (h : isStar e = false) : starEach (e :: es) env = (false, eval e env) :: starEach es env := by
  cases e <;> first | rfl | cases h
theorem back_any {pos : Pos} {env : Env} : ∀ es : List Expr, (backTo pos (starEach es env)).any (·.1) = es.any isStar
  | [] => rfl
  | e :: es => by
    have ih := back_any (pos := pos) (env := env) es
    cases hs : isStar e with
    | false =>
      rw [star_no hs, List.any_cons, hs]
      show (false || (backTo pos (starEach es env)).any (·.1)) = _
      rw [ih]
    | true =>
      cases e with
      | Starred v p => rw [List.any_cons, hs]; rfl
      | _ => cases hs

/-- what a def of the table promises -/
def spD (w : World) (K : PySem.W.Frag) (fa : Nat → Option Addr) (f : List W → M W) : Sp := fun vs H Q _ => rCl w K fa f vs H Q
structure Tbl (P : Program) (w : World) (K : PySem.W.Frag) (mg : Str → Option Value) (base : Heap) (fa : Nat → Option Addr) (n : Nat) (cf : Nat → List W → M W) : Prop where
  fn : ∀ f a, fa f = some a → PySem.W.keepIn K (.ref a) = true ∧ FnR P w K mg base CX0 n a (spD w K fa (cf f))

section
variable {X : Cx} {fa : Nat → Option Addr} {pos : Pos} {n : Nat} {cf : Nat → List W → M W} {x : Str} {p : Pos} {f : Nat} {a : Addr} {e : Expr} {es : List Expr} {ms : Rho → M (List W)}
theorem run_R {sp : Sp} {pins : List (Addr × Obj)} {σ : L2.St} {H : Hp} {s : Shared} {Q : VK} {us : List Value} {vs : List V} (F : FnR X.prog X.w X.K X.mg X.base CX0 n a sp) (hr : Room n X.A) (I : Inv X pins σ H s) (r : Vals vs us) (h : sp vs H Q E0) :
    wpAny (model X.prog X.w) X.A (call (.ref a) us) (EP X pins σ Q) X.xe s := wpAny_call (run_fnR F hr pass0 I r h)
theorem rA_args {g : List W → M W} {σ : L2.St} {H : Hp} {Q : VK} (h : rV X.w X.K fa (fun ρ => do let ws ← ms ρ; g ws) σ H Q) : rA X.w X.K fa ms σ H (fun vs H1 => spD X.w X.K fa g vs H1 Q E0) := by
  obtain ⟨ι, ρ, S, b, S', rs, rr, hw, q⟩ := h
  obtain ⟨ws, S1, h1, hw⟩ := bindM hw
  exact ⟨ι, ρ, S, ws, S1, rs, rr, h1, fun vs H1 ι1 x1 rs1 rv1 => ⟨ι1, S1, ws, b, S', rs1, rv1, hw, q.mono x1⟩⟩
/-- f(e, ..) -/
theorem ev_call (T : Tbl X.prog X.w X.K X.mg X.base fa n cf) (hf : fa f = some a) (hr : Room n X.A) (hg : Gl X x) (hm : X.mg x = some (.ref a)) (hd : (x == ("__debug__" : Str)) = false)
    (h : PA X (e :: es) (rA X.w X.K fa ms)) (hs : isStar e = false) : PE X (.Call (.Name x p) (e :: es) [] pos) (rV X.w X.K fa fun ρ => do let ws ← ms ρ; cf f ws) := by
  obtain ⟨hk, F⟩ := T.fn f a hf
  refine ⟨fun pins s σ H Q I hw => ?_⟩
  have arg := rA_args hw
  refine wpAny_Call_Name_kw (ld_glob I hg hm ?_ hd)
  cases hst : es.any isStar with
  | false =>
    exact PySem.W.callWith_K (h₀ := X.base) I.ok.mod.kin hk (thn (h.run pos pins s σ H _ I arg) fun us s1 ⟨vs, H1, I1, r, q⟩ => ⟨I1.kIn, run_R F hr I1 r q⟩) (star_no hs) (by rw [back_any]; exact hst)
  | true =>
    exact PySem.W.callWith_S2 (h₀ := X.base) I.ok.mod.kin hk (thn (h.run pos pins s σ H _ I arg) fun us s1 ⟨vs, H1, I1, r, q⟩ => ⟨I1.kIn, run_R F hr I1 r q⟩) (star_no hs) (by rw [back_any]; exact hst)
/-- f() -/
theorem ev_call0 (T : Tbl X.prog X.w X.K X.mg X.base fa n cf) (hf : fa f = some a) (hr : Room n X.A) (hg : Gl X x) (hm : X.mg x = some (.ref a)) (hd : (x == ("__debug__" : Str)) = false) :
    PE X (.Call (.Name x p) [] [] pos) (rV X.w X.K fa fun _ => do let ws ← (M.ret [] : M (List W)); cf f ws) := by
  obtain ⟨hk, F⟩ := T.fn f a hf
  refine ⟨fun pins s σ H Q I hw => ?_⟩
  refine wpAny_Call_Name_kw (ld_glob I hg hm ?_ hd)
  refine PySem.W.callWith_K0 I.kIn hk (run_R (us := []) (vs := []) F hr I .nil ?_)
  obtain ⟨ι, ρ, S, b, S', rs, rr, hw, q⟩ := hw
  exact ⟨ι, S, [], b, S', rs, .nil, hw, q⟩
/-- f(*e) -/
theorem ev_callS {m : Rho → M W} {sp_ : Pos} (T : Tbl X.prog X.w X.K X.mg X.base fa n cf) (hf : fa f = some a) (hr : Room n X.A) (hg : Gl X x) (hm : X.mg x = some (.ref a)) (hd : (x == ("__debug__" : Str)) = false)
    (h : PE X e (rV X.w X.K fa m)) : PE X (.Call (.Name x p) [.Starred e sp_] [] pos) (rV X.w X.K fa fun ρ => do
      let ws ← (do let a ← m ρ; let us ← itemsOf a; let as ← (M.ret [] : M (List W)); pure (us ++ as))
      cf f ws) := by
  obtain ⟨hk, F⟩ := T.fn f a hf
  refine PEimp (pe_callS1 F hr hk hg hm pass0 h hd) fun σ H Q ⟨ι, ρ, S, b, S', rs, rr, hw, q⟩ => ?_
  obtain ⟨ws, S1, h1, hw⟩ := bindM hw
  obtain ⟨x, S2, h2, h1⟩ := bindM h1
  obtain ⟨us, S3, h3, h1⟩ := bindM h1
  obtain ⟨as, S4, h4, h1⟩ := bindM h1
  obtain ⟨rfl, rfl⟩ := retM h1
  have e4 : some (([] : List W), S3) = some (as, S1) := h4
  cases e4
  obtain ⟨h3, rfl⟩ := itemsM h3
  refine ⟨ι, ρ, S, x, _, rs, rr, h2, fun v1 H1 ι1 x1 rs1 rv1 => ?_⟩
  obtain ⟨p, vs, ev, hq, r⟩ := seqOf_rv rs1 h3 rv1
  rw [List.append_nil] at hw
  exact ⟨p, vs, ev, hq, ι1, _, us, b, S', rs1, r, hw, q.mono x1⟩
/-- a call of what a name of the def holds -/
theorem ev_callv {i : Nat} (T : Tbl X.prog X.w X.K X.mg X.base fa n cf) (hr : Room n X.A) (hx : PE X (.Name x p) (rV X.w X.K fa (rhoAt i))) (h : PA X (e :: es) (rA X.w X.K fa ms)) (hs : isStar e = false) (hst : es.any isStar = false) :
    PE X (.Call (.Name x p) (e :: es) [] pos) (rV X.w X.K fa fun ρ => do let y ← rhoAt i ρ; let ws ← ms ρ; wCallV cf y ws) := by
  refine ⟨fun pins s σ H Q I hw => ?_⟩
  obtain ⟨ι, ρ, S, b, S', rs, rr, hw0, q⟩ := hw
  obtain ⟨y, S1, h1, hw1⟩ := bindM hw0
  obtain ⟨ws, S2, h2, hw2⟩ := bindM hw1
  clear hw0 hw1
  obtain ⟨hρ, rfl⟩ := rhoM h1
  refine wpAny_Call_Name_kw (thn (hx.run pins s σ H (fun v H1 => ∃ ι1, Ext ι H ι1 H1 ∧ RS X.w X.K fa H1 ι1 S1 ∧ RV X.w X.K fa H1 ι1 y v) I ⟨ι, ρ, S1, y, S1, rs, rr, h1, fun v H1 ι1 x1 rs1 rv1 => ⟨ι1, x1, rs1, rv1⟩⟩) fun u s1 ⟨v, H1, I1, r1, ι1, x1, rs1, rv1⟩ => ?_)
  cases y with
  | fn f =>
    simp only [RV] at rv1
    obtain ⟨a, hf, ev⟩ := rv1
    subst ev
    obtain rfl : u = Value.ref a := r1
    obtain ⟨hk, F⟩ := T.fn f a hf
    have arg : rA X.w X.K fa ms σ H1 (fun vs H2 => spD X.w X.K fa (cf f) vs H2 Q E0) :=
      ⟨ι1, ρ, S1, ws, S2, rs1, rr.mono x1, h2, fun vs H2 ι2 x2 rs2 rv2 => ⟨ι2, S2, ws, b, S', rs2, rv2, hw2, q.mono (x1.trans x2)⟩⟩
    exact PySem.W.callWith_K (h₀ := X.base) I.ok.mod.kin hk (thn (h.run pos pins s1 σ H1 _ I1 arg) fun us s2 ⟨vs, H2, I2, r, q⟩ => ⟨I2.kIn, run_R F hr I2 r q⟩) (star_no hs) (by rw [back_any]; exact hst)
  | _ => cases hw2

/-! ### built-ins, methods, subscripts -/
theorem rA_cl {g : List W → M W} (σ : L2.St) (H : Hp) (Q : VK) (h : rV X.w X.K fa (fun ρ => do let ws ← ms ρ; g ws) σ H Q) : tCB (rCl X.w X.K fa g) (rA X.w X.K fa ms) σ H Q := by
  obtain ⟨ι, ρ, S, b, S', rs, rr, hw, q⟩ := h
  obtain ⟨ws, S1, h1, hw⟩ := bindM hw
  exact ⟨ι, ρ, S, ws, S1, rs, rr, h1, fun vs H1 ι1 x1 rs1 rv1 => ⟨ι1, S1, ws, b, S', rs1, rv1, hw, q.mono x1⟩⟩
theorem ev_blt {id : String} {g : List W → M W} (hc : CallR X (.builtin id) (rCl X.w X.K fa g)) (hg : Gl X x) (hm : X.mg x = none) (hv : bootBuiltins x = some (.builtin id)) (hn : x ≠ "__name__") (hd : (x == ("__debug__" : Str)) = false)
    (h : PA X (e :: es) (rA X.w X.K fa ms)) (hs : isStar e = false) (hst : es.any isStar = false) : PE X (.Call (.Name x p) (e :: es) [] pos) (rV X.w X.K fa fun ρ => do let ws ← ms ρ; g ws) :=
  PEimp (pe_callB hc hg hm hv h hn hd (star_no hs) (by rw [back_any]; exact hst)) fun σ H Q q => rA_cl σ H Q q
theorem ev_ty {id : String} {g : List W → M W} (hc : CallR X (.type id) (rCl X.w X.K fa g)) (hg : Gl X x) (hm : X.mg x = none) (hv : bootBuiltins x = some (.type id)) (hn : x ≠ "__name__") (hd : (x == ("__debug__" : Str)) = false)
    (h : PA X (e :: es) (rA X.w X.K fa ms)) (hs : isStar e = false) (hst : es.any isStar = false) : PE X (.Call (.Name x p) (e :: es) [] pos) (rV X.w X.K fa fun ρ => do let ws ← ms ρ; g ws) :=
  PEimp (pe_callTy hc hg hm hv h hn hd (star_no hs) (by rw [back_any]; exact hst)) fun σ H Q q => rA_cl σ H Q q
/-- o[i], i no slice -/
theorem plain_ix {b : Expr} (h : isSlice b = false) : PlainIx b := by
  intro o i
  cases b <;> first | rfl | cases h
theorem ev_ix {b : Expr} {ma mb : Rho → M W} {g : W → W → M W} (ho : IxR X (rO2 X.w X.K fa g)) (ha : PE X e (rV X.w X.K fa ma)) (hb : PE X b (rV X.w X.K fa mb)) (hs : isSlice b = false) :
    PE X (.Subscript e b pos) (rV X.w X.K fa fun ρ => do let x ← ma ρ; let y ← mb ρ; g x y) := PEimp (pe_ix ho ha hb (plain_ix hs)) fun σ H Q h => rV_op (a := e) (b := b) σ H Q h
end
end TZ

set_option Elab.async false
set_option linter.all false
set_option maxRecDepth 100000
/-! A6: the operators on values. -/
namespace TZ
open PySem L2 StX PyProof.Rows

section
variable {X : Cx} {fa : Nat → Option Addr}
theorem After.new_tup {w : World} {K : PySem.W.Frag} {ι : Pls} {H : Hp} {ws : List W} {vs : List V} {S : Sto} {Q : VK} {p : Addr} (q : After w K fa ι H (.tup ws) S Q) (rs : RS w K fa H ι S) (r : RVs w K fa H ι ws vs) (hp : H p = none) : Q (.ref p) (upd H p (.tup vs)) := by
  obtain ⟨x, rs', n⟩ := rs.new (o := .tup vs) hp
  refine q _ _ ι x rs' ?_
  simp only [RV]
  exact ⟨p, vs, rfl, .inl ⟨.inl upd_same, n⟩, r.mono x⟩
theorem After.new_lst {w : World} {K : PySem.W.Frag} {ι : Pls} {H : Hp} {ws : List W} {vs : List V} {S : Sto} {Q : VK} {p : Addr} (q : After w K fa ι H (.lst ws) S Q) (rs : RS w K fa H ι S) (r : RVs w K fa H ι ws vs) (hp : H p = none) : Q (.ref p) (upd H p (.lst vs)) := by
  obtain ⟨x, rs', n⟩ := rs.new (o := .lst vs) hp
  refine q _ _ ι x rs' ?_
  simp only [RV]
  exact ⟨p, vs, rfl, .inl ⟨.inl upd_same, n⟩, r.mono x⟩
/-- a new list of the store -/
theorem After.push_lst {w : World} {K : PySem.W.Frag} {ι : Pls} {H : Hp} {ws : List W} {vs : List V} {S : Sto} {Q : VK} {p : Addr} (q : After w K fa ι H (.ref S.length) (S ++ [.lst ws]) Q) (rs : RS w K fa H ι S) (r : RVs w K fa H ι ws vs) (hp : H p = none) : Q (.ref p) (upd H p (.lst vs)) := by
  obtain ⟨x, rs'⟩ := rs.push (o := .lst vs) (ob := .lst ws) hp fun H' ι' y e => ⟨vs, e, r.mono y⟩
  refine q _ _ _ x rs' ?_
  simp only [RV]
  exact ⟨p, rs.last p, rfl⟩
theorem rv_int {w : World} {K : PySem.W.Frag} {H : Hp} {ι : Pls} {i : Int} {v : V} : RV w K fa H ι (.int i) v ↔ v = .int i := by simp only [RV]
theorem rv_bl {w : World} {K : PySem.W.Frag} {H : Hp} {ι : Pls} {i : Bool} {v : V} : RV w K fa H ι (.bl i) v ↔ v = .bl i := by simp only [RV]
theorem rv_non {w : World} {K : PySem.W.Frag} {H : Hp} {ι : Pls} {v : V} : RV w K fa H ι .non v ↔ v = .non := by simp only [RV]
theorem rv_str {w : World} {K : PySem.W.Frag} {H : Hp} {ι : Pls} {x : Str} {v : V} : RV w K fa H ι (.str x) v ↔ v = .str x ∧ litOk x = true := by simp only [RV]
theorem rv_tup {w : World} {K : PySem.W.Frag} {H : Hp} {ι : Pls} {ws : List W} {v : V} : RV w K fa H ι (.tup ws) v ↔ ∃ a vs, v = .ref a ∧ ((Rd H a (.tup vs) ∧ a ∉ ι) ∨ CT K a vs) ∧ RVs w K fa H ι ws vs := by simp only [RV]
theorem rv_tup' {w : World} {K : PySem.W.Frag} {H : Hp} {ι : Pls} {ws : List W} {v : V} (h : RV w K fa H ι (.tup ws) v) : ∃ a vs, v = .ref a ∧ SqT K H a vs ∧ RVs w K fa H ι ws vs := by
  obtain ⟨a, vs, e, t, r⟩ := rv_tup.mp h
  refine ⟨a, vs, e, ?_, r⟩
  rcases t with ⟨t, _⟩ | t
  · exact .inl t
  · exact .inr t
theorem rv_ref {w : World} {K : PySem.W.Frag} {H : Hp} {ι : Pls} {n : Nat} {v : V} : RV w K fa H ι (.ref n) v ↔ ∃ a, ι.pl[n]? = some a ∧ v = .ref a := by simp only [RV]
theorem listOf_rv' {w : World} {K : PySem.W.Frag} {H : Hp} {ι : Pls} {ws : List W} {v : V} (h : RV w K fa H ι (.lst ws) v) : ∃ a vs, v = .ref a ∧ SqL K H a vs ∧ RVs w K fa H ι ws vs := by
  simp only [RV] at h
  obtain ⟨p, vs, e, t, r⟩ := h
  refine ⟨p, vs, e, ?_, r⟩
  rcases t with ⟨t, _⟩ | t
  · exact .inl t
  · exact .inr t
theorem litOk_app {x y : Str} (hx : litOk x = true) (hy : litOk y = true) (h : x.length + y.length ≤ lineN) : litOk (x ++ y) = true := by
  unfold litOk at *
  rw [Bool.and_eq_true] at *
  have e : (x ++ y : Str).cps = x.cps ++ y.cps := rfl
  refine ⟨?_, decide_eq_true ?_⟩
  · have h1 := hx.1
    have h2 := hy.1
    unfold PyData.strOk at *
    rw [e, Array.all_append, h1, h2]; rfl
  · show (x ++ y : Str).cps.size ≤ lineN
    rw [e, Array.size_append]; exact h
theorem litOk_len {x : Str} (h : litOk x = true) : x.length ≤ sizeLine := by
  unfold litOk at h
  rw [Bool.and_eq_true] at h
  rw [← lineN_eq]; exact of_decide_eq_true h.2
theorem litOk_str {x : Str} (h : litOk x = true) : PyData.strOk x = true := by
  unfold litOk at h
  rw [Bool.and_eq_true] at h
  exact h.1

/-- list + list, both of any standing -/
theorem op_catR : OpR X (binaryOp .Add) (fun x y H Q => ∃ l b xs zs, x = .ref l ∧ y = .ref b ∧ SqL X.K H l xs ∧ SqL X.K H b zs ∧ xs.length + zs.length ≤ sizeLine ∧ ∀ p, H p = none → Q (.ref p) (upd H p (.lst (xs ++ zs)))) := by
  rintro pins s σ H x y v u Q I rx ry ⟨l, b, xs, zs, rfl, rfl, h1, h2, hz, q⟩
  obtain rfl : v = Value.ref l := rx
  obtain rfl : u = Value.ref b := ry
  obtain ⟨its, r, p1, z1⟩ := I.list h1
  obtain ⟨its2, r2, p2, z2⟩ := I.list h2
  have l1 := r.length
  have l2 := r2.length
  obtain ⟨⟨cls, dd, data, sl⟩, ho, hc, n, hd⟩ := id p1.isList
  obtain ⟨⟨cls2, dd2, data2, sl2⟩, ho2, hc2, n2, hd2⟩ := id p2.isList
  simp only at hc hd hc2 hd2
  subst hc hd hc2 hd2
  refine concat_meets ⟨_, ho, rfl⟩ ⟨_, ho2, rfl⟩ noFill_list_add seq_list_add PySem.F.slot_list_add PySem.F.entry_list_add (PySem.F.args_list_add_2 _ _) (list_addW l b its.toArray its2.toArray n n2 dd dd2 sl sl2 (by simp; omega)) ⟨ho, ho2, ?_⟩
  rw [List.append_toArray]
  exact ⟨.ref _, _, I.lnew (t' := s.toks) (r.append r2) (by rw [List.length_append]; omega), rfl, q _ I.fresh⟩

theorem o_add : OpR X (binaryOp .Add) (rO2 X.w X.K fa wAdd) := by
  rintro pins s σ H x y v u Q I rx ry ⟨ι, S, a, b, c, S', rs, ra, rb, hf, q⟩
  have lists : ∀ xs ys, listOf S a = some xs → listOf S b = some ys → (if xs.length + ys.length ≤ lineN then some (W.lst (xs ++ ys), S) else none) = some (c, S') → wpAny (model X.prog X.w) X.A (binaryOp .Add v u) (EP X pins σ Q) X.xe s := by
    intro xs ys h1 h2 h3
    split at h3
    · rename_i hz
      cases h3
      obtain ⟨l, vs, e1, d1, r1⟩ := listOf_rv rs h1 ra
      obtain ⟨l', vs', e2, d2, r2⟩ := listOf_rv rs h2 rb
      refine op_catR pins s σ H x y v u Q I rx ry ⟨l, l', vs, vs', e1, e2, d1, d2, by rw [← r1.length, ← r2.length, ← lineN_eq]; exact hz, fun p hp => q.new_lst rs (r1.append r2) hp⟩
    · cases h3
  unfold wAdd at hf
  split at hf
  · cases hf
    rw [rv_int] at ra rb
    exact op_add pins s σ H x y v u Q I rx ry ⟨_, _, ra, rb, q.here rs (rv_int.mpr rfl)⟩
  · split at hf
    · rename_i hz
      cases hf
      rw [rv_str] at ra rb
      exact op_add_str pins s σ H x y v u Q I rx ry ⟨_, _, ra.1, rb.1, by rw [← lineN_eq]; exact hz, q.here rs (rv_str.mpr ⟨rfl, litOk_app ra.2 rb.2 hz⟩)⟩
    · cases hf
  · split at hf
    · rename_i hz
      cases hf
      obtain ⟨l, vs, e1, d1, r1⟩ := rv_tup' ra
      obtain ⟨l', vs', e2, d2, r2⟩ := rv_tup' rb
      refine op_catA pins s σ H x y v u Q I rx ry ⟨l, l', vs, vs', e1, e2, d1, d2, by rw [← r1.length, ← r2.length, ← lineN_eq]; exact hz, fun e => ?_, fun _ e => ?_, fun _ _ p hp => q.new_tup rs (r1.append r2) hp⟩
      · subst e
        have z : _ = 0 := r1.length
        rw [List.eq_nil_of_length_eq_zero z] at q
        rw [e2] at rb
        exact q.here rs rb
      · subst e
        have z : _ = 0 := r2.length
        rw [List.eq_nil_of_length_eq_zero z, List.append_nil] at q
        rw [e1] at ra
        exact q.here rs ra
    · cases hf
  · split at hf
    · rename_i h1 h2
      exact lists _ _ h1 h2 hf
    · cases hf

theorem tup_one (l : Addr) (its : Array Value) (n : Nat) (dd : Option Addr) (sl : Array (Option Value)) (u : Tok) :
    Meets (Builtin.«tuple.__mul__» ⟨[.ref l, .int 1 u], []⟩) (fun _ R s => s.heap.get? l = some { cls := .type "tuple", dict := dd, data := .seq its n, slots := sl } ∧ R (.ok (.ret (Value.ref l))) s) :=
  .of_wp fun prog w A R s h => by
    obtain ⟨hp, g, d, tk, os⟩ := s
    obtain ⟨hl, h⟩ := h
    have f1 := AutoSeq1.idx_int
    have c0 : (decide ((1 : Int) < -(2 ^ 63)) || decide ((1 : Int) ≥ 2 ^ 63)) = false := by decide
    have c1 : (its.isEmpty || (1 : Int) == 1) = true := by simp
    wp_walk using wpAny_loadPart' hl
    repeat (first
      | (refine wpAny_ite_false (decide_eq_false (by rw [c0]; exact Bool.false_ne_true)) ?_; wp_walk using wpAny_loadPart' hl)
      | (refine wpAny_ite_true (decide_eq_true c1) ?_; wp_walk using wpAny_loadPart' hl))
    exact ⟨_, rfl, h⟩
theorem op_rep1 : OpR X (binaryOp .Mult) (fun x y H Q => ∃ l xs, x = .ref l ∧ y = .int 1 ∧ SqT X.K H l xs ∧ Q (.ref l) H) := by
  intro pins s σ H x y v u Q I rx ry h
  obtain ⟨l, xs, rfl, rfl, hT, q⟩ := h
  cases rx
  obtain ⟨t, rfl⟩ := ry
  obtain ⟨its, r, ⟨⟨cls, dd, data, sl⟩, ho, hc, n, hd⟩, hs⟩ := I.tuple hT
  simp only at hc hd
  subst hc hd
  exact wpAny_binaryOp_repeat_ref (T := "tuple") (U := "int") (by decide) ⟨_, ho, rfl⟩ (fun s' => typeIs_int s' 1 t) noFill_tuple_mul F.fills_int_mul F.slot_int_rmul repeat_tuple F.slot_int_index.lookup
    (call_meets F.slot_int_rmul (typeIs_int s 1 t) F.entry_int_rmul (F.args_int_rmul_2 _ _) (int_rmul_tuple 1 t l its.toArray n dd sl)
      ⟨ho, rfl, ⟨_, ho, rfl⟩, call_meets F.slot_tuple_mul ⟨_, ho, rfl⟩ F.entry_tuple_mul (F.args_tuple_mul_2 _ _) (tup_one l its.toArray n dd sl t) ⟨ho, .ref l, H, I, rfl, q⟩⟩)
theorem rep_one {α : Type} (xs : List α) : rep (1 : Int).toNat xs = xs := by simp [rep]
theorem o_mul : OpR X (binaryOp .Mult) (rO2 X.w X.K fa wMul) := by
  rintro pins s σ H x y v u Q I rx ry ⟨ι, S, a, b, c, S', rs, ra, rb, hf, q⟩
  unfold wMul at hf
  split at hf
  · split at hf
    · rename_i hz
      cases hf
      rw [rv_int] at ra rb
      exact op_mul pins s σ H x y v u Q I rx ry ⟨_, _, ra, rb, .inl ⟨by have := hz.1; unfold bigN at this; omega, by have := hz.2; unfold bigN at this; omega⟩, q.here rs (rv_int.mpr rfl)⟩
    · cases hf
  · split at hf
    · rename_i hz
      cases hf
      rw [rv_int] at rb
      obtain ⟨p, vs, e1, d1, r1⟩ := rv_tup' ra
      rename_i xs0 k0
      by_cases h1 : k0 = 1
      · subst h1
        rw [rep_one] at q
        exact op_rep1 pins s σ H x y v u Q I rx ry ⟨p, vs, e1, rb, d1, q.here rs (by rw [← e1]; exact ra)⟩
      · have h2 : 2 ≤ k0 := by omega
        exact op_repT pins s σ H x y v u Q I rx ry ⟨p, _, vs, e1, rb, d1, fun e => hz.2.1 (by rw [e] at r1; exact List.eq_nil_of_length_eq_zero r1.length), h2, hz.2.2.2, by rw [← r1.length]; exact hz.1, fun p hp => q.new_tup rs (r1.rep _) hp⟩
    · cases hf
  · split at hf
    · rename_i n k xs hn
      split at hf
      · rename_i hz
        cases hf
        rw [rv_int] at rb
        obtain ⟨p, hp, ea⟩ := rv_ref.mp ra
        obtain ⟨vs, h1, r1⟩ := rs.ob _ _ _ hn hp
        exact op_rep pins s σ H x y v u Q I rx ry ⟨p, _, vs, ea, rb, h1, by omega, by omega, by rw [← r1.length, ← lineN_eq]; exact hz.1, fun p hp => q.new_lst rs (r1.rep _) hp⟩
      · cases hf
    · cases hf
  · cases hf
theorem o_sub : OpR X (binaryOp .Sub) (rO2 X.w X.K fa wSub) := by
  rintro pins s σ H x y v u Q I rx ry ⟨ι, S, a, b, c, S', rs, ra, rb, hf, q⟩
  unfold wSub at hf
  split at hf
  · cases hf
    rw [rv_int] at ra rb
    exact op_sub pins s σ H x y v u Q I rx ry ⟨_, _, ra, rb, q.here rs (rv_int.mpr rfl)⟩
  · cases hf
theorem o_mod : OpR X (binaryOp .Mod) (rO2 X.w X.K fa wMod) := by
  rintro pins s σ H x y v u Q I rx ry ⟨ι, S, a, b, c, S', rs, ra, rb, hf, q⟩
  unfold wMod at hf
  split at hf
  · split at hf
    · rename_i hz
      cases hf
      rw [rv_int] at ra rb
      exact op_mod pins s σ H x y v u Q I rx ry ⟨_, _, ra, rb, hz, q.here rs (rv_int.mpr rfl)⟩
    · cases hf
  · cases hf
theorem o_fdiv : OpR X (binaryOp .FloorDiv) (rO2 X.w X.K fa wFdiv) := by
  rintro pins s σ H x y v u Q I rx ry ⟨ι, S, a, b, c, S', rs, ra, rb, hf, q⟩
  unfold wFdiv at hf
  split at hf
  · split at hf
    · rename_i hz
      cases hf
      rw [rv_int] at ra rb
      have h2 := hz.2
      unfold bigN at h2
      exact op_fdivW pins s σ H x y v u Q I rx ry ⟨_, _, ra, rb, wide_div (b := 64) hz.1 (by omega) (by decide) (by decide), q.here rs (rv_int.mpr rfl)⟩
    · cases hf
  · cases hf
theorem o_pow : OpR X (binaryOp .Pow) (rO2 X.w X.K fa wPow) := by
  rintro pins s σ H x y v u Q I rx ry ⟨ι, S, a, b, c, S', rs, ra, rb, hf, q⟩
  unfold wPow at hf
  split at hf
  · split at hf
    · rename_i hz
      cases hf
      rw [rv_int] at ra rb
      exact op_pow pins s σ H x y v u Q I rx ry ⟨_, _, ra, rb, ⟨hz.1, by omega, by omega⟩, q.here rs (rv_int.mpr rfl)⟩
    · cases hf
  · cases hf

/-! ### comparisons of order -/
/-- a comparison's answer as a value -/
def bV (f : W → W → M Bool) (a b : W) : M W := do let c ← f a b; pure (.bl c)
theorem bvM {f : W → W → M Bool} {a b c : W} {S S' : Sto} (h : bV f a b S = some (c, S')) : ∃ k, f a b S = some (k, S') ∧ c = .bl k := by
  obtain ⟨k, S1, h1, h⟩ := bindM h
  obtain ⟨rfl, rfl⟩ := retM h
  exact ⟨k, h1, rfl⟩
theorem o_lt : OpR X (compareOp .Lt) (rO2 X.w X.K fa (bV wLt)) := by
  rintro pins s σ H x y v u Q I rx ry ⟨ι, S, a, b, c, S', rs, ra, rb, hf, q⟩
  obtain ⟨k, hg, rfl⟩ := bvM hf
  clear hf
  unfold wLt at hg
  split at hg
  · cases hg
    rw [rv_int] at ra rb
    exact op_lt pins s σ H x y v u Q I rx ry ⟨_, _, ra, rb, q.here rs (rv_bl.mpr rfl)⟩
  · cases hg
    rw [rv_str] at ra rb
    exact op_lt_str pins s σ H x y v u Q I rx ry ⟨_, _, ra.1, rb.1, q.here rs (rv_bl.mpr rfl)⟩
  · cases hg
theorem o_le : OpR X (compareOp .LtE) (rO2 X.w X.K fa (bV wLe)) := by
  rintro pins s σ H x y v u Q I rx ry ⟨ι, S, a, b, c, S', rs, ra, rb, hf, q⟩
  obtain ⟨k, hg, rfl⟩ := bvM hf
  clear hf
  unfold wLe at hg
  split at hg
  · cases hg
    rw [rv_int] at ra rb
    exact op_le pins s σ H x y v u Q I rx ry ⟨_, _, ra, rb, q.here rs (rv_bl.mpr rfl)⟩
  · cases hg
    rw [rv_str] at ra rb
    exact op_le_str pins s σ H x y v u Q I rx ry ⟨_, _, ra.1, rb.1, q.here rs (rv_bl.mpr rfl)⟩
  · cases hg
theorem o_gt : OpR X (compareOp .Gt) (rO2 X.w X.K fa (bV wGt)) := by
  rintro pins s σ H x y v u Q I rx ry ⟨ι, S, a, b, c, S', rs, ra, rb, hf, q⟩
  obtain ⟨k, hg, rfl⟩ := bvM hf
  clear hf
  unfold wGt at hg
  split at hg
  · cases hg
    rw [rv_int] at ra rb
    exact op_gt pins s σ H x y v u Q I rx ry ⟨_, _, ra, rb, q.here rs (rv_bl.mpr rfl)⟩
  · cases hg
theorem o_ge : OpR X (compareOp .GtE) (rO2 X.w X.K fa (bV wGe)) := by
  rintro pins s σ H x y v u Q I rx ry ⟨ι, S, a, b, c, S', rs, ra, rb, hf, q⟩
  obtain ⟨k, hg, rfl⟩ := bvM hf
  clear hf
  unfold wGe at hg
  split at hg
  · cases hg
    rw [rv_int] at ra rb
    exact op_ge pins s σ H x y v u Q I rx ry ⟨_, _, ra, rb, q.here rs (rv_bl.mpr rfl)⟩
  · cases hg

/-! ### data -/
mutual
theorem dpV {w : World} {K : PySem.W.Frag} {H : Hp} {ι : Pls} {g : Nat → Option W} (hg : ∀ r a' v n, g r = some a' → a'.flat n = true → RV w K fa H ι (.ref r) v → Dp K H v a'.py ∧ a'.py.canLay0 = true) :
    ∀ (a a' : W) (v : V) (n : Nat), a.mapR g = some a' → a'.flat n = true → RV w K fa H ι a v → Dp K H v a'.py ∧ a'.py.canLay0 = true
  | .non, a', v, n, e, hn, r => by simp only [W.mapR] at e; cases e; rw [rv_non] at r; subst r; simp only [W.py, PyData.canLay0]; exact ⟨.non, trivial⟩
  | .bl b, a', v, n, e, hn, r => by simp only [W.mapR] at e; cases e; rw [rv_bl] at r; subst r; simp only [W.py, PyData.canLay0]; exact ⟨.bl b, trivial⟩
  | .int i, a', v, n, e, hn, r => by simp only [W.mapR] at e; cases e; rw [rv_int] at r; subst r; simp only [W.py, PyData.canLay0]; exact ⟨.int i, trivial⟩
  | .str x, a', v, n, e, hn, r => by simp only [W.mapR] at e; cases e; rw [rv_str] at r; obtain ⟨rfl, h⟩ := r; simp only [W.py, PyData.canLay0]; exact ⟨.str x, litOk_str h⟩
  | .fn f, a', v, n, e, hn, r => by simp only [W.mapR] at e; cases e; cases n <;> simp only [W.flat, Bool.false_eq_true] at hn
  | .ref r, a', v, n, e, hn, rv => by simp only [W.mapR] at e; exact hg r a' v n e hn rv
  | .dct ks us, a', v, n, e, hn, r => by
    simp only [W.mapR] at e
    split at e
    · cases e; cases n <;> simp only [W.flat, Bool.false_eq_true] at hn
    · cases e
  | .tup ws, a', v, n, e, hn, r => by
    simp only [W.mapR] at e
    obtain ⟨ws', e1, rfl⟩ := Option.map_eq_some_iff.mp e
    obtain ⟨p, vs, rfl, t, r⟩ := rv_tup' r
    cases n with
    | zero => simp only [W.flat, Bool.false_eq_true] at hn
    | succ n =>
      simp only [W.flat] at hn
      obtain ⟨h1, h2⟩ := dpVs hg ws ws' vs n e1 hn r
      simp only [W.py, PyData.canLay0]
      exact ⟨.tup t h1, h2⟩
  | .lst ws, a', v, n, e, hn, r => by
    simp only [W.mapR] at e
    obtain ⟨ws', e1, rfl⟩ := Option.map_eq_some_iff.mp e
    obtain ⟨p, vs, rfl, t, r⟩ := listOf_rv' r
    cases n with
    | zero => simp only [W.flat, Bool.false_eq_true] at hn
    | succ n =>
      simp only [W.flat] at hn
      obtain ⟨h1, h2⟩ := dpVs hg ws ws' vs n e1 hn r
      simp only [W.py, PyData.canLay0]
      exact ⟨.lst t h1, h2⟩
theorem dpVs {w : World} {K : PySem.W.Frag} {H : Hp} {ι : Pls} {g : Nat → Option W} (hg : ∀ r a' v n, g r = some a' → a'.flat n = true → RV w K fa H ι (.ref r) v → Dp K H v a'.py ∧ a'.py.canLay0 = true) :
    ∀ (as as' : List W) (vs : List V) (n : Nat), mapRs g as = some as' → flats n as' = true → RVs w K fa H ι as vs → DpAll K H vs (pys as') ∧ PyData.canLayAll0 (pys as') = true
  | [], as', vs, n, e, hn, r => by simp only [mapRs] at e; cases e; rw [r.nil_inv]; simp only [pys, PyData.canLayAll0]; exact ⟨.nil, trivial⟩
  | a :: as, as', vs, n, e, hn, r => by
    simp only [mapRs] at e
    split at e
    · rename_i b bs e1 e2
      cases e
      obtain ⟨v, vs', rfl, r1, r2⟩ := r.cons_inv
      simp only [flats, Bool.and_eq_true] at hn
      obtain ⟨h1, h2⟩ := dpV hg a b v n e1 hn.1 r1
      obtain ⟨h3, h4⟩ := dpVs hg as bs vs' n e2 hn.2 r2
      simp only [pys, PyData.canLayAll0, h2, h4]
      exact ⟨.cons h1 h3, rfl⟩
    · cases e
end
mutual
theorem flat_depth : ∀ (a : W) (n : Nat), a.flat n = true → a.py.depth ≤ n
  | .non, n, h => by simp only [W.py, PyData.depth]; exact Nat.zero_le _
  | .bl _, n, h => by simp only [W.py, PyData.depth]; exact Nat.zero_le _
  | .int _, n, h => by simp only [W.py, PyData.depth]; exact Nat.zero_le _
  | .str _, n, h => by simp only [W.py, PyData.depth]; exact Nat.zero_le _
  | .dct _ _, n, h => by simp only [W.py, PyData.depth]; exact Nat.zero_le _
  | .ref _, n, h => by simp only [W.py, PyData.depth]; exact Nat.zero_le _
  | .fn _, n, h => by simp only [W.py, PyData.depth]; exact Nat.zero_le _
  | .tup ws, n, h => by
    cases n with
    | zero => simp only [W.flat, Bool.false_eq_true] at h
    | succ n =>
      simp only [W.flat] at h
      have := flats_depth ws n h
      simp only [W.py, PyData.depth]; omega
  | .lst ws, n, h => by
    cases n with
    | zero => simp only [W.flat, Bool.false_eq_true] at h
    | succ n =>
      simp only [W.flat] at h
      have := flats_depth ws n h
      simp only [W.py, PyData.depth]; omega
theorem flats_depth : ∀ (as : List W) (n : Nat), flats n as = true → PyData.depthAll (pys as) ≤ n
  | [], n, h => by simp only [pys, PyData.depthAll]; exact Nat.zero_le _
  | a :: as, n, h => by
    simp only [flats, Bool.and_eq_true] at h
    have h1 := flat_depth a n h.1
    have h2 := flats_depth as n h.2
    simp only [pys, PyData.depthAll]; omega
end
theorem dp_thaw {w : World} {K : PySem.W.Frag} {H : Hp} {ι : Pls} {S : Sto} (rs : RS w K fa H ι S) : ∀ (k r : Nat) (a' : W) (v : V) (n : Nat), thaw 0 S k r = some a' → a'.flat n = true → RV w K fa H ι (.ref r) v → Dp K H v a'.py ∧ a'.py.canLay0 = true
  | 0, r, a', v, n, e, hn, rv => by simp only [thaw, Nat.not_lt_zero, if_false] at e; cases e
  | k + 1, r, a', v, n, e, hn, rv => by
    simp only [thaw, Nat.not_lt_zero, if_false] at e
    obtain ⟨p, hp, rfl⟩ := rv_ref.mp rv
    split at e
    · rename_i ws hr
      obtain ⟨ws', e1, rfl⟩ := Option.map_eq_some_iff.mp e
      obtain ⟨vs, h1, h2⟩ := rs.ob _ _ _ hr hp
      cases n with
      | zero => simp only [W.flat, Bool.false_eq_true] at hn
      | succ n =>
        simp only [W.flat] at hn
        obtain ⟨h3, h4⟩ := dpVs (dp_thaw rs k) ws ws' vs n e1 hn h2
        simp only [W.py, PyData.canLay0]
        exact ⟨.lst (SqL.of h1) h3, h4⟩
    · split at e
      · cases e; cases n <;> simp only [W.flat, Bool.false_eq_true] at hn
      · cases e
    · cases e
/-- a value as data, over the heap -/
theorem data_rv {w : World} {K : PySem.W.Frag} {H : Hp} {ι : Pls} {S : Sto} {a a' : W} {v : V} (rs : RS w K fa H ι S) (h : asData S a = some a') (r : RV w K fa H ι a v) : Dp K H v a'.py ∧ SeqAt.shaped a'.py = true := by
  unfold asData at h
  split at h
  · rename_i b e
    split at h
    · rename_i hn
      cases h
      obtain ⟨h1, h2⟩ := dpV (dp_thaw rs 8) a _ v deep e hn r
      have h3 := flat_depth _ deep hn
      unfold deep at h3
      refine ⟨h1, ?_⟩
      unfold SeqAt.shaped
      rw [h2, decide_eq_true (by omega)]; rfl
    · cases h
  · cases h
theorem o_eq (hu : X.A.units + 64 < cLine) : OpR X (compareOp .Eq) (rO2 X.w X.K fa (bV wEq)) := by
  rintro pins s σ H x y v u Q I rx ry ⟨ι, S, a, b, c, S', rs, ra, rb, hf, q⟩
  obtain ⟨k, hg, rfl⟩ := bvM hf
  clear hf
  unfold wEq at hg
  split at hg
  · rename_i a' b' h1 h2
    cases hg
    obtain ⟨d1, s1⟩ := data_rv rs h1 ra
    obtain ⟨d2, s2⟩ := data_rv rs h2 rb
    exact op_eqD hu pins s σ H x y v u Q I rx ry ⟨_, _, d1, d2, s1, s2, q.here rs (rv_bl.mpr rfl)⟩
  · cases hg
theorem o_ne (hu : X.A.units + 64 < cLine) : OpR X (compareOp .NotEq) (rO2 X.w X.K fa (bV fun a b => do let c ← wEq a b; pure (!c))) := by
  rintro pins s σ H x y v u Q I rx ry ⟨ι, S, a, b, c, S', rs, ra, rb, hf, q⟩
  obtain ⟨k, hg0, rfl⟩ := bvM hf
  clear hf
  obtain ⟨k', S1, hg, h⟩ := bindM hg0
  clear hg0
  obtain ⟨rfl, rfl⟩ := retM h
  clear h
  unfold wEq at hg
  split at hg
  · rename_i a' b' h1 h2
    cases hg
    obtain ⟨d1, s1⟩ := data_rv rs h1 ra
    obtain ⟨d2, s2⟩ := data_rv rs h2 rb
    exact op_neD hu pins s σ H x y v u Q I rx ry ⟨_, _, d1, d2, s1, s2, q.here rs (rv_bl.mpr rfl)⟩
  · cases hg

/-! ### subscripts of lists, tuples, texts; slices -/
theorem ixOf_eq (n : Nat) (i : Int) : ixOf n i = ixN n i := rfl
theorem atOf_eq {α : Type} (xs : List α) (i : Int) : atOf xs i = atI xs i := by
  unfold atOf atI
  rw [ixOf_eq]
  cases ixN xs.length i <;> rfl
theorem rvs_at {w : World} {K : PySem.W.Frag} {H : Hp} {ι : Pls} {ws : List W} {vs : List V} {i : Int} {a : W} (r : RVs w K fa H ι ws vs) (h : atOf ws i = some a) : ∃ v, atI vs i = some v ∧ RV w K fa H ι a v := by
  rw [atOf_eq] at h
  unfold atI at h ⊢
  rw [r.length] at h
  cases e : ixN vs.length i with
  | none => rw [e] at h; cases h
  | some j => rw [e] at h; exact r.get h
theorem litOk_one {x : Str} {c : Nat} (h : litOk x = true) (m : c ∈ x.cps.toList) : litOk ⟨#[c]⟩ = true := by
  have h1 := litOk_str h
  unfold PyData.strOk at h1
  rw [Array.all_eq_true_iff_forall_mem] at h1
  unfold litOk
  rw [Bool.and_eq_true]
  refine ⟨?_, decide_eq_true (show 1 ≤ lineN by decide)⟩
  unfold PyData.strOk
  have := h1 c (by simpa using m)
  simpa using this
theorem atOf_mem {α : Type} {xs : List α} {i : Int} {a : α} (h : atOf xs i = some a) : a ∈ xs := by
  unfold atOf at h
  split at h
  · exact List.mem_of_getElem? h
  · cases h
end
end TZ

set_option Elab.async false
set_option linter.all false
set_option maxRecDepth 100000
/-! A7: dicts. -/
namespace TZ
open PySem L2 StX PyProof.Rows

/-! ### keys -/
mutual
theorem eqv_key : ∀ (a b : W) (n m : Nat), a.hk n = true → b.hk m = true → W.eqv a b = NestedKey.beq a.nkey b.nkey
  | .tup as, b, n, m, h1, h2 => by
    cases b with
    | tup bs =>
      cases n with
      | zero => simp only [W.hk, Bool.false_eq_true] at h1
      | succ n =>
        cases m with
        | zero => simp only [W.hk, Bool.false_eq_true] at h2
        | succ m =>
          simp only [W.hk] at h1 h2
          show PyData.eqv (W.py (.tup as)) (W.py (.tup bs)) = _
          simp only [W.py, PyData.eqv, W.nkey, NestedKey.beq]
          exact eqvs_key as bs n m h1 h2
    | _ => (first | (cases m <;> simp only [W.hk, Bool.false_eq_true] at h2) | skip); all_goals simp [W.eqv, W.py, PyData.eqv, W.nkey, NestedKey.beq]
  | .lst _, b, n, m, h1, h2 => by cases n <;> simp only [W.hk, Bool.false_eq_true] at h1
  | .dct _ _, b, n, m, h1, h2 => by cases n <;> simp only [W.hk, Bool.false_eq_true] at h1
  | .ref _, b, n, m, h1, h2 => by cases n <;> simp only [W.hk, Bool.false_eq_true] at h1
  | .fn _, b, n, m, h1, h2 => by cases n <;> simp only [W.hk, Bool.false_eq_true] at h1
  | .non, b, n, m, h1, h2 => by
    cases b <;> (first | (cases m <;> simp only [W.hk, Bool.false_eq_true] at h2; done) | simp [W.eqv, W.py, PyData.eqv, W.nkey, NestedKey.beq])
  | .bl x, b, n, m, h1, h2 => by
    cases b with
    | bl y => cases x <;> cases y <;> rfl
    | int j => show ((if x = true then 1 else 0) == j) = decide ((if x = true then (1 : Int) else 0) = j); cases x <;> rfl
    | non => rfl
    | str y => rfl
    | tup ws => rfl
    | lst ws => cases m <;> simp only [W.hk, Bool.false_eq_true] at h2
    | dct _ _ => cases m <;> simp only [W.hk, Bool.false_eq_true] at h2
    | ref _ => cases m <;> simp only [W.hk, Bool.false_eq_true] at h2
    | fn _ => cases m <;> simp only [W.hk, Bool.false_eq_true] at h2
  | .int i, b, n, m, h1, h2 => by
    cases b with
    | bl y => show (i == (if y = true then 1 else 0)) = decide (i = (if y = true then (1 : Int) else 0)); cases y <;> rfl
    | int j => rfl
    | non => rfl
    | str y => rfl
    | tup ws => rfl
    | lst ws => cases m <;> simp only [W.hk, Bool.false_eq_true] at h2
    | dct _ _ => cases m <;> simp only [W.hk, Bool.false_eq_true] at h2
    | ref _ => cases m <;> simp only [W.hk, Bool.false_eq_true] at h2
    | fn _ => cases m <;> simp only [W.hk, Bool.false_eq_true] at h2
  | .str x, b, n, m, h1, h2 => by
    cases b with
    | str y =>
      show (x == y) = decide (x = y)
      rw [Bool.eq_iff_iff]; simp
    | bl y => rfl
    | int j => rfl
    | non => rfl
    | tup ws => rfl
    | lst ws => cases m <;> simp only [W.hk, Bool.false_eq_true] at h2
    | dct _ _ => cases m <;> simp only [W.hk, Bool.false_eq_true] at h2
    | ref _ => cases m <;> simp only [W.hk, Bool.false_eq_true] at h2
    | fn _ => cases m <;> simp only [W.hk, Bool.false_eq_true] at h2
theorem eqvs_key : ∀ (as bs : List W) (n m : Nat), hks n as = true → hks m bs = true → PyData.eqvAll (pys as) (pys bs) = NestedKey.beqAll (nkeys as) (nkeys bs)
  | [], [], _, _, _, _ => rfl
  | [], b :: bs, _, _, _, _ => rfl
  | a :: as, [], _, _, _, _ => rfl
  | a :: as, b :: bs, n, m, h1, h2 => by
    simp only [hks, Bool.and_eq_true] at h1 h2
    simp only [pys, nkeys, PyData.eqvAll, NestedKey.beqAll]
    rw [← eqv_key a b n m h1.1 h2.1, ← eqvs_key as bs n m h1.2 h2.2]
    rfl
end
theorem leaf_hk {a : W} (h : a.leaf = true) : a.hk 8 = true := by cases a <;> first | rfl | cases h
theorem eqv_dec {a b : W} (h1 : a.hk 8 = true) (h2 : b.hk 8 = true) : W.eqv a b = decide (a.nkey = b.nkey) := by
  rw [eqv_key a b 8 8 h1 h2, NestedKey.decide_eq]
theorem keyFor_hk {ks : List W} {x : W} (h : keyFor ks x = true) : x.hk 8 = true ∧ ∀ k ∈ ks, k.hk 8 = true := by
  unfold keyFor at h
  rw [Bool.or_eq_true, Bool.and_eq_true, Bool.and_eq_true] at h
  rcases h with ⟨h1, h2⟩ | ⟨h1, h2⟩
  · exact ⟨leaf_hk h1, fun k hk => leaf_hk (List.all_eq_true.mp h2 k hk)⟩
  · unfold W.tkey at h1 h2
    rw [Bool.and_eq_true] at h1
    refine ⟨h1.2, fun k hk => ?_⟩
    have := List.all_eq_true.mp h2 k hk
    rw [Bool.and_eq_true] at this
    exact this.2

def W.leafOf : W → Leaf
  | .bl b => .num (if b = true then 1 else 0)
  | .int i => .num i
  | .str x => .text x
  | _ => .none
theorem leafOf_key {a : W} (h : a.leaf = true) : a.leafOf.key = a.nkey := by
  cases a <;> first | rfl | cases h

section
variable {w : World} {K : PySem.W.Frag} {fa : Nat → Option Addr} {H : Hp} {ι : Pls}
theorem leaf_is {a : W} {v : V} {u : Value} (h : a.leaf = true) (r : RV w K fa H ι a v) (rv : RelV v u) : Leaf.isOf a.leafOf u = true := by
  cases a with
  | non => rw [rv_non] at r; subst r; cases rv; rfl
  | bl b => rw [rv_bl] at r; subst r; cases rv; cases b <;> rfl
  | int i => rw [rv_int] at r; subst r; obtain ⟨t, rfl⟩ := rv; exact decide_eq_true rfl
  | str x => rw [rv_str] at r; obtain ⟨rfl, _⟩ := r; obtain ⟨t, rfl⟩ := rv; show (x == x) = true; simp
  | _ => cases h
end
section
variable {X : Cx} {fa : Nat → Option Addr} {pins : List (Addr × Obj)} {σ : L2.St} {H : Hp} {s : Shared} {ι : Pls}
mutual
theorem nest_is (I : Inv X pins σ H s) : ∀ (a : W) (n : Nat) (v : V) (u : Value), a.hk n = true → RV X.w X.K fa H ι a v → RelV v u → NestedIs s.heap a.nkey u ∧ a.nkey.depth ≤ n
  | .non, n, v, u, h, r, rv => by rw [rv_non] at r; subst r; cases rv; simp only [W.nkey, NestedKey.depth]; exact ⟨.none, Nat.zero_le _⟩
  | .bl b, n, v, u, h, r, rv => by rw [rv_bl] at r; subst r; cases rv; simp only [W.nkey, NestedKey.depth]; exact ⟨.bool rfl, Nat.zero_le _⟩
  | .int i, n, v, u, h, r, rv => by rw [rv_int] at r; subst r; obtain ⟨t, rfl⟩ := rv; simp only [W.nkey, NestedKey.depth]; exact ⟨.int _ _, Nat.zero_le _⟩
  | .str x, n, v, u, h, r, rv => by rw [rv_str] at r; obtain ⟨rfl, _⟩ := r; obtain ⟨t, rfl⟩ := rv; simp only [W.nkey, NestedKey.depth]; exact ⟨.text _ _, Nat.zero_le _⟩
  | .lst _, n, v, u, h, r, rv => by cases n <;> simp only [W.hk, Bool.false_eq_true] at h
  | .dct _ _, n, v, u, h, r, rv => by cases n <;> simp only [W.hk, Bool.false_eq_true] at h
  | .ref _, n, v, u, h, r, rv => by cases n <;> simp only [W.hk, Bool.false_eq_true] at h
  | .fn _, n, v, u, h, r, rv => by cases n <;> simp only [W.hk, Bool.false_eq_true] at h
  | .tup ws, n, v, u, h, r, rv => by
    cases n with
    | zero => simp only [W.hk, Bool.false_eq_true] at h
    | succ n =>
      simp only [W.hk] at h
      obtain ⟨a, vs, rfl, t, rs⟩ := rv_tup' r
      obtain rfl : u = Value.ref a := rv
      obtain ⟨its, rr, ⟨o, ho, hc, m, hd⟩, _⟩ := I.tuple t
      obtain ⟨h1, h2⟩ := nests_is I ws n vs its h rs rr
      simp only [W.nkey, NestedKey.depth]
      exact ⟨.tup ho hc hd (by simpa using h1), by omega⟩
theorem nests_is (I : Inv X pins σ H s) : ∀ (as : List W) (n : Nat) (vs : List V) (us : List Value), hks n as = true → RVs X.w X.K fa H ι as vs → Vals vs us → NestedAll s.heap (nkeys as) us ∧ NestedKey.depthAll (nkeys as) ≤ n
  | [], n, vs, us, h, r, rv => by
    rw [r.nil_inv] at rv; cases rv
    simp only [nkeys, NestedKey.depthAll]
    exact ⟨.nil, Nat.zero_le _⟩
  | a :: as, n, vs, us, h, r, rv => by
    obtain ⟨v, vs', rfl, r1, r2⟩ := r.cons_inv
    cases rv with
    | cons q1 q2 =>
      simp only [hks, Bool.and_eq_true] at h
      obtain ⟨h1, h2⟩ := nest_is I a n v _ h.1 r1 q1
      obtain ⟨h3, h4⟩ := nests_is I as n vs' _ h.2 r2 q2
      simp only [nkeys, NestedKey.depthAll]
      exact ⟨.cons h1 h3, by omega⟩
end

/-! ### a key as it is looked for -/
structure KA (P : Program) (w : World) (A : Around) (s : Shared) (d : Addr) (hash : Int) (key : Value) (ix : Option Nat) (c : Nat) : Prop where
  hash_ : ∀ (E : Value → Shared → Prop) (Q : Int → Shared → Prop), Q hash { s with toks := s.toks + c } → wpAny (model P w) A (pyHash key) Q E s
  find : ∀ (t : Nat) (E : Value → Shared → Prop) (Q : Option Nat → Shared → Prop), Q ix { s with toks := t } → wpAny (model P w) A (dictFind d key hash) Q E { s with toks := t }
theorem ents_len {w : World} {ks : List W} {kvs uvs : List V} {es : List DictEntry} (h : Ents w ks kvs uvs es) : ks.length = es.length ∧ kvs.length = es.length ∧ uvs.length = es.length := by
  induction h with
  | nil => exact ⟨rfl, rfl, rfl⟩
  | cons _ _ _ _ ih => simp [ih.1, ih.2.1, ih.2.2]
theorem ents_get {w : World} : ∀ {ks : List W} {kvs uvs : List V} {es : List DictEntry}, Ents w ks kvs uvs es → ∀ {i : Nat} {e : DictEntry}, es[i]? = some e → ∃ k kv uv, ks[i]? = some k ∧ kvs[i]? = some kv ∧ uvs[i]? = some uv ∧ e.hash = k.nkey.hash w ∧ RelV kv e.key ∧ RelV uv e.val
  | _, _, _, _, .nil, _, _, h => by simp at h
  | _, _, _, _, .cons a b c t, 0, e, h => by simp at h; subst h; exact ⟨_, _, _, rfl, rfl, rfl, a, b, c⟩
  | _, _, _, _, .cons a b c t, i + 1, e, h => by
    obtain ⟨k, kv, uv, h1, h2, h3, r⟩ := ents_get t (i := i) (by simpa using h)
    exact ⟨k, kv, uv, by simpa using h1, by simpa using h2, by simpa using h3, r⟩
theorem findIdx_map {α β : Type} (p : α → Bool) (q : β → Bool) : ∀ (xs : List α) (ys : List β), xs.length = ys.length → (∀ (i : Nat) (x : α) (y : β), xs[i]? = some x → ys[i]? = some y → p x = q y) → xs.findIdx? p = ys.findIdx? q
  | [], [], _, _ => rfl
  | [], _ :: _, h, _ => by simp at h
  | _ :: _, [], h, _ => by simp at h
  | x :: xs, y :: ys, h, e => by
    rw [List.findIdx?_cons, List.findIdx?_cons, e 0 x y rfl rfl, findIdx_map p q xs ys (by simpa using h) fun i a b h1 h2 => e (i + 1) a b (by simpa using h1) (by simpa using h2)]
theorem ents_nested (I : Inv X pins σ H s) : ∀ {ks us : List W} {kvs uvs : List V} {es : List DictEntry}, Ents X.w ks kvs uvs es → RVs X.w X.K fa H ι ks kvs → ks.all W.tkey = true →
    ∃ xs : List (NestedKey × Addr × Value), es = xs.map (entryOfKey (nestedKind X.prog X.w)) ∧ xs.map (·.1) = ks.map W.nkey ∧ ∀ x ∈ xs, (nestedKind X.prog X.w).is s.heap x.1 x.2.1
  | _, _, _, _, _, .nil, _, _ => ⟨[], rfl, rfl, fun _ h => nomatch h⟩
  | _, us, _, _, _, .cons (k := k) (ks := ks) (e := e) a b c t, r, h => by
    obtain ⟨v, vs', e1, r1, r2⟩ := r.cons_inv
    cases e1
    rw [List.all_cons, Bool.and_eq_true] at h
    obtain ⟨xs, e2, e3, e4⟩ := ents_nested I (us := us) t r2 h.2
    have h1 := h.1
    unfold W.tkey at h1
    rw [Bool.and_eq_true] at h1
    obtain ⟨n1, n2⟩ := nest_is I k 8 _ e.key h1.2 r1 b
    cases k with
    | tup ws =>
      obtain ⟨p, vs, rfl, _⟩ := rv_tup' r1
      have ek : e.key = Value.ref p := b
      refine ⟨((W.tup ws).nkey, p, e.val) :: xs, ?_, by rw [List.map_cons, List.map_cons, e3], fun x hx => ?_⟩
      · rw [List.map_cons, ← e2]
        obtain ⟨eh, ekey, ev⟩ := e
        show (⟨eh, ekey, ev⟩ : DictEntry) :: _ = ⟨_, Value.ref p, ev⟩ :: _
        have a : eh = NestedKey.hash X.w (W.tup ws).nkey := a
        have ek : ekey = Value.ref p := ek
        rw [a, ek]; rfl
      · rcases List.mem_cons.mp hx with rfl | hx
        · rw [ek] at n1; exact ⟨n1, n2⟩
        · exact e4 x hx
    | _ => cases h1.1
/-- the dict at d, the key asked -/
theorem key_at {A : Around} {d : Addr} {o : Obj} {ep : Nat} {ks us : List W} {kvs uvs : List V} {es : List DictEntry} {k : W} {v : V} {u : Value} (hA : A.units + 8 < cLine) (I : Inv X pins σ H s) (ho : s.heap.get? d = some o) (hd : o.data = .dict es.toArray ep)
    (en : Ents X.w ks kvs uvs es) (nd : (ks.map W.nkey).Nodup) (rks : RVs X.w X.K fa H ι ks kvs) (hk : keyFor ks k = true) (r : RV X.w X.K fa H ι k v) (rv : RelV v u) : ∃ c, KA X.prog X.w A s d (k.nkey.hash X.w) u (kIdx ks k) c := by
  obtain ⟨hk1, hk2⟩ := keyFor_hk hk
  unfold keyFor at hk
  rw [Bool.or_eq_true, Bool.and_eq_true, Bool.and_eq_true] at hk
  rcases hk with ⟨h1, h2⟩ | ⟨h1, h2⟩
  · -- keys carried by value
    have hu := leaf_is h1 r rv
    have hh : (leafKind X.prog X.w).hash k.leafOf = k.nkey.hash X.w := by show k.leafOf.key.hash X.w = _; rw [leafOf_key h1]
    refine ⟨1, fun E Q q => ?_, fun t0 E Q q => ?_⟩
    · exact (leafKind X.prog X.w).pyHash (k := k.leafOf) hu (by rw [hh]; exact q)
    · rw [← hh]
      refine wpAny_dictFind_of (knd := leafKind X.prog X.w) (k := k.leafOf) hu ho hd (fun e he => ?_) ?_
      · obtain ⟨i, hi⟩ := List.mem_iff_getElem?.mp (show e ∈ es by simpa using he)
        obtain ⟨k', kv, uv, e1, e2, e3, e4, e5, e6⟩ := ents_get en hi
        have hl : k'.leaf = true := List.all_eq_true.mp h2 k' (List.mem_of_getElem? e1)
        obtain ⟨v', e7, r7⟩ := rks.get e1
        rw [e2] at e7; cases e7
        refine ⟨k'.leafOf, leaf_is hl r7 e5, ?_⟩
        show e.hash = k'.leafOf.key.hash X.w
        rw [leafOf_key hl]; exact e4
      · have e : (es.toArray.findIdx? fun e => (leafKind X.prog X.w).is k.leafOf e.key) = kIdx ks k := by
          rw [List.findIdx?_toArray]
          unfold kIdx
          refine (findIdx_map _ _ _ _ (ents_len en).1 fun i x y g1 g2 => ?_).symm
          obtain ⟨k', kv, uv, e1, e2, e3, e4, e5, e6⟩ := ents_get en g2
          rw [g1] at e1; cases e1
          have hl : x.leaf = true := List.all_eq_true.mp h2 x (List.mem_of_getElem? g1)
          obtain ⟨v', e7, r7⟩ := rks.get g1
          rw [e2] at e7; cases e7
          rw [KeyKind.is_eq_decide (knd := leafKind X.prog X.w) (k := x.leafOf) (leaf_is hl r7 e5), eqv_dec (leaf_hk hl) (leaf_hk h1)]
          have key_inj : x.nkey = k.nkey ↔ k.leafOf = x.leafOf := by
            rw [← leafOf_key hl, ← leafOf_key h1]
            exact ⟨fun z => (Leaf.key_inj z).symm, fun z => by rw [z]⟩
          exact decide_eq_decide.mpr key_inj
        rw [e]; exact q
  · -- keys that are tuples
    obtain ⟨xs, e1, e2, e3⟩ := ents_nested I (us := us) en rks h2
    cases k with
    | tup ws =>
      obtain ⟨p, vs, rfl, _⟩ := rv_tup' r
      obtain rfl : u = Value.ref p := rv
      have hp : (nestedKind X.prog X.w).is s.heap (W.tup ws).nkey p := nest_is I _ 8 _ _ hk1 r rfl
      have nd' : (xs.map (·.1)).Nodup := by rw [e2]; exact nd
      have hix : ∀ j, kIdx ks (.tup ws) = some j ↔ ∃ q, xs[j]? = some ((W.tup ws).nkey, q) := by
        intro j
        have hks : ∀ i k', ks[i]? = some k' → W.eqv k' (.tup ws) = decide (k'.nkey = (W.tup ws).nkey) := fun i k' g => eqv_dec (hk2 k' (List.mem_of_getElem? g)) hk1
        have e4 : kIdx ks (.tup ws) = xs.findIdx? fun x => decide (x.1 = (W.tup ws).nkey) := by
          refine findIdx_map _ _ _ _ (by have := congrArg List.length e2; simpa using this.symm) fun i k' x g1 g2 => ?_
          rw [hks i k' g1]
          have : (xs.map (·.1))[i]? = (ks.map W.nkey)[i]? := by rw [e2]
          rw [List.getElem?_map, List.getElem?_map, g1, g2] at this
          have z : x.1 = k'.nkey := by simpa using this
          rw [z]
        rw [e4, List.findIdx?_eq_some_iff_getElem]
        constructor
        · rintro ⟨hj, h1, _⟩
          refine ⟨xs[j].2, ?_⟩
          rw [List.getElem?_eq_getElem hj]
          have := of_decide_eq_true h1
          rw [← this]
        · rintro ⟨q, hq⟩
          obtain ⟨hj, e5⟩ := List.getElem?_eq_some_iff.mp hq
          refine ⟨hj, by rw [e5]; exact decide_eq_true rfl, fun i hi => ?_⟩
          intro z
          have z := of_decide_eq_true z
          have h6 : (xs.map (·.1))[i]'(by simp; omega) = (xs.map (·.1))[j]'(by simpa using hj) := by
            rw [List.getElem_map, List.getElem_map, z, e5]
          have := (List.getElem_inj nd').mp h6
          omega
      refine ⟨(nestedKind X.prog X.w).draws (W.tup ws).nkey, fun E Q q => ?_, fun t0 E Q q => ?_⟩
      · exact (nestedKind X.prog X.w).pyHash hA hp q
      · show wpAny (model X.prog X.w) A (dictFind d (.ref p) ((nestedKind X.prog X.w).hash (W.tup ws).nkey)) Q E _
        generalize hs' : ({ s with toks := t0 } : Shared) = s' at q ⊢
        have hh : s'.heap = s.heap := by rw [← hs']
        refine wpAny_dictFind_heap (knd := nestedKind X.prog X.w) (s := s') (o := o) (es := es.toArray) (ep := ep) (xs := xs) hA (by rw [hh]; exact hp) (by rw [hh]; exact ho) hd e1 (by rw [hh]; exact e3) nd' (fun hn => ?_) fun j q' hj => ?_
        · have : kIdx ks (.tup ws) = none := by
            cases z : kIdx ks (.tup ws) with
            | none => rfl
            | some j => obtain ⟨q', hq⟩ := (hix j).mp z; exact absurd hq (hn j q')
          rw [← this]; exact q
        · rw [← (hix j).mpr ⟨q', hj⟩]; exact q
    | _ => cases h1

/-! ### the dict's operations -/
theorem dob_at {a : Addr} {es : List DictEntry} {ep : Nat} (I : Inv X pins σ H s) (h : H a = some (dOb a es ep)) : (a == sysModules) = false ∧ es.length ≤ sizeLine ∧ ∃ o, s.heap.get? a = some o ∧ o.ExactDict ∧ o.data = .dict es.toArray ep := (I.hok a _ h).1
theorem dob_ok {P : Program} {w : World} {H' : Hp} {h' : Heap} {a : Addr} {es : List DictEntry} (h1 : (a == sysModules) = false) (h2 : es.length ≤ sizeLine) {o : Obj} {ep : Nat} (h3 : h'.get? a = some o) (h4 : o.ExactDict) (h5 : o.data = .dict es.toArray ep) : ObjOk P w H' h' a (dOb a es ep) :=
  ⟨⟨h1, h2, o, h3, h4, h5⟩, ⟨o, h3⟩, fun g1 g2 ⟨x1, x2, o', x3, x4, x5⟩ k => ⟨x1, x2, o', k _ x3, x4, x5⟩⟩
theorem dictOf_rv {S : Sto} {a : W} {ks us : List W} {v : V} (rs : RS X.w X.K fa H ι S) (h : dictOf S a = some (ks, us)) (r : RV X.w X.K fa H ι a v) :
    ∃ p es ep kvs uvs, v = .ref p ∧ H p = some (dOb p es ep) ∧ Ents X.w ks kvs uvs es ∧ (ks.map W.nkey).Nodup ∧ RVs X.w X.K fa H ι ks kvs ∧ RVs X.w X.K fa H ι us uvs := by
  cases a with
  | dct ks' us' =>
    cases h
    simp only [RV] at r
    obtain ⟨p, es, ep, kvs, uvs, e, h1, _, h2, h3, h4, h5⟩ := r
    exact ⟨p, es, ep, kvs, uvs, e, h1, h2, h3, h4, h5⟩
  | ref n =>
    obtain ⟨p, hp, e⟩ := rv_ref.mp r
    have h : (match S[n]? with | some (Ob.dct ks us) => some (ks, us) | _ => none) = some (ks, us) := h
    split at h
    · rename_i ks' us' hn
      cases h
      obtain ⟨es, ep, kvs, uvs, h1, h2, h3, h4, h5⟩ := rs.ob n _ p hn hp
      exact ⟨p, es, ep, kvs, uvs, e, h1, h2, h3, h4, h5⟩
    · cases h
  | _ => cases h
variable {A : Around} {E : Value → Shared → Prop} {d : Addr} {o : Obj} {ep c : Nat} {es : List DictEntry} {hash : Int} {key : Value} {ix : Option Nat}
/-- what is found at a place -/
def valAt (es : List DictEntry) : Option Nat → Option Value
  | some i => es[i]?.map (·.val)
  | none => none
theorem d_get {Q : Option Value → Shared → Prop} (ka : KA X.prog X.w A s d hash key ix c) (ho : s.heap.get? d = some o) (hd : o.data = .dict es.toArray ep) (h : Q (valAt es ix) { s with toks := s.toks + c }) : wpAny (model X.prog X.w) A (dictGet d key) Q E s := by
  unfold dictGet
  (try with_reducible refine wpAny_holding ?_)
  refine wpAny_bind (ka.hash_ _ _ (wpAny_bind (ka.find _ _ _ ?_)))
  cases ix with
  | none => exact wpAny_pure h
  | some i =>
    refine wpAny_bind (wpAny_dictEntries (s := { s with toks := s.toks + c }) ho hd (wpAny_pure ?_))
    have e : (es.toArray[i]?.map fun x => x.val) = valAt es (some i) := by simp [valAt]
    rw [e]; exact h
theorem d_isDict (ho : s.heap.get? d = some o) (hc : o.ExactDict) : s.TypeIs (.ref d) "dict" := ⟨o, ho, hc.1⟩
theorem d_cont {Q : Bool → Shared → Prop} (ka : KA X.prog X.w A.in1 s d hash key ix c) (hs : (d == sysModules) = false) (ho : s.heap.get? d = some o) (hc : o.ExactDict) (hd : o.data = .dict es.toArray ep)
    (h : Q (valAt es ix).isSome { s with toks := s.toks + c }) : wpAny (model X.prog X.w) A (contains (.ref d) key) Q E s := by
  have ty := d_isDict ho hc
  refine wpAny_contains_slot ty PySem.F.slot_dict_contains ?_
  refine wpAny_call_entry PySem.F.slot_dict_contains ty PySem.F.entry_dict_contains ?_ (PySem.F.args_dict_contains_2 _ _)
  show wpAny _ _ (dictGet d key >>= _) _ _ s
  refine wpAny_bind (d_get ka ho hd ?_)
  cases e : valAt es ix with
  | some v =>
    rw [e] at h
    show wpAny _ _ (ret (.bool true)) _ _ _
    exact wpAny_pure ⟨_, rfl, wpAny_truthy_bool h⟩
  | none =>
    rw [e] at h
    show wpAny _ _ (Builtin.Dict.pendingKey? d key >>= _) _ _ _
    exact wpAny_bind (wpAny_pendingKey_other hs (wpAny_pure ⟨_, rfl, wpAny_truthy_bool h⟩))
theorem d_item {v : Value} {Q : Value → Shared → Prop} (ka : KA X.prog X.w A.in1 s d hash key ix c) (ho : s.heap.get? d = some o) (hc : o.ExactDict) (hd : o.data = .dict es.toArray ep) (hv : valAt es ix = some v)
    (h : Q v { s with toks := s.toks + c }) : wpAny (model X.prog X.w) A (getItem (.ref d) key) Q E s := by
  have ty := d_isDict ho hc
  unfold getItem
  (try with_reducible refine wpAny_holding ?_)
  refine wpAny_bind (wpAny_sequenceKey ty (by decide) ?_)
  refine wpAny_bind (wpAny_callSpecial?_slot (name := Str.ofString "__getitem__") ty PySem.slot_dict_getitem (wpAny_call_entry PySem.slot_dict_getitem ty PySem.entry_dict_getitem ?_ (PySem.args_dict_getitem _ _)))
  show wpAny _ _ (dictGet d key >>= _) _ _ s
  refine wpAny_bind (d_get ka ho hd ?_)
  rw [hv]
  exact wpAny_pure ⟨v, rfl, wpAny_pure h⟩
/-- the keys' count behind d[k] = v -/
def putN (ep : Nat) (ix : Option Nat) : Nat := match ix with
  | some _ => ep
  | none => ep + 1
/-- the entries behind d[k] = v -/
def putE (es : List DictEntry) (ix : Option Nat) (hash : Int) (key v : Value) : List DictEntry := match ix with
  | some i => es.modify i fun e => { e with val := v }
  | none => es ++ [⟨hash, key, v⟩]
theorem d_set {v : Value} {Q : Unit → Shared → Prop} (ka : KA X.prog X.w A s d hash key ix c) (ho : s.heap.get? d = some o) (hc : o.ExactDict) (hd : o.data = .dict es.toArray ep) (hz : es.length ≤ sizeLine)
    (h : ∀ h' o', h'.get? d = some o' → o'.ExactDict → o'.data = .dict (putE es ix hash key v).toArray (putN ep ix) → Heap.SameBut d s.heap h' → Q () { s with heap := h', toks := s.toks + c }) : wpAny (model X.prog X.w) A (dictSet d key v) Q E s := by
  unfold dictSet
  (try with_reducible refine wpAny_holding ?_)
  refine wpAny_bind (ka.hash_ _ _ ?_)
  unfold dictSetHashed
  (try with_reducible refine wpAny_holding ?_)
  refine wpAny_bind (ka.find _ _ _ ?_)
  cases ix with
  | some i =>
    refine wpAny_bind (wpAny_rule (wpAny_bind (wpAny_updateDict (s := { s with toks := s.toks + c }) ho hd (wpAny_point (h _ _ (Heap.get?_update_self _ ho (Obj.isFreed_of_dict (Obj.data_mapDict hd _))) (hc.mapDict _) ?_ (Heap.SameBut.update ..))))))
    rw [Obj.data_mapDict hd]
    have e : es.toArray.modify i (fun e => { e with val := v }) = (putE es (some i) hash key v).toArray := by
      show _ = (es.modify i _).toArray
      rw [List.modify_toArray]
    rw [e]; rfl
  | none =>
    refine wpAny_bind (wpAny_rule (wpAny_updateDictKeys (hz := by simpa using hz) (s := { s with toks := s.toks + c }) ho hd (h _ _ (Heap.get?_update_self _ ho (Obj.isFreed_of_dict (Obj.data_mapDictKeys hd _))) (hc.mapDictKeys _) ?_ (Heap.SameBut.update ..))))
    rw [Obj.data_mapDictKeys hd]
    have e : es.toArray.push ⟨hash, key, v⟩ = (putE es none hash key v).toArray := by
      show _ = (es ++ [_]).toArray
      simp
    rw [e]; rfl
theorem d_setItem {v : Value} {Q : Unit → Shared → Prop} (ka : KA X.prog X.w A.in1 s d hash key ix c) (ho : s.heap.get? d = some o) (hc : o.ExactDict) (hd : o.data = .dict es.toArray ep) (hz : es.length ≤ sizeLine)
    (h : ∀ h' o', h'.get? d = some o' → o'.ExactDict → o'.data = .dict (putE es ix hash key v).toArray (putN ep ix) → Heap.SameBut d s.heap h' → Q () { s with heap := h', toks := s.toks + c }) : wpAny (model X.prog X.w) A (setItem (.ref d) key v) Q E s := by
  have ty := d_isDict ho hc
  unfold setItem
  (try with_reducible refine wpAny_holding ?_)
  refine wpAny_bind (wpAny_sequenceKey ty (by decide) ?_)
  refine wpAny_bind (wpAny_callSpecial?_slot (name := Str.ofString "__setitem__") ty PySem.slot_dict_setitem (wpAny_call_entry PySem.slot_dict_setitem ty PySem.entry_dict_setitem ?_ (PySem.args_dict_setitem _ _ _)))
  show wpAny _ _ (Builtin.Dict.notOrdered "__setitem__" ⟨[.ref d, key, v], []⟩ >>= _) _ _ s
  refine wpAny_bind (wpAny_notOrdered_dict ty ?_)
  show wpAny _ _ (dictSet d key v >>= _) _ _ s
  exact wpAny_bind (d_set ka ho hc hd hz fun h' o' x1 x2 x3 x4 => wpAny_pure ⟨.none, rfl, wpAny_pure (h h' o' x1 x2 x3 x4)⟩)
end
end TZ

set_option Elab.async false
set_option linter.all false
set_option maxRecDepth 100000
/-! A8: in, subscripts, slices, stores at places. -/
namespace TZ
open PySem L2 StX PyProof.Rows

section
variable {X : Cx} {fa : Nat → Option Addr}
theorem valAt_get {w : World} {ks us : List W} {kvs uvs : List V} {es : List DictEntry} {K : PySem.W.Frag} {H : Hp} {ι : Pls} {k : W} (en : Ents w ks kvs uvs es) (ru : RVs w K fa H ι us uvs) :
    (valAt es (kIdx ks k)).isSome = dHas ks k ∧ (∀ u, dAt ks us k = some u → ∃ v uv, valAt es (kIdx ks k) = some v ∧ RelV uv v ∧ RV w K fa H ι u uv) ∧ (dAt ks us k = none → valAt es (kIdx ks k) = none) := by
  obtain ⟨l1, l2, l3⟩ := ents_len en
  have l4 := ru.length
  unfold dHas dAt
  cases e : kIdx ks k with
  | none => exact ⟨rfl, ⟨fun u h => (nomatch h), fun _ => rfl⟩⟩
  | some i =>
    have hi : i < es.length := by
      unfold kIdx at e
      have := (List.findIdx?_eq_some_iff_getElem.mp e).1
      omega
    obtain ⟨k', kv, uv, e1, e2, e3, e4, e5, e6⟩ := ents_get en (List.getElem?_eq_getElem hi)
    have hv : valAt es (some i) = some es[i].val := by simp [valAt, hi]
    have hu : i < us.length := by omega
    refine ⟨by rw [hv]; rfl, fun u h => ?_, fun h => ?_⟩
    · obtain ⟨uv', e7, r7⟩ := ru.get h
      rw [e3] at e7; cases e7
      exact ⟨_, uv, hv, e6, r7⟩
    · simp [List.getElem?_eq_getElem hu] at h
theorem data_in {w : World} {K : PySem.W.Frag} {a : W} : ∀ ws : List W, ((pys ws).any fun z => PyData.eqv z a.py) = anyEqv a ws
  | [] => rfl
  | b :: bs => by simp only [pys, List.any_cons, anyEqv]; rw [data_in (w := w) (K := K) bs]; rfl
/-- x in s, x not in s: with what the answer does -/
theorem in_ok (hu : X.A.units + 65 < cLine) {pins : List (Addr × Obj)} {s : Shared} {σ : L2.St} {H : Hp} {x y : V} {v u : Value} {Q : VK} {ι : Pls} {S S' : Sto} {a b : W} {k : Bool} (I : Inv X pins σ H s) (rx : RelV x v) (ry : RelV y u)
    (rs : RS X.w X.K fa H ι S) (ra : RV X.w X.K fa H ι a x) (rb : RV X.w X.K fa H ι b y) (hg : wIn a b S = some (k, S')) : S' = S ∧
    ((Q (.bl k) H → wpAny (model X.prog X.w) X.A (compareOp .In v u) (EP X pins σ Q) X.xe s) ∧ (Q (.bl (!k)) H → wpAny (model X.prog X.w) X.A (compareOp .NotIn v u) (EP X pins σ Q) X.xe s)) := by
  unfold wIn at hg
  split at hg
  · cases hg
    rw [rv_str] at ra rb
    exact ⟨rfl, fun q => op_in_str pins s σ H x y v u Q I rx ry ⟨_, _, ra.1, rb.1, q⟩, fun q => op_notin_str pins s σ H x y v u Q I rx ry ⟨_, _, ra.1, rb.1, q⟩⟩
  · split at hg
    · rename_i ks us hd
      split at hg
      · rename_i hk
        cases hg
        obtain ⟨p, es, ep, kvs, uvs, rfl, hp, en, nd, r1, r2⟩ := dictOf_rv rs hd rb
        obtain ⟨g1, g2, o, ho, hc, hdata⟩ := dob_at I hp
        obtain rfl : u = Value.ref p := ry
        obtain ⟨c, ka⟩ := key_at (A := X.A.in1) (us := us) (by show X.A.units + 1 + 8 < cLine; omega) I ho hdata en nd r1 hk ra rx
        have hh := (valAt_get (k := a) en r2).1
        refine ⟨rfl, fun q => ?_, fun q => ?_⟩
        · show wpAny _ _ (contains (.ref p) v >>= fun r => pure (Value.bool r)) _ _ _
          refine wpAny_bind (d_cont ka g1 ho hc hdata (wpAny_pure ?_))
          rw [hh]
          exact ⟨.bl _, H, I.tok _, rfl, q⟩
        · show wpAny _ _ (contains (.ref p) v >>= fun r => pure (Value.bool (!r))) _ _ _
          refine wpAny_bind (d_cont ka g1 ho hc hdata (wpAny_pure ?_))
          rw [hh]
          exact ⟨.bl _, H, I.tok _, rfl, q⟩
      · cases hg
    · split at hg
      · rename_i h1 h2
        cases hg
        obtain ⟨d1, s1⟩ := data_rv rs h1 ra
        obtain ⟨d2, s2⟩ := data_rv rs h2 rb
        refine ⟨rfl, fun q => op_inD hu pins s σ H x y v u Q I rx ry ⟨_, _, d1, by simpa only [W.py] using d2, s1, by simpa only [W.py] using s2, ?_⟩, fun q => op_notInD hu pins s σ H x y v u Q I rx ry ⟨_, _, d1, by simpa only [W.py] using d2, s1, by simpa only [W.py] using s2, ?_⟩⟩ <;> (rw [data_in (w := X.w) (K := X.K)]; exact q)
      · rename_i h1 h2
        cases hg
        obtain ⟨d1, s1⟩ := data_rv rs h1 ra
        obtain ⟨d2, s2⟩ := data_rv rs h2 rb
        simp only [W.py] at d2 s2
        obtain ⟨as, r1⟩ := Dp.reads I _ x v d1 rx
        obtain ⟨bs, r2⟩ := Dp.reads I _ y u d2 ry
        have l2 : PyData.canLayAll0 _ = true := SeqAt.canLay_of_shaped s2
        refine ⟨rfl, fun q => SeqAt.in_tuple_reads r2 r1 l2 (SeqAt.canLay_of_shaped s1) (room_in_shaped s1 hu) ⟨.bl _, H, I, rfl, ?_⟩, fun q => SeqAt.notIn_tuple_reads r2 r1 l2 (SeqAt.canLay_of_shaped s1) (room_in_shaped s1 hu) ⟨.bl _, H, I, rfl, ?_⟩⟩ <;> (rw [data_in (w := X.w) (K := X.K)]; exact q)
      · cases hg
theorem o_in (hu : X.A.units + 65 < cLine) : OpR X (compareOp .In) (rO2 X.w X.K fa (bV wIn)) := by
  rintro pins s σ H x y v u Q I rx ry ⟨ι, S, a, b, c, S', rs, ra, rb, hf, q⟩
  obtain ⟨k, hg, rfl⟩ := bvM hf
  clear hf
  obtain ⟨rfl, h1, _⟩ := in_ok (Q := Q) hu I rx ry rs ra rb hg
  exact h1 (q.here rs (rv_bl.mpr rfl))
theorem o_ni (hu : X.A.units + 65 < cLine) : OpR X (compareOp .NotIn) (rO2 X.w X.K fa (bV fun a b => do let c ← wIn a b; pure (!c))) := by
  rintro pins s σ H x y v u Q I rx ry ⟨ι, S, a, b, c, S', rs, ra, rb, hf, q⟩
  obtain ⟨k, hg0, rfl⟩ := bvM hf
  clear hf
  obtain ⟨k', S1, hg, h⟩ := bindM hg0
  clear hg0
  obtain ⟨rfl, rfl⟩ := retM h
  clear h
  obtain ⟨rfl, _, h2⟩ := in_ok (Q := Q) hu I rx ry rs ra rb hg
  exact h2 (q.here rs (rv_bl.mpr rfl))

theorem tail_dict {value slice : Expr} {v u : Value} {E : Value → Shared → Prop} {Q : Value → Shared → Prop} {s : Shared} (ht : s.TypeIs v "dict") (h : wpAny (model X.prog X.w) X.A (getItem v u) Q E s) (hs : subscripted slice false v u = operate [v, u] (getItem v u)) :
    wpAny (model X.prog X.w) X.A (subscriptTail value slice v u) Q E s := tail_any ht slot_dict_getitem.lookup h hs
/-- a subscript -/
theorem i_ix (hu : X.A.units + 65 < cLine) : IxR X (rO2 X.w X.K fa wIx) := by
  rintro value slice pins s σ H x y v u Q I rx ry ⟨ι, S, a, b, c, S', rs, ra, rb, hg, q⟩ hs
  unfold wIx at hg
  split at hg
  · split at hg
    · rename_i e
      cases hg
      rw [rv_str] at ra
      rw [rv_int] at rb
      refine ix_str value slice pins s σ H x y v u Q I rx ry ⟨_, _, _, ra.1, rb, litOk_len ra.2, by rw [← atOf_eq]; exact e, q.here rs (rv_str.mpr ⟨rfl, litOk_one ra.2 (atOf_mem e)⟩)⟩ hs
    · cases hg
  · split at hg
    · rename_i ks us hd
      split at hg
      · rename_i hk
        split at hg
        · rename_i w hw
          cases hg
          obtain ⟨p, es, ep, kvs, uvs, rfl, hp, en, nd, r1, r2⟩ := dictOf_rv rs hd ra
          obtain ⟨g1, g2, o, ho, hc, hdata⟩ := dob_at I hp
          obtain rfl : v = Value.ref p := rx
          obtain ⟨cc, ka⟩ := key_at (A := X.A.in1) (us := us) (by show X.A.units + 1 + 8 < cLine; omega) I ho hdata en nd r1 hk rb ry
          obtain ⟨v1, uv, e1, e2, e3⟩ := (valAt_get (k := b) en r2).2.1 _ hw
          exact tail_dict (d_isDict ho hc) (d_item ka ho hc hdata e1 ⟨uv, H, I.tok _, e2, q.here rs e3⟩) hs
        · cases hg
      · cases hg
    · split at hg
      · rename_i xs hx _
        split at hg
        · rename_i w hw
          cases hg
          rw [rv_int] at rb
          obtain ⟨p, vs, e, hq, r⟩ := seqOf_rv rs hx ra
          obtain ⟨v1, e1, r1⟩ := rvs_at r hw
          rcases hq with hq | hq
          · exact ix_tup value slice pins s σ H x y v u Q I rx ry ⟨p, vs, _, v1, e, rb, hq, e1, q.here rs r1⟩ hs
          · exact ix_list value slice pins s σ H x y v u Q I rx ry ⟨p, vs, _, v1, e, rb, hq, e1, q.here rs r1⟩ hs
        · cases hg
      · cases hg

/-! ### slices -/
def rSlW (X : Cx) (fa : Nat → Option Addr) : V → Option Int → Option Int → Hp → VK → Prop := fun x lo hi H Q => ∃ ι S a l h c S', RS X.w X.K fa H ι S ∧ RV X.w X.K fa H ι a x ∧ endOf l = some lo ∧ endOf h = some hi ∧ wSlc a l h S = some (c, S') ∧ After X.w X.K fa ι H c S' Q
theorem litOk_cut {x : Str} (h : litOk x = true) (lo hi : Option Int) : litOk ⟨(cutOf x.cps.toList lo hi).toArray⟩ = true := by
  have h1 := litOk_str h
  have h2 := litOk_len h
  unfold PyData.strOk at h1
  rw [Array.all_eq_true_iff_forall_mem] at h1
  unfold litOk
  rw [Bool.and_eq_true]
  refine ⟨?_, decide_eq_true ?_⟩
  · unfold PyData.strOk
    rw [Array.all_eq_true_iff_forall_mem]
    intro c hc
    have hc : c ∈ cutOf x.cps.toList lo hi := by simpa using hc
    exact h1 c (by simpa using List.mem_of_mem_drop (List.mem_of_mem_take hc))
  · show (cutOf x.cps.toList lo hi).toArray.size ≤ lineN
    have hl : x.cps.toList.length = x.length := by simp [Str.length]
    rw [List.size_toArray, lineN_eq]
    unfold cutOf
    rw [List.length_take, List.length_drop, hl]; omega
theorem plOf_sIx (n d : Nat) (o : Option Int) : plOf n d o = HT.sIx n d o := by cases o <;> rfl
theorem i_slc : SlR X (rSlW X fa) := by
  rintro pins s σ H x v vl vu lo hi sl Q I rx hs pl pu ⟨ι, S, a, l, h, c, S', rs, ra, el, eh, hg, q⟩
  unfold wSlc at hg
  rw [el, eh] at hg
  simp only at hg
  split at hg
  · rename_i z
    cases hg
    rw [rv_str] at ra
    refine sl_str pins s σ H x v vl vu lo hi sl Q I rx hs pl pu ⟨_, ra.1, litOk_len ra.2, ?_⟩
    have e : cutS z lo hi = ⟨(cutOf z.cps.toList lo hi).toArray⟩ := by
      show cutS z lo hi = ⟨(cutOf z.cps.toList lo hi).toArray⟩
      unfold cutS cutOf
      rw [plOf_sIx, plOf_sIx, show z.length = z.cps.toList.length by simp [Str.length]]
    rw [e]
    exact q.here rs (rv_str.mpr ⟨rfl, litOk_cut ra.2 lo hi⟩)
  · rename_i xs
    cases hg
    obtain ⟨p, vs, e, t, r⟩ := rv_tup' ra
    refine sl_tupA pins s σ H x v vl vu lo hi sl Q I rx hs pl pu ⟨p, vs, e, t, fun hw => ?_, fun _ p hp => q.new_tup rs (r.cut lo hi) hp⟩
    have e2 : cutOf xs lo hi = xs := by
      unfold cutOf
      rw [plOf_sIx, plOf_sIx, r.length, hw.1, hw.2, Nat.sub_zero, List.drop_zero, ← r.length, List.take_length]
    rw [e2] at q
    rw [e] at ra
    exact q.here rs ra
  · split at hg
    · rename_i xs hx
      cases hg
      obtain ⟨p, vs, e, t, r⟩ := listOf_rv rs hx ra
      exact sl_list pins s σ H x v vl vu lo hi sl Q I rx hs pl pu ⟨p, vs, e, t, fun p hp => q.new_lst rs (r.cut lo hi) hp⟩
    · cases hg
end
end TZ

set_option Elab.async false
set_option linter.all false
set_option maxRecDepth 100000
/-! A9: slices and stores as they are written; methods. -/
namespace TZ
open PySem L2 StX PyProof.Rows

section
variable {X : Cx} {fa : Nat → Option Addr}
/-! ### slices -/
def rPO (w : World) (K : PySem.W.Frag) (fa : Nat → Option Addr) (m : Rho → M W) : TO := fun σ H Q => ∃ ι ρ S a o S', RS w K fa H ι S ∧ RR w K fa H ι ρ σ ∧ m ρ S = some (a, S') ∧ endOf a = some o ∧
  ∀ H' ι', Ext ι H ι' H' → RS w K fa H' ι' S' → Q o H'
theorem po_non : PO X none (rPO X.w X.K fa fun _ => .ret .non) := by
  refine ⟨fun pins s σ H Q I ⟨ι, ρ, S, a, o, S', rs, rr, hm, ho, q⟩ => ?_⟩
  have e : some (W.non, S) = some (a, S') := hm
  cases e
  cases ho
  exact po_none.run pins s σ H Q I (q H ι (Ext.refl _ _) rs)
theorem po_ev {e : Expr} {m : Rho → M W} (h : PE X e (rV X.w X.K fa m)) : PO X (some e) (rPO X.w X.K fa m) := by
  refine ⟨fun pins s σ H Q I ⟨ι, ρ, S, a, o, S', rs, rr, hm, ho, q⟩ => ?_⟩
  rw [evalPart_some]
  refine thn (h.run pins s σ H (fun v H1 => ∃ ι1, Ext ι H ι1 H1 ∧ RS X.w X.K fa H1 ι1 S' ∧ RV X.w X.K fa H1 ι1 a v) I ⟨ι, ρ, S, a, S', rs, rr, hm, fun v H1 ι1 x1 rs1 rv1 => ⟨ι1, x1, rs1, rv1⟩⟩) fun u s1 ⟨v, H1, I1, r1, ι1, x1, rs1, rv1⟩ => ?_
  cases a with
  | non =>
    cases ho
    rw [rv_non] at rv1; subst rv1
    cases r1
    exact ⟨none, H1, I1, .none, q H1 ι1 x1 rs1⟩
  | int i =>
    cases ho
    rw [rv_int] at rv1; subst rv1
    obtain ⟨t, rfl⟩ := r1
    exact ⟨some i, H1, I1, .int i t, q H1 ι1 x1 rs1⟩
  | _ => cases ho
theorem ev_slc {e : Expr} {lo hi : Option Expr} {p2 pos : Pos} {ma ml mh : Rho → M W} (ha : PE X e (rV X.w X.K fa ma)) (hl : PO X lo (rPO X.w X.K fa ml)) (hh : PO X hi (rPO X.w X.K fa mh)) :
    PE X (.Subscript e (.Slice lo hi none p2) pos) (rV X.w X.K fa fun ρ => do let x ← ma ρ; let l ← ml ρ; let h ← mh ρ; wSlc x l h) :=
  PEimp (pe_slice (i_slc (fa := fa)) ha hl hh) fun σ H Q ⟨ι, ρ, S, b, S', rs, rr, hm, q⟩ => by
    obtain ⟨x, S1, h1, hm1⟩ := bindM hm
    obtain ⟨l, S2, h2, hm2⟩ := bindM hm1
    obtain ⟨h, S3, h3, hm3⟩ := bindM hm2
    have hs : ∃ lo, endOf l = some lo := by
      unfold wSlc at hm3
      split at hm3
      · rename_i e1 e2; exact ⟨_, e1⟩
      · cases hm3
    have ht : ∃ hi, endOf h = some hi := by
      unfold wSlc at hm3
      split at hm3
      · rename_i e1 e2; exact ⟨_, e2⟩
      · cases hm3
    obtain ⟨lo, el⟩ := hs
    obtain ⟨hi, eh⟩ := ht
    exact ⟨ι, ρ, S, x, S1, rs, rr, h1, fun v H1 ι1 x1 rs1 rv1 => ⟨ι1, ρ, S1, l, lo, S2, rs1, rr.mono x1, h2, el, fun H2 ι2 x2 rs2 => ⟨ι2, ρ, S2, h, hi, S3, rs2, (rr.mono x1).mono x2, h3, eh, fun H3 ι3 x3 rs3 =>
      ⟨ι3, S3, x, l, h, b, S', rs3, (rv1.mono x2).mono x3, el, eh, hm3, q.mono ((x1.trans x2).trans x3)⟩⟩⟩⟩
theorem ev_rev {e : Expr} {k : Nat} {p1 p2 p3 pos : Pos} {ma : Rho → M W} (ha : PE X e (rV X.w X.K fa ma)) : PE X (.Subscript e (.Slice none none (some (.UnaryOp .USub (.Constant (.int 1) k p1) p2)) p3) pos) (rV X.w X.K fa fun ρ => do let x ← ma ρ; wRev x) :=
  PEimp (pe_revL ha) fun σ H Q ⟨ι, ρ, S, b, S', rs, rr, hm, q⟩ => by
    obtain ⟨x, S1, h1, hm1⟩ := bindM hm
    refine ⟨ι, ρ, S, x, S1, rs, rr, h1, fun v H1 ι1 x1 rs1 rv1 => ?_⟩
    unfold wRev at hm1
    split at hm1
    · rename_i xs hx
      have e : some (W.ref S1.length, S1 ++ [Ob.lst xs.reverse]) = some (b, S') := hm1
      cases e
      obtain ⟨p, vs, e, hq, r⟩ := listOf_rv rs1 hx rv1
      exact ⟨p, vs, e, hq, fun p' hp => (q.mono x1).push_lst rs1 r.reverse hp⟩
    · cases hm1

/-! ### o[i] = v -/
theorem ents_put {w : World} {k : W} {kv uv : V} {hash : Int} {key v : Value} (hh : hash = k.nkey.hash w) (rk : RelV kv key) (rv : RelV uv v) : ∀ {ks : List W} {kvs uvs : List V} {es : List DictEntry} , Ents w ks kvs uvs es →
    (∀ i, i < es.length → Ents w ks kvs (uvs.set i uv) (es.modify i fun e => { e with val := v })) ∧ Ents w (ks ++ [k]) (kvs ++ [kv]) (uvs ++ [uv]) (es ++ [⟨hash, key, v⟩])
  | _, _, _, _, .nil => ⟨fun i h => absurd h (Nat.not_lt_zero _), .cons hh rk rv .nil⟩
  | _, _, _, _, .cons a b c t => by
    obtain ⟨h1, h2⟩ := ents_put hh rk rv t
    refine ⟨fun i h => ?_, .cons a b c h2⟩
    cases i with
    | zero => exact .cons a b rv t
    | succ i => exact .cons a b c (h1 i (by simpa using h))
def rSetW (w : World) (K : PySem.W.Frag) (fa : Nat → Option Addr) : TSet := fun o i v H Q => ∃ ι S ow iw vw S', RS w K fa H ι S ∧ RV w K fa H ι ow o ∧ RV w K fa H ι iw i ∧ RV w K fa H ι vw v ∧ wSet ow iw vw S = some ((), S') ∧
  ∀ H' ι', Ext ι H ι' H' → RS w K fa H' ι' S' → Q H'
theorem s_set (hu : X.A.units + 65 < cLine) : PSet X (rSetW X.w X.K fa) := by
  rintro pins s σ H o i v ov iv u Q I ro ri rv ⟨ι, S, ow, iw, vw, S', rs, rvo, rvi, rvv, hs, q⟩
  unfold wSet at hs
  split at hs
  · rename_i n
    obtain ⟨p, hp, rfl⟩ := rv_ref.mp rvo
    split at hs
    · rename_i xs hn
      split at hs
      · rename_i k
        split at hs
        · rename_i j hj
          cases hs
          obtain ⟨vs, h1, h2⟩ := rs.ob n _ p hn hp
          rw [rv_int] at rvi
          refine set_list pins s σ H _ _ _ ov iv u Q I ro ri rv ⟨p, vs, k, j, rfl, rvi, h1, by rw [← h2.length]; exact hj, ?_⟩
          obtain ⟨x1, rs1⟩ := rs.put (ob := .lst (xs.set j vw)) (o := .lst (vs.set j v)) hp (lst_no h1) fun H' ι' y e => ⟨_, e, (h2.mono y).set (rvv.mono y) j⟩
          exact q _ _ x1 rs1
        · cases hs
      · cases hs
    · rename_i ks us hn
      split at hs
      · rename_i hk
        cases hs
        obtain ⟨es, ep, kvs, uvs, h1, en, nd, r1, r2⟩ := rs.ob n _ p hn hp
        obtain ⟨g1, g2, ob, ho, hc, hd⟩ := dob_at I h1
        obtain rfl : ov = Value.ref p := ro
        obtain ⟨c, ka⟩ := key_at (A := X.A.in1) (us := us) (by show X.A.units + 1 + 8 < cLine; omega) I ho hd en nd r1 hk.1 rvi ri
        obtain ⟨l1, l2, l3⟩ := ents_len en
        refine d_setItem ka ho hc hd g2 fun h' o' g h2 h3 h4 => ?_
        have hle : (putE es (kIdx ks iw) (iw.nkey.hash X.w) iv u).length ≤ sizeLine := by
          unfold putE
          cases kIdx ks iw with
          | some i => simpa using g2
          | none =>
            have := hk.2
            rw [← lineN_eq]; simp; omega
        refine ⟨upd H p (dOb p (putE es (kIdx ks iw) (iw.nkey.hash X.w) iv u) (putN ep (kIdx ks iw))), ?_, ?_⟩
        · exact I.write (x := p) (e := p) (by rw [h1]; exact trivial) (.inl rfl) (fun b z hb hz => (h4.2 b hb).trans hz) ⟨_, g⟩ (dob_ok g1 hle g h2 h3)
        · have hput : ∀ H' ι', Ext ι H ι' H' → H' p = some (dOb p (putE es (kIdx ks iw) (iw.nkey.hash X.w) iv u) (putN ep (kIdx ks iw))) → RO X.w X.K fa H' ι' p (.dct (dPut ks us iw vw).1 (dPut ks us iw vw).2) := by
            intro H' ι' y e
            unfold dPut
            unfold putE putN at e
            cases hix : kIdx ks iw with
            | some j =>
              rw [hix] at e
              have hj : j < es.length := by
                unfold kIdx at hix
                have := (List.findIdx?_eq_some_iff_getElem.mp hix).1
                omega
              exact ⟨_, _, kvs, uvs.set j v, e, (ents_put (k := iw) rfl ri rv en).1 j hj, nd, r1.mono y, (r2.mono y).set (rvv.mono y) j⟩
            | none =>
              rw [hix] at e
              refine ⟨_, _, kvs ++ [i], uvs ++ [v], e, (ents_put rfl ri rv en).2, ?_, (r1.mono y).append (.cons (rvi.mono y) .nil), (r2.mono y).append (.cons (rvv.mono y) .nil)⟩
              rw [List.map_append]
              refine List.nodup_append.mpr ⟨nd, by simp, fun a ha b hb => ?_⟩
              have hb : b = iw.nkey := by simpa using hb
              subst hb
              obtain ⟨k', hk', rfl⟩ := List.mem_map.mp ha
              intro eq
              unfold kIdx at hix
              have := List.findIdx?_eq_none_iff.mp hix k' hk'
              obtain ⟨q1, q2⟩ := keyFor_hk hk.1
              rw [eqv_dec (q2 k' hk') q1, decide_eq_true eq] at this
              cases this
          have hgrow : ∀ es0 ep0, H p = some (dOb p es0 ep0) → ∃ es' ep', dOb p (putE es (kIdx ks iw) (iw.nkey.hash X.w) iv u) (putN ep (kIdx ks iw)) = dOb p es' ep' ∧ es0.length ≤ es'.length ∧ (es'.length = es0.length → ep' = ep0) := by
            intro es0 ep0 h0
            obtain ⟨_, _, ob0, ho0, _, hd0⟩ := dob_at I h0
            rw [ho] at ho0; cases ho0
            rw [hd] at hd0
            injection hd0 with d1 d2
            have d1 : es = es0 := by simpa using congrArg Array.toList d1
            subst d1 d2
            refine ⟨_, _, rfl, ?_⟩
            unfold putE putN
            cases kIdx ks iw with
            | some j => exact ⟨by simp, fun _ => rfl⟩
            | none => exact ⟨by simp, fun h => by simp at h⟩
          obtain ⟨x1, rs1⟩ := rs.put hp hgrow hput
          exact q _ _ x1 rs1
      · cases hs
    · cases hs
  · cases hs

/-! ### methods -/
def isDctV (x : V) (H : Hp) : Prop := ∃ p es ep, x = .ref p ∧ H p = some (dOb p es ep)
section
variable {o e : Expr} {es : List Expr} {to : TE} {t : TA} {name : Str} {apos cpos : Pos} {T id : String} {r : V → List V → Hp → VK → Prop} {isT : V → Hp → Prop}
theorem bmW (pa : PlainAttrs T) (slot : Slot T name id) (hty : typeOf (.builtin id) = pure (.type "method_descriptor")) (hm : MtR X id r) (ho : PE X o to) (ha : PA X (e :: es) t)
    (hi : ∀ (pins : List (Addr × Obj)) (s : Shared) (σ : L2.St) (H : Hp) (x : V) (v : Value), Inv X pins σ H s → RelV x v → isT x H → s.TypeIs v T ∧ ∀ a, v = .ref a → ∃ ob, s.heap.get? a = some ob ∧ ob.dict = none)
    (hbase : attributeBase o name X.env (eval o X.env) = eval o X.env)
    (hfew : (e :: es).length < 29)
    (hline : (apos.endLine == cpos.line) = true) (hs : isStar e = false) (hst : es.any isStar = false) :
    PE X (.Call (.Attribute o name apos) (e :: es) [] cpos) (fun σ H Q => to σ H fun x H1 => isT x H1 ∧ t σ H1 fun xs H2 => r x xs H2 Q) := by
  have hplain : (backTo cpos (starEach es X.env)).any (·.1) = false := by rw [back_any]; exact hst
  have hs' := star_no (es := es) (env := X.env) hs
  have hf : ((backTo cpos (starEach (e :: es) X.env)).all (fun x => !x.1) && (backToKw cpos (keywordEach [] X.env)).all (fun x => x.1.isSome)
      && decide ((e :: es).length + ([] : List Keyword).length + (if ([] : List Keyword).isEmpty then 0 else 1) < 30)) = true := by
    have e1 : (backTo cpos (starEach (e :: es) X.env)).all (fun x => !x.1) = true := by
      have := back_any (pos := cpos) (env := X.env) (e :: es)
      rw [List.any_cons, hs, hst] at this
      rw [List.all_eq_not_any_not]
      simp only [Bool.not_not]
      rw [this]; rfl
    rw [e1, Bool.true_and, Bool.and_eq_true]
    refine ⟨rfl, decide_eq_true ?_⟩
    show (e :: es).length + 0 + 0 < 30
    omega
  refine ⟨fun pins s σ H Q I h => ?_⟩
  refine wpAny_Call_method_late hbase hf hline rfl (thn (ho.run pins s σ H _ I h) fun v s1 ⟨x, H1, I1, r1, ty, q1⟩ => ?_)
  obtain ⟨h1, h2⟩ := hi pins s1 σ H1 x v I1 r1 ty
  refine ⟨T, id, pa, slot, hty, h1, h2, ?_⟩
  have hA := ha.run cpos pins s1 σ H1 _ I1 q1
  rw [hs'] at hA ⊢
  refine Calls.callWith_builtin (by show (false || (backTo cpos (starEach es X.env)).any (·.1)) = false; rw [hplain] <;> rfl) (Calls.evalArgs_plain ?_)
  exact thn hA fun us s2 ⟨vs, H2, I2, r2, q2⟩ => hm pins s2 σ H2 x vs v us Q I2 r1 r2 q2
end
theorem isDct_is {pins : List (Addr × Obj)} {s : Shared} {σ : L2.St} {H : Hp} {x : V} {v : Value} (I : Inv X pins σ H s) (r : RelV x v) (h : isDctV x H) : s.TypeIs v "dict" ∧ ∀ a, v = .ref a → ∃ ob, s.heap.get? a = some ob ∧ ob.dict = none := by
  obtain ⟨p, es, ep, rfl, hp⟩ := h
  obtain rfl : v = Value.ref p := r
  obtain ⟨g1, g2, ob, ho, hc, hd⟩ := dob_at I hp
  exact ⟨d_isDict ho hc, fun a e => by cases e; exact ⟨ob, ho, hc.2.1⟩⟩
theorem m_append : MtR X "list.append" (rMt X.w X.K fa mAppend) := by
  rintro pins s σ H x xs v us Q I rx rxs ⟨ι, S, a, as, c, S', rs, ra, ras, hg, q⟩
  unfold mAppend at hg
  split at hg <;> first | contradiction | skip
  rename_i n w
  split at hg
  · rename_i ws hn
    split at hg
    · rename_i hz
      cases hg
      obtain ⟨p, hp, rfl⟩ := rv_ref.mp ra
      obtain ⟨vs, h1, h2⟩ := rs.ob n _ p hn hp
      obtain ⟨v1, vs1, rfl, r1, r2⟩ := ras.cons_inv
      obtain rfl := r2.nil_inv
      refine mt_append pins s σ H _ _ v us Q I rx rxs ⟨p, vs, v1, rfl, rfl, h1, by rw [← h2.length, ← lineN_eq]; exact hz, ?_⟩
      obtain ⟨x1, rs1⟩ := rs.put (ob := .lst (ws ++ [w])) (o := .lst (vs ++ [v1])) hp (lst_no h1) fun H' ι' y e => ⟨_, e, (h2.mono y).append (.cons (r1.mono y) .nil)⟩
      exact q _ _ _ x1 rs1 (rv_non.mpr rfl)
    · cases hg
  · cases hg
theorem m_pop0 : MtR X "list.pop" (rMt X.w X.K fa mPop0) := by
  rintro pins s σ H x xs v us Q I rx rxs ⟨ι, S, a, as, c, S', rs, ra, ras, hg, q⟩
  unfold mPop0 at hg
  split at hg <;> first | contradiction | skip
  rename_i n
  split at hg
  · rename_i ws hn
    split at hg
    · rename_i w hw
      cases hg
      obtain ⟨p, hp, rfl⟩ := rv_ref.mp ra
      obtain ⟨vs, h1, h2⟩ := rs.ob n _ p hn hp
      obtain rfl := ras.nil_inv
      obtain ⟨v1, e1, r1⟩ := h2.get hw
      rw [h2.length] at e1
      refine mt_pop pins s σ H _ _ v us Q I rx rxs ⟨p, vs, v1, rfl, rfl, h1, e1, ?_⟩
      obtain ⟨x1, rs1⟩ := rs.put (ob := .lst ws.dropLast) (o := .lst vs.dropLast) hp (lst_no h1) fun H' ι' y e => ⟨_, e, (h2.mono y).dropLast⟩
      exact q _ _ _ x1 rs1 (r1.mono x1)
    · cases hg
  · cases hg
theorem m_pop1 : MtR X "list.pop" (rMt X.w X.K fa mPop1) := by
  rintro pins s σ H x xs v us Q I rx rxs ⟨ι, S, a, as, c, S', rs, ra, ras, hg, q⟩
  unfold mPop1 at hg
  split at hg <;> first | contradiction | skip
  rename_i n i
  split at hg
  · rename_i ws hn
    split at hg
    · rename_i k hk
      split at hg
      · rename_i w hw
        cases hg
        obtain ⟨p, hp, rfl⟩ := rv_ref.mp ra
        obtain ⟨vs, h1, h2⟩ := rs.ob n _ p hn hp
        obtain ⟨v0, vs0, rfl, r0, r00⟩ := ras.cons_inv
        obtain rfl := r00.nil_inv
        rw [rv_int] at r0
        subst r0
        obtain ⟨v1, e1, r1⟩ := h2.get hw
        rw [h2.length] at hk
        obtain ⟨k1, k2, k3, k4⟩ := ixN_seq hk
        obtain ⟨z1, _⟩ := I.lstM h1
        have hl := line63
        refine mt_popAt pins s σ H _ _ v us Q I rx rxs ⟨p, vs, i, k, v1, rfl, rfl, h1, by omega, by omega, k1, e1, ?_⟩
        obtain ⟨x1, rs1⟩ := rs.put (ob := .lst (ws.eraseIdx k)) (o := .lst (vs.eraseIdx k)) hp (lst_no h1) fun H' ι' y e => ⟨_, e, (h2.mono y).eraseIdx k⟩
        exact q _ _ _ x1 rs1 (r1.mono x1)
      · cases hg
    · cases hg
  · cases hg
theorem m_insert : MtR X "list.insert" (rMt X.w X.K fa mInsert) := by
  rintro pins s σ H x xs v us Q I rx rxs ⟨ι, S, a, as, c, S', rs, ra, ras, hg, q⟩
  unfold mInsert at hg
  split at hg <;> first | contradiction | skip
  rename_i n i w
  split at hg
  · rename_i ws hn
    split at hg
    · rename_i hz
      cases hg
      obtain ⟨p, hp, rfl⟩ := rv_ref.mp ra
      obtain ⟨vs, h1, h2⟩ := rs.ob n _ p hn hp
      obtain ⟨v0, vs0, rfl, r0, r00⟩ := ras.cons_inv
      obtain ⟨v1, vs1, rfl, r1, r11⟩ := r00.cons_inv
      obtain rfl := r11.nil_inv
      rw [rv_int] at r0
      subst r0
      obtain ⟨z1, _⟩ := I.lstM h1
      have hl := line63
      have hll := h2.length
      have hz3 := hz.2.2
      rw [lineN_eq] at hz3
      refine mt_insert pins s σ H _ _ v us Q I rx rxs ⟨p, vs, i, v1, rfl, rfl, h1, by omega, hz.1, by omega, ?_⟩
      obtain ⟨x1, rs1⟩ := rs.put (ob := .lst (ws.take i.toNat ++ w :: ws.drop i.toNat)) (o := .lst (vs.take i.toNat ++ [v1] ++ vs.drop i.toNat)) hp (lst_no h1) fun H' ι' y e => ⟨_, e, by
        have := (((h2.mono y).take i.toNat).append (.cons (r1.mono y) .nil)).append ((h2.mono y).drop i.toNat)
        simpa using this⟩
      exact q _ _ _ x1 rs1 (rv_non.mpr rfl)
    · cases hg
  · cases hg
theorem get_ok {d : Addr} {key : Value} {dflt : Value} {E : Value → Shared → Prop} {Q : Value → Shared → Prop} {s : Shared} {o : Obj} {es : List DictEntry} {ep c : Nat} {hash : Int} {ix : Option Nat} {args : List Value} (ha : args = [] ∧ dflt = .none ∨ args = [dflt]) (ka : KA X.prog X.w X.A.in1 s d hash key ix c) (hs : (d == sysModules) = false) (ho : s.heap.get? d = some o) (hc : o.ExactDict) (hd : o.data = .dict es.toArray ep)
    (h : Q ((valAt es ix).getD dflt) { s with toks := s.toks + c }) : wpAny (model X.prog X.w) X.A (call (.builtin "dict.get") (.ref d :: key :: args)) Q E s := by
  have ty := d_isDict ho hc
  rcases ha with ⟨rfl, rfl⟩ | rfl
  · refine wpAny_call_entry PySem.F.slot_dict_get ty PySem.F.entry_dict_get ?_ (PySem.F.args_dict_get_2 _ _)
    show wpAny _ _ (dictGet d key >>= _) _ _ s
    refine wpAny_bind (d_get ka ho hd ?_)
    cases e : valAt es ix with
    | some v => rw [e] at h; exact wpAny_pure ⟨v, rfl, h⟩
    | none =>
      rw [e] at h
      show wpAny _ _ (Builtin.Dict.missed d key >>= _) _ _ _
      exact wpAny_bind (wpAny_missed_other hs (wpAny_pure ⟨.none, rfl, h⟩))
  · refine wpAny_call_entry PySem.F.slot_dict_get ty PySem.F.entry_dict_get ?_ (PySem.F.args_dict_get_3 _ _ _)
    show wpAny _ _ (dictGet d key >>= _) _ _ s
    refine wpAny_bind (d_get ka ho hd ?_)
    cases e : valAt es ix with
    | some v => rw [e] at h; exact wpAny_pure ⟨v, rfl, h⟩
    | none =>
      rw [e] at h
      show wpAny _ _ (Builtin.Dict.missed d key >>= _) _ _ _
      exact wpAny_bind (wpAny_missed_other hs (wpAny_pure ⟨dflt, rfl, h⟩))
theorem m_get1 (hu : X.A.units + 65 < cLine) : MtR X "dict.get" (rMt X.w X.K fa mGet1) := by
  rintro pins s σ H x xs v us Q I rx rxs ⟨ι, S, a, as, c, S', rs, ra, ras, hg, q⟩
  unfold mGet1 at hg
  split at hg <;> first | contradiction | skip
  rename_i k
  split at hg
  · rename_i ks uws hd
    split at hg
    · rename_i hk
      cases hg
      obtain ⟨p, es, ep, kvs, uvs, rfl, hp, en, nd, r1, r2⟩ := dictOf_rv rs hd ra
      obtain ⟨g1, g2, ob, ho, hc, hdata⟩ := dob_at I hp
      obtain rfl : v = Value.ref p := rx
      obtain ⟨v0, vs0, rfl, r0, r00⟩ := ras.cons_inv
      obtain rfl := r00.nil_inv
      obtain ⟨u0, rfl, ru0⟩ := vals1 rxs
      obtain ⟨cc, ka⟩ := key_at (A := X.A.in1) (us := uws) (by show X.A.units + 1 + 8 < cLine; omega) I ho hdata en nd r1 hk r0 ru0
      refine get_ok (.inl ⟨rfl, rfl⟩) ka g1 ho hc hdata ?_
      obtain ⟨_, g3, g4⟩ := valAt_get (k := k) en r2
      cases e : dAt ks uws k with
      | some u =>
        rw [e] at q
        obtain ⟨w1, uv, e1, e2, e3⟩ := g3 u e
        rw [e1]
        exact ⟨uv, H, I.tok _, e2, q.here rs e3⟩
      | none =>
        rw [e] at q
        rw [g4 e]
        exact ⟨.non, H, I.tok _, rfl, q.here rs (rv_non.mpr rfl)⟩
    · cases hg
  · cases hg
theorem m_get2 (hu : X.A.units + 65 < cLine) : MtR X "dict.get" (rMt X.w X.K fa mGet2) := by
  rintro pins s σ H x xs v us Q I rx rxs ⟨ι, S, a, as, c, S', rs, ra, ras, hg, q⟩
  unfold mGet2 at hg
  split at hg <;> first | contradiction | skip
  rename_i k d
  split at hg
  · rename_i ks uws hd
    split at hg
    · rename_i hk
      cases hg
      obtain ⟨p, es, ep, kvs, uvs, rfl, hp, en, nd, r1, r2⟩ := dictOf_rv rs hd ra
      obtain ⟨g1, g2, ob, ho, hc, hdata⟩ := dob_at I hp
      obtain rfl : v = Value.ref p := rx
      obtain ⟨v0, vs0, rfl, r0, r00⟩ := ras.cons_inv
      obtain ⟨v1, vs1, rfl, rd, r11⟩ := r00.cons_inv
      obtain rfl := r11.nil_inv
      obtain ⟨u0, u1, rfl, ru0, ru1⟩ := vals2 rxs
      obtain ⟨cc, ka⟩ := key_at (A := X.A.in1) (us := uws) (by show X.A.units + 1 + 8 < cLine; omega) I ho hdata en nd r1 hk r0 ru0
      refine get_ok (dflt := u1) (.inr rfl) ka g1 ho hc hdata ?_
      obtain ⟨_, g3, g4⟩ := valAt_get (k := k) en r2
      cases e : dAt ks uws k with
      | some u =>
        rw [e] at q
        obtain ⟨w1, uv, e1, e2, e3⟩ := g3 u e
        rw [e1]
        exact ⟨uv, H, I.tok _, e2, q.here rs e3⟩
      | none =>
        rw [e] at q
        rw [g4 e]
        exact ⟨v1, H, I.tok _, ru1, q.here rs rd⟩
    · cases hg
  · cases hg
end
end TZ

set_option Elab.async false
set_option linter.all false
set_option maxRecDepth 100000
/-! A10: targets, iteration. -/
namespace TZ
open PySem L2 StX PyProof.Rows

/-! ### slots -/
section
variable {w : World} {K : PySem.W.Frag} {fa : Nat → Option Addr} {H : Hp} {ι : Pls}
theorem RR.set {ρ : Rho} {σ : L2.St} {a : W} {v : V} (r : RR w K fa H ι ρ σ) (rv : RV w K fa H ι a v) (i : Nat) : RR w K fa H ι (ρ.set i (some a)) (σ.set i (some v)) := by
  refine ⟨by simp [r.len], fun j x h => ?_⟩
  by_cases e : i = j
  · subst e
    have hi : i < ρ.length := by
      have := (List.getElem?_eq_some_iff.mp h).1
      simpa using this
    rw [List.getElem?_set_self hi] at h
    cases h
    exact ⟨v, by rw [List.getElem?_set_self (by rw [← r.len]; exact hi)], rv⟩
  · rw [List.getElem?_set_ne e] at h
    obtain ⟨u, h1, h2⟩ := r.at_ j x h
    exact ⟨u, by rw [List.getElem?_set_ne e]; exact h1, h2⟩
theorem RR.setN {ρ : Rho} {σ : L2.St} (r : RR w K fa H ι ρ σ) (i : Nat) : RR w K fa H ι (ρ.set i none) (σ.set i none) := by
  refine ⟨by simp [r.len], fun j x h => ?_⟩
  by_cases e : i = j
  · subst e
    have hi : i < ρ.length := by
      have := (List.getElem?_eq_some_iff.mp h).1
      simpa using this
    rw [List.getElem?_set_self hi] at h
    cases h
  · rw [List.getElem?_set_ne e] at h
    obtain ⟨u, h1, h2⟩ := r.at_ j x h
    exact ⟨u, by rw [List.getElem?_set_ne e]; exact h1, h2⟩
theorem RR.wipe {ρ : Rho} {σ : L2.St} (r : RR w K fa H ι ρ σ) : ∀ vs : List Nat, RR w K fa H ι (wipeR ρ vs) (L2.wipe σ vs)
  | [] => r
  | v :: vs => (r.wipe vs).setN v
end
/-- only these slots differ -/
def Sw (vs : List Nat) (σ σ' : L2.St) : Prop := σ'.length = σ.length ∧ ∀ i, i ∉ vs → σ'[i]? = σ[i]?
theorem Sw.refl (vs : List Nat) (σ : L2.St) : Sw vs σ σ := ⟨rfl, fun _ _ => rfl⟩
theorem Sw.trans {us vs : List Nat} {σ σ1 σ2 : L2.St} (h : Sw us σ σ1) (h' : Sw vs σ1 σ2) : Sw (us ++ vs) σ σ2 :=
  ⟨h'.1.trans h.1, fun i hi => by rw [List.mem_append, not_or] at hi; rw [h'.2 i hi.2, h.2 i hi.1]⟩
theorem Sw.set (i : Nat) (σ : L2.St) (v : Option V) : Sw [i] σ (σ.set i v) := ⟨by simp, fun j hj => by
  have : i ≠ j := fun e => hj (by simp [e])
  rw [List.getElem?_set_ne this]⟩
theorem wipe_at {σ : L2.St} {i : Nat} {vs : List Nat} (h : i ∈ vs) (hi : i < σ.length) : (L2.wipe σ vs)[i]? = some none := by
  induction vs with
  | nil => cases h
  | cons v vs ih =>
    unfold L2.wipe
    by_cases e : v = i
    · subst e
      rw [List.getElem?_set_self (by rw [wipe_length]; exact hi)]
    · rw [List.getElem?_set_ne e]
      rcases List.mem_cons.mp h with h | h
      · exact absurd h.symm e
      · exact ih h
theorem Sw.wipe {us vs : List Nat} {σ σ' : L2.St} (h : Sw us σ σ') (s : ∀ i ∈ us, i ∈ vs) : L2.wipe σ' vs = L2.wipe σ vs := by
  apply List.ext_getElem?
  intro i
  by_cases hi : i ∈ vs
  · by_cases hl : i < σ.length
    · rw [wipe_at hi hl, wipe_at hi (by rw [h.1]; exact hl)]
    · rw [List.getElem?_eq_none (by rw [wipe_length]; have := h.1; omega), List.getElem?_eq_none (by rw [wipe_length]; omega)]
  · rw [wipe_out hi, wipe_out hi]
    exact h.2 i fun m => hi (s i m)

/-! ### targets of loops -/
section
variable (w : World) (K : PySem.W.Frag) (fa : Nat → Option Addr)
def rP (p : P) : TG := fun v σ H Q => ∃ ι ρ S a ρ', RS w K fa H ι S ∧ RR w K fa H ι ρ σ ∧ RV w K fa H ι a v ∧ P.put p a ρ = some ρ' ∧ ∀ σ', RR w K fa H ι ρ' σ' → Sw p.slots σ σ' → Q σ' H
def rPs (p : P) : TGs := fun vs σ H Q => ∃ ι ρ S as ρ', RS w K fa H ι S ∧ RR w K fa H ι ρ σ ∧ RVs w K fa H ι as vs ∧ P.puts p as ρ = some ρ' ∧ ∀ σ', RR w K fa H ι ρ' σ' → Sw p.slots σ σ' → Q σ' H
/-- a walk by values: xs, while what it walks stands -/
def Wk (J : It) (xs : List W) (src : List (Nat × Ob)) (H : Hp) (ι : Pls) : Prop :=
  ∀ H' ι' S, Exh ι H ι' H' → RS w K fa H' ι' S → stands S src = true → ∀ i : Nat,
    (i = xs.length → J.stop i H') ∧ ∀ a, xs[i]? = some a → J.go i H' ∧ ∀ x H'', J.yld i H' x H'' → ∃ ι'', Ext ι' H' ι'' H'' ∧ RS w K fa H'' ι'' S ∧ RV w K fa H'' ι'' a x
def rI (m : Rho → M (List W × List (Nat × Ob))) : TI := fun σ H R => ∃ ι ρ S xs src S', RS w K fa H ι S ∧ RR w K fa H ι ρ σ ∧ m ρ S = some ((xs, src), S') ∧
  ∀ J H' ι', Ext ι H ι' H' → RS w K fa H' ι' S' → xs.length ≤ sizeLine → Wk w K fa J xs src H' ι' → R J H'
end
section
variable {X : Cx} {fa : Nat → Option Addr}
theorem PGimp {e : Expr} {t t' : TG} (h : PG X e t) (i : ∀ v σ H Q, t' v σ H Q → t v σ H Q) : PG X e t' := ⟨fun pins s σ H v u Q I r q => h.run pins s σ H v u Q I r (i v σ H Q q)⟩
theorem PGsimp {e : List Expr} {t t' : TGs} (h : PGs X e t) (i : ∀ v σ H Q, t' v σ H Q → t v σ H Q) : PGs X e t' := ⟨fun pins s σ H v u Q I r q => h.run pins s σ H v u Q I r (i v σ H Q q)⟩
theorem PIimp {tg e : Expr} {t t' : TI} (h : PI X tg e t) (i : ∀ σ H R, t' σ H R → t σ H R) : PI X tg e t' := ⟨fun pins s σ H Q I q => h.run pins s σ H Q I (i σ H Q q)⟩
theorem p_nm {i : Nat} {x : Str} {pos : Pos} (hN : X.N.Nodup) (hi : X.N[i]? = some x) (hx : Loc X.env.scope x) (hf : X.fn x = true ∨ X.env.scope.names.lookup x = some .local) : PG X (.Name x pos) (rP X.w X.K fa (.nm i)) :=
  PGimp (pg_name hN hi hx hf) fun v σ H Q ⟨ι, ρ, S, a, ρ', rs, rr, rv, hp, q⟩ => by
    have e : some (ρ.set i (some a)) = some ρ' := by simpa only [P.put] using hp
    cases e
    exact q _ (rr.set rv i) (Sw.set i σ _)
theorem ps_nil : PGs X [] (rPs X.w X.K fa .nil) := PGsimp pgs_nil fun vs σ H Q ⟨ι, ρ, S, as, ρ', rs, rr, rv, hp, q⟩ => by
  cases as with
  | nil =>
    have e : some ρ = some ρ' := by simpa only [P.puts] using hp
    cases e
    exact ⟨rv.nil_inv, q σ rr (Sw.refl _ _)⟩
  | cons a as => simp [P.puts] at hp
theorem each_cons {e : Expr} {es : List Expr} {env : Env} (h : isStar e = false) : assignEach (e :: es) env = (false, assign e env) :: assignEach es env := by cases e <;> first | rfl | cases h
theorem ps_cons {e : Expr} {es : List Expr} {p ps : P} (hs : isStar e = false) (h1 : PG X e (rP X.w X.K fa p)) (h2 : PGs X es (rPs X.w X.K fa ps)) : PGs X (e :: es) (rPs X.w X.K fa (.cons p ps)) :=
  PGsimp (pgs_cons h1 h2 (by rw [each_cons hs]; rfl)) fun vs σ H Q ⟨ι, ρ, S, as, ρ', rs, rr, rv, hp, q⟩ => by
    cases as with
    | nil => simp [P.puts] at hp
    | cons a as =>
      obtain ⟨v, vs', rfl, r1, r2⟩ := rv.cons_inv
      simp only [P.puts] at hp
      split at hp
      · rename_i ρ1 h1
        exact ⟨v, vs', rfl, ι, ρ, S, a, ρ1, rs, rr, r1, h1, fun σ' rr' sw => ⟨ι, ρ1, S, as, ρ', rs, rr', r2, hp, fun σ2 rr2 sw2 => q σ2 rr2 (sw.trans sw2)⟩⟩
      · cases hp
theorem each_len (env : Env) : ∀ es : List Expr, (assignEach es env).length = es.length
  | [] => rfl
  | e :: es => by
    cases hs : isStar e with
    | false => rw [each_cons hs, List.length_cons, List.length_cons, each_len env es]
    | true =>
      cases e with
      | Starred v p => show ((true, assign v env) :: assignEach es env).length = _; rw [List.length_cons, List.length_cons, each_len env es]
      | _ => cases hs
theorem each_no (env : Env) : ∀ es : List Expr, es.any isStar = false → (assignEach es env).findIdx? (·.1) = none
  | [], _ => rfl
  | e :: es, h => by
    rw [List.any_cons, Bool.or_eq_false_iff] at h
    rw [each_cons h.1, List.findIdx?_cons, each_no env es h.2]
    rfl
theorem puts_len : ∀ (p : P) (as : List W) (ρ ρ' : Rho), P.puts p as ρ = some ρ' → ∃ n, as.length = n ∧ ∀ (bs : List W) (ρ1 ρ2 : Rho), P.puts p bs ρ1 = some ρ2 → bs.length = n
  | .nil, as, ρ, ρ', h => by
    cases as with
    | nil => exact ⟨0, rfl, fun bs ρ1 ρ2 h' => by cases bs with | nil => rfl | cons b bs => simp [P.puts] at h'⟩
    | cons a as => simp [P.puts] at h
  | .cons p ps, as, ρ, ρ', h => by
    cases as with
    | nil => simp [P.puts] at h
    | cons a as =>
      simp only [P.puts] at h
      split at h
      · obtain ⟨n, h1, h2⟩ := puts_len ps as _ _ h
        refine ⟨n + 1, by simp [h1], fun bs ρ1 ρ2 h' => ?_⟩
        cases bs with
        | nil => simp [P.puts] at h'
        | cons b bs =>
          simp only [P.puts] at h'
          split at h'
          · simp [h2 bs _ _ h']
          · cases h'
      · cases h
  | .nm i, as, ρ, ρ', h => by cases as <;> simp [P.puts] at h
  | .tp p, as, ρ, ρ', h => by cases as <;> simp [P.puts] at h
def P.size : P → Nat
  | .cons _ ps => ps.size + 1
  | _ => 0
theorem puts_size : ∀ (p : P) (as : List W) (ρ ρ' : Rho), P.puts p as ρ = some ρ' → as.length = p.size
  | .nil, as, ρ, ρ', h => by cases as with | nil => rfl | cons a as => simp [P.puts] at h
  | .cons p ps, as, ρ, ρ', h => by
    cases as with
    | nil => simp [P.puts] at h
    | cons a as =>
      simp only [P.puts] at h
      split at h
      · simp [P.size, puts_size ps as _ _ h]
      · cases h
  | .nm i, as, ρ, ρ', h => by cases as <;> simp [P.puts] at h
  | .tp p, as, ρ, ρ', h => by cases as <;> simp [P.puts] at h
theorem p_tp {es : List Expr} {k : Nat} {pos : Pos} {ps : P} (hc : X.calm = true) (hs : es.any isStar = false) (hl : es.length = ps.size) (h : PGs X es (rPs X.w X.K fa ps)) : PG X (.Tuple es k pos) (rP X.w X.K fa (.tp ps)) :=
  PGimp (pg_tup (n := es.length) hc h (each_len _ _) (each_no _ _ hs)) fun v σ H Q ⟨ι, ρ, S, a, ρ', rs, rr, rv, hp, q⟩ => by
    cases a with
    | tup as =>
      simp only [P.put] at hp
      obtain ⟨p, vs, e, t, r⟩ := rv_tup' rv
      exact ⟨p, vs, e, t, by rw [← r.length, hl]; exact puts_size _ _ _ _ hp, ι, ρ, S, as, ρ', rs, rr, r, hp, q⟩
    | _ => simp [P.put] at hp

/-! ### the keys of a dict, one after another -/
def Itdk (d : Addr) (n ep : Nat) : It :=
  ⟨fun i H => i < n ∧ (∃ es' ep', H d = some (dOb d es' ep') ∧ (es'.length = n → ep' = ep)) ∧ ∃ es' ep' e x, H d = some (dOb d es' ep') ∧ es'.length = n ∧ es'[i]? = some e ∧ RelV x e.key,
    fun i H x H' => H' = H ∧ ∀ es' ep', H d = some (dOb d es' ep') → ∃ e, es'[i]? = some e ∧ RelV x e.key,
    fun i H => n ≤ i ∧ (∃ es' ep', H d = some (dOb d es' ep') ∧ (es'.length = n → ep' = ep)) ∧ ∃ es' ep', H d = some (dOb d es' ep') ∧ es'.length = n⟩
theorem dob_inj {pins : List (Addr × Obj)} {σ : L2.St} {H : Hp} {s : Shared} {d : Addr} {es es' : List DictEntry} {ep ep' : Nat} (I : Inv X pins σ H s) (h : H d = some (dOb d es ep)) (h' : H d = some (dOb d es' ep')) : es' = es ∧ ep' = ep := by
  obtain ⟨_, _, o, ho, _, hd⟩ := dob_at I h
  obtain ⟨_, _, o', ho', _, hd'⟩ := dob_at I h'
  rw [ho] at ho'; cases ho'
  rw [hd] at hd'
  injection hd' with d1 d2
  exact ⟨(by simpa using congrArg Array.toList d1.symm), d2.symm⟩
theorem turn_dk {P : Program} {w : World} {K : PySem.W.Frag} {tg : Expr} {d : Addr} {n ep : Nat} (it : Addr) : Turn P w K tg (Itdk d n ep) [it] it (fun i h => h.IsKeyIter it d i n ep) where
  mem := by simp
  obj := fun i h st b hb => by
    have e : b = it := by simpa using hb
    subst e
    obtain ⟨oi, e, c, dd⟩ := st
    exact ⟨oi, e, fun v z => by rw [dd] at z; cases z⟩
  keep := fun i h h' st k => st.at fun oi e => k it (by simp) oi e
  item := by
    intro X hP hw hK hc i pins s σ H E I hf st hg
    subst hP hw hK
    obtain ⟨hi, ⟨es', ep', h1, h2⟩, es2, ep2, en, x, h3, h4, h5, h6⟩ := hg
    obtain ⟨rfl, rfl⟩ := dob_inj I h1 h3
    obtain rfl := h2 h4
    obtain ⟨f0, f1, f2, f3, f4, f5⟩ := hf it (by simp)
    obtain ⟨_, _, o, ho, hcd, hd⟩ := dob_at I h1
    refine next_key_item st ho hd (by simpa using h4) (by simpa using h5) fun h' st' sb => ?_
    have I1 : Inv X pins σ H { s with heap := h' } := I.turned (t' := s.toks) (fun b ob hb e => (sb.2 b hb).trans e) f0 f1 f3 f4 f5
    obtain ⟨oi, e, c, dd⟩ := id st'
    exact ⟨_, rfl, go_of (s := { s with heap := h' }) e c dd (by decide) ⟨x, H, I1, h6, ⟨rfl, fun es3 ep3 q => by obtain ⟨rfl, _⟩ := dob_inj I h3 q; exact ⟨en, h5, h6⟩⟩, st', fun b hb => (hf b hb).1⟩⟩
  done := by
    intro X hP hw hK hc i pins s σ H E I hf st hg
    subst hP hw hK
    obtain ⟨hi, ⟨es', ep', h1, h2⟩, es2, ep2, h3, h4⟩ := hg
    obtain ⟨rfl, rfl⟩ := dob_inj I h1 h3
    obtain rfl := h2 h4
    obtain ⟨f0, f1, f2, f3, f4, f5⟩ := hf it (by simp)
    obtain ⟨_, _, o, ho, hcd, hd⟩ := dob_at I h1
    exact next_key_end (I.ok.hd hc) st ho hd (by simpa using h4) hi fun h' eb => ⟨rfl, I.turned (t' := s.toks) (fun b ob hb e => eb b ob hb e) f0 f1 f3 f4 f5⟩
  self := fun A i s Q E st h => wpAny_pyIter_keyiter st h

/-! ### the walks -/
variable {w : World} {K : PySem.W.Frag} {H : Hp} {ι : Pls}
theorem stands_one {S : Sto} {n : Nat} {o : Ob} (h : stands S [(n, o)] = true) : S[n]? = some o := by
  unfold stands at h
  rw [List.all_cons, Bool.and_eq_true] at h
  exact of_decide_eq_true h.1
theorem src_ref {S : Sto} {n : Nat} {o : Ob} (h : S[n]? = some o) : srcOf S (.ref n) = [(n, o)] := by
  show (match S[n]? with | some o => [(n, o)] | none => []) = _
  rw [h]
/-- a value that was a list with these items is one still -/
theorem list_still {S : Sto} {a : W} {ws : List W} {v : V} (rs : RS w K fa H ι S) (h : listOf S a = some ws) (rv : RV w K fa H ι a v) :
    ∃ p, v = .ref p ∧ ∀ H' ι' S', Exh ι H ι' H' → RS w K fa H' ι' S' → stands S' (srcOf S a) = true → ∃ vs, SqL K H' p vs ∧ RVs w K fa H' ι' ws vs := by
  cases a with
  | lst us =>
    obtain rfl : us = ws := by cases h; rfl
    obtain ⟨p, vs, e, hq, r⟩ := listOf_rv rs (show listOf S (.lst us) = some us from rfl) rv
    refine ⟨p, e, fun H' ι' S' x rs' _ => ?_⟩
    have rv' := rv.monoH x
    obtain ⟨p', vs', e', hq', r'⟩ := listOf_rv rs' (show listOf S' (.lst us) = some us from rfl) rv'
    rw [e] at e'; cases e'
    exact ⟨vs', hq', r'⟩
  | ref n =>
    obtain ⟨p, hp, e⟩ := rv_ref.mp rv
    have h0 : (match S[n]? with | some (Ob.lst ws) => some ws | _ => none) = some ws := h
    split at h0
    · rename_i us hn
      cases h0
      refine ⟨p, e, fun H' ι' S' x rs' st => ?_⟩
      rw [src_ref hn] at st
      obtain ⟨vs, h1, h2⟩ := rs'.ob n _ p (stands_one st) (x.pre _ _ hp)
      exact ⟨vs, SqL.of h1, h2⟩
    · cases h0
  | _ => cases h
theorem wk_list {S : Sto} {a : W} {ws : List W} {p : Addr} (rs : RS w K fa H ι S) (h : listOf S a = some ws) (rv : RV w K fa H ι a (.ref p)) : Wk w K fa (Itl K p) ws (srcOf S a) H ι := by
  obtain ⟨p', e, st⟩ := list_still rs h rv
  cases e
  intro H' ι' S' x rs' hs i
  obtain ⟨vs, hq, r⟩ := st H' ι' S' x rs' hs
  refine ⟨fun e => ⟨vs, hq, by rw [e, r.length]; exact Nat.le_refl _⟩, fun b hb => ?_⟩
  obtain ⟨v, hv, rv'⟩ := r.get hb
  refine ⟨⟨vs, v, hq, hv⟩, fun y H'' hy => ?_⟩
  obtain ⟨rfl, hy⟩ := hy
  have := hy vs hq
  rw [hv] at this; cases this
  exact ⟨ι', Ext.refl _ _, rs', rv'⟩
theorem wk_tup {ws : List W} {p : Addr} (rv : RV w K fa H ι (.tup ws) (.ref p)) : Wk w K fa (Itt K p) ws [] H ι := by
  intro H' ι' S' x rs' hs i
  obtain ⟨p', vs, e, hq, r⟩ := rv_tup' (rv.monoH x)
  cases e
  refine ⟨fun e => ⟨vs, hq, by rw [e, r.length]; exact Nat.le_refl _⟩, fun b hb => ?_⟩
  obtain ⟨v, hv, rv'⟩ := r.get hb
  refine ⟨⟨vs, v, hq, hv⟩, fun y H'' hy => ?_⟩
  obtain ⟨rfl, hy⟩ := hy
  have := hy vs hq
  rw [hv] at this; cases this
  exact ⟨ι', Ext.refl _ _, rs', rv'⟩
theorem wk_str {z : Str} (hz : litOk z = true) : Wk w K fa (Its z) (z.cps.toList.map fun c => W.str ⟨#[c]⟩) [] H ι := by
  intro H' ι' S' x rs' hs i
  refine ⟨fun e => ?_, fun b hb => ?_⟩
  · show z.cps.size ≤ i
    rw [e]; simp
  · rw [List.getElem?_map] at hb
    obtain ⟨c, hc, rfl⟩ := Option.map_eq_some_iff.mp hb
    have hi : i < z.cps.size := by
      have := (List.getElem?_eq_some_iff.mp hc).1
      simpa using this
    refine ⟨hi, fun y H'' hy => ?_⟩
    obtain ⟨rfl, c', hc', rfl⟩ := hy
    rw [← Array.getElem?_toList, hc] at hc'
    cases hc'
    exact ⟨ι', Ext.refl _ _, rs', rv_str.mpr ⟨rfl, litOk_one hz (List.mem_of_getElem? hc)⟩⟩
/-- a value that was a dict with these keys is one still -/
theorem dict_still {S : Sto} {a : W} {ks us : List W} {v : V} (rs : RS w K fa H ι S) (h : dictOf S a = some (ks, us)) (rv : RV w K fa H ι a v) :
    ∃ p es ep, v = .ref p ∧ H p = some (dOb p es ep) ∧ p ∉ ι.hd ∧ es.length = ks.length ∧ ∀ H' ι' S', Exh ι H ι' H' → RS w K fa H' ι' S' → stands S' (srcOf S a) = true →
      ∃ es' ep' kvs uvs, H' p = some (dOb p es' ep') ∧ Ents w ks kvs uvs es' ∧ RVs w K fa H' ι' ks kvs ∧ RVs w K fa H' ι' us uvs := by
  cases a with
  | dct ks' us' =>
    cases h
    have rv0 := rv
    simp only [RV] at rv
    obtain ⟨p, es, ep, kvs, uvs, e, h1, hn, h2, h3, h4, h5⟩ := rv
    refine ⟨p, es, ep, e, h1, (Pls.nmem.mp hn).2, (ents_len h2).1.symm, fun H' ι' S' x rs' _ => ?_⟩
    have rv' := rv0.monoH x
    simp only [RV] at rv'
    obtain ⟨p', es', ep', kvs', uvs', e', h1', _, h2', h3', h4', h5'⟩ := rv'
    rw [e] at e'; cases e'
    exact ⟨es', ep', kvs', uvs', h1', h2', h4', h5'⟩
  | ref n =>
    obtain ⟨p, hp, e⟩ := rv_ref.mp rv
    have h0 : (match S[n]? with | some (Ob.dct ks us) => some (ks, us) | _ => none) = some (ks, us) := h
    split at h0
    · rename_i ks' us' hn
      cases h0
      obtain ⟨es, ep, kvs, uvs, h1, h2, h3, h4, h5⟩ := rs.ob n _ p hn hp
      refine ⟨p, es, ep, e, h1, fun m => rs.dj p m (List.mem_of_getElem? hp), (ents_len h2).1.symm, fun H' ι' S' x rs' st => ?_⟩
      rw [src_ref hn] at st
      obtain ⟨es', ep', kvs', uvs', h1', h2', h3', h4', h5'⟩ := rs'.ob n _ p (stands_one st) (x.pre _ _ hp)
      exact ⟨es', ep', kvs', uvs', h1', h2', h4', h5'⟩
    · cases h0
  | _ => cases h
theorem wk_dk {S : Sto} {a : W} {ks us : List W} {p : Addr} (rs : RS w K fa H ι S) (h : dictOf S a = some (ks, us)) (rv : RV w K fa H ι a (.ref p)) : ∃ es ep, H p = some (dOb p es ep) ∧ es.length = ks.length ∧ Wk w K fa (Itdk p es.length ep) ks (srcOf S a) H ι := by
  obtain ⟨p', es, ep, e, h1, hnh, hl, st⟩ := dict_still rs h rv
  cases e
  refine ⟨es, ep, h1, hl, ?_⟩
  intro H' ι' S' x rs' hs i
  obtain ⟨es2, ep2, kvs, uvs, h2, en, r1, r2⟩ := st H' ι' S' x rs' hs
  obtain ⟨es3, ep3, h3, l3, q3⟩ := x.dk p es ep hnh h1
  have hl2 := (ents_len en).1
  refine ⟨fun e => ⟨by rw [e, hl]; exact Nat.le_refl _, ⟨es3, ep3, h3, q3⟩, es2, ep2, h2, by rw [← hl2, hl]⟩, fun b hb => ?_⟩
  have hi : i < ks.length := (List.getElem?_eq_some_iff.mp hb).1
  have hi2 : i < es2.length := by omega
  obtain ⟨k, kv, uv, e1, e2, e4, e5, e6, e7⟩ := ents_get en (List.getElem?_eq_getElem hi2)
  rw [hb] at e1; cases e1
  obtain ⟨v, hv, rv'⟩ := r1.get hb
  rw [e2] at hv; cases hv
  refine ⟨⟨by omega, ⟨es3, ep3, h3, q3⟩, es2, ep2, _, kv, h2, by omega, List.getElem?_eq_getElem hi2, e6⟩, fun y H'' hy => ?_⟩
  obtain ⟨rfl, hy⟩ := hy
  obtain ⟨en', g1, g2⟩ := hy es2 ep2 h2
  rw [List.getElem?_eq_getElem hi2] at g1; cases g1
  have : y = kv := g2.inj e6
  subst this
  exact ⟨ι', Ext.refl _ _, rs', rv'⟩

/-- for x in e, e any value that is walked -/
theorem i_iter {tg e : Expr} {m : Rho → M W} (he : PE X e (rV X.w X.K fa m)) : PI X tg e (rI X.w X.K fa fun ρ => do let x ← m ρ; wIter x) := by
  refine ⟨fun pins s σ H R I ⟨ι, ρ, S, xs, src, S', rs, rr, hm, q⟩ => ?_⟩
  obtain ⟨a, S1, h1, hm1⟩ := bindM hm
  refine thn (he.run pins s σ H (fun v H1 => ∃ ι1, Ext ι H ι1 H1 ∧ RS X.w X.K fa H1 ι1 S1 ∧ RV X.w X.K fa H1 ι1 a v) I ⟨ι, ρ, S, a, S1, rs, rr, h1, fun v H1 ι1 x1 rs1 rv1 => ⟨ι1, x1, rs1, rv1⟩⟩) fun u s1 ⟨v, H1, I1, r1, ι1, x1, rs1, rv1⟩ => ?_
  unfold wIter at hm1
  split at hm1
  · rename_i z _
    cases hm1
    obtain ⟨rfl, hz⟩ := rv_str.mp rv1
    obtain ⟨t, rfl⟩ := r1
    have qq := q (Its z) H1 ι1 x1 rs1 (by have := litOk_len hz; simpa [Str.length] using this) (wk_str hz)
    cases ha : z.cps.all (· < 128)
    · exact wpAny_pyIter_wide ha (pi_one (tk := s1.toks) I1 _ (turn_str _ z t "str_iterator" (.inr rfl)) ⟨_, Heap.get?_push_size _ rfl, rfl, rfl⟩ qq)
    · exact wpAny_pyIter_ascii ha (pi_one (tk := s1.toks) I1 _ (turn_str _ z t "str_ascii_iterator" (.inl rfl)) ⟨_, Heap.get?_push_size _ rfl, rfl, rfl⟩ qq)
  · split at hm1
    · rename_i ks us hd
      cases hm1
      obtain ⟨p, es, ep, kvs, uvs, rfl, hp, en, nd, _, _⟩ := dictOf_rv rs1 hd rv1
      obtain rfl : u = Value.ref p := r1
      obtain ⟨es', ep', h1', hl, wk⟩ := wk_dk rs1 hd rv1
      obtain ⟨g1, g2, o, ho, hc, hdt⟩ := dob_at I1 h1'
      have qq := q _ H1 ι1 x1 rs1 (by rw [← hl]; exact g2) wk
      refine iter_keys g1 ho hc hdt (pi_one (tk := s1.toks) I1 _ (turn_dk _) ⟨_, Heap.get?_push_size _ rfl, rfl, ?_⟩ qq)
      simp
    · split at hm1
      · rename_i ws hw
        cases hm1
        cases hl : listOf S' a with
        | some ws' =>
          have e0 := listOf_seq hl
          rw [hw] at e0; cases e0
          obtain ⟨p, vs, rfl, hq, r⟩ := listOf_rv rs1 hl rv1
          obtain rfl : u = Value.ref p := r1
          have hq' : SqL X.K H1 p vs := hq
          obtain ⟨its, rv, pl, hz⟩ := I1.list hq'
          have qq := q _ H1 ι1 x1 rs1 (by rw [r.length]; exact hz) (wk_list rs1 hl rv1)
          exact wpAny_pyIter_list pl.isList (pi_one (tk := s1.toks) I1 _ (turn_list p _) ⟨_, Heap.get?_push_size _ rfl, rfl, rfl⟩ qq)
        | none =>
          cases a with
          | tup us =>
            cases hw
            obtain ⟨p, vs, rfl, hq, r⟩ := rv_tup' rv1
            obtain rfl : u = Value.ref p := r1
            obtain ⟨its, rv, pl, hz⟩ := I1.tuple hq
            have qq := q _ H1 ι1 x1 rs1 (by rw [r.length]; exact hz) (wk_tup rv1)
            exact wpAny_pyIter_tuple (show s1.heap.IsTuple p its.toArray from pl) (pi_one (tk := s1.toks) I1 _ (turn_tuple p _) ⟨_, Heap.get?_push_size _ rfl, rfl, rfl⟩ qq)
          | lst us => cases hl
          | ref n =>
            have hw : listOf S' (.ref n) = some _ := hw
            rw [hl] at hw; cases hw
          | _ => cases hw
      · cases hm1
theorem wk_range {lo : Int} {n : Nat} : Wk w K fa (Itr lo n) ((List.range n).map fun k => W.int (lo + Int.ofNat k)) [] H ι := by
  intro H' ι' S' x rs' hs i
  refine ⟨fun e => ?_, fun b hb => ?_⟩
  · show n ≤ i
    rw [e]; simp
  · rw [List.getElem?_map] at hb
    obtain ⟨c, hc, rfl⟩ := Option.map_eq_some_iff.mp hb
    have hi : i < n := by
      have := (List.getElem?_eq_some_iff.mp hc).1
      simpa using this
    have : c = i := by simpa [hi] using hc.symm
    subst this
    refine ⟨hi, fun y H'' hy => ?_⟩
    obtain ⟨rfl, rfl⟩ := hy
    exact ⟨ι', Ext.refl _ _, rs', rv_int.mpr rfl⟩
theorem i_rng1 {tg a : Expr} {p pos : Pos} {m : Rho → M W} (hg : Gl X "range") (hm : X.mg "range" = none) (hs : isStar a = false) (ha : PE X a (rV X.w X.K fa m)) : PI X tg (.Call (.Name "range" p) [a] [] pos) (rI X.w X.K fa fun ρ => do let x ← m ρ; wRng1 x) :=
  PIimp (pi_range1 hg hm (ev_cons ha ev_nil (star_no hs)) (by rw [star_no hs]; rfl)) fun σ H R ⟨ι, ρ, S, xs, src, S', rs, rr, hm, q⟩ => by
    obtain ⟨x, S1, h1, hm1⟩ := bindM hm
    refine ⟨ι, ρ, S, [x], S1, rs, rr, by show (m ρ >>= _) S = _; rw [bind_some h1]; rfl, fun vs H1 ι1 x1 rs1 rv1 => ?_⟩
    unfold wRng1 at hm1
    split at hm1
    · rename_i n
      split at hm1
      · rename_i hn
        have e : some (((List.range n.toNat).map fun (i : Nat) => W.int (Int.ofNat i), ([] : List (Nat × Ob))), S1) = some ((xs, src), S') := hm1
        cases e
        obtain ⟨v, vs', rfl, r1, r2⟩ := rv1.cons_inv
        obtain rfl := r2.nil_inv
        rw [rv_int] at r1
        subst r1
        refine ⟨n, rfl, by omega, by omega, q _ H1 ι1 x1 rs1 ?_ ?_⟩
        · rw [List.length_map, List.length_range, sizeLine_eq]; omega
        · have := wk_range (w := X.w) (K := X.K) (fa := fa) (H := H1) (ι := ι1) (lo := 0) (n := n.toNat)
          simpa using this
      · cases hm1
    · cases hm1
theorem i_rng2 {tg a b : Expr} {p pos : Pos} {m m' : Rho → M W} (hg : Gl X "range") (hm : X.mg "range" = none) (hs : isStar a = false) (hs' : isStar b = false) (ha : PE X a (rV X.w X.K fa m)) (hb : PE X b (rV X.w X.K fa m')) :
    PI X tg (.Call (.Name "range" p) [a, b] [] pos) (rI X.w X.K fa fun ρ => do let x ← m ρ; let y ← m' ρ; wRng2 x y) :=
  PIimp (pi_range2 hg hm (ev_cons ha (ev_cons hb ev_nil (star_no hs')) (star_no hs)) (by rw [star_no hs, star_no hs']; rfl) (by rw [star_no hs']; rfl)) fun σ H R ⟨ι, ρ, S, xs, src, S', rs, rr, hm, q⟩ => by
    obtain ⟨x, S1, h1, hm1⟩ := bindM hm
    obtain ⟨y, S2, h2, hm2⟩ := bindM hm1
    refine ⟨ι, ρ, S, [x, y], S2, rs, rr, by show (m ρ >>= _) S = _; rw [bind_some h1]; show ((m' ρ >>= _) >>= _) S1 = _; rw [bind_some (bind_some h2)]; rfl, fun vs H1 ι1 x1 rs1 rv1 => ?_⟩
    unfold wRng2 at hm2
    split at hm2
    · rename_i i j
      split at hm2
      · rename_i hn
        have e : some (((List.range (j - i).toNat).map fun (k : Nat) => W.int (i + Int.ofNat k), ([] : List (Nat × Ob))), S2) = some ((xs, src), S') := hm2
        cases e
        obtain ⟨v, vs', rfl, r1, r2⟩ := rv1.cons_inv
        obtain ⟨v', vs2, rfl, r1', r2'⟩ := r2.cons_inv
        obtain rfl := r2'.nil_inv
        rw [rv_int] at r1 r1'
        subst r1 r1'
        refine ⟨i, j, rfl, by omega, q _ H1 ι1 x1 rs1 ?_ wk_range⟩
        rw [List.length_map, List.length_range, sizeLine_eq]; omega
      · cases hm2
    · cases hm2
end
end TZ

set_option Elab.async false
set_option linter.all false
set_option maxRecDepth 100000
/-! A11: comprehensions of lists, loops. -/
namespace TZ
open PySem L2 StX PyProof.Rows

section
variable {α : Type}
theorem compL_nil {src : List (Nat × Ob)} {f : W → M (List α)} {S S' : Sto} {r : List α} (h : compL src f [] S = some (r, S')) : stands S src = true ∧ r = [] ∧ S' = S := by
  unfold compL at h
  split at h
  · cases h; exact ⟨by assumption, rfl, rfl⟩
  · cases h
theorem compL_cons {src : List (Nat × Ob)} {f : W → M (List α)} {x : W} {xs : List W} {S S' : Sto} {r : List α} (h : compL src f (x :: xs) S = some (r, S')) : stands S src = true ∧ ∃ ys S1 zs, f x S = some (ys, S1) ∧ compL src f xs S1 = some (zs, S') ∧ r = ys ++ zs := by
  unfold compL at h
  split at h
  · rename_i hs
    refine ⟨hs, ?_⟩
    cases e : f x S with
    | none => rw [e] at h; cases h
    | some p =>
      obtain ⟨ys, S1⟩ := p
      rw [e] at h
      simp only at h
      cases e2 : compL src f xs S1 with
      | none => rw [e2] at h; cases h
      | some q =>
        obtain ⟨zs, S2⟩ := q
        rw [e2] at h
        cases h
        exact ⟨ys, S1, zs, rfl, e2, rfl⟩
  · cases h
theorem turnOfM {t : P} {vs : List Nat} {ρ : Rho} {c e : Dn} {x : W} {S S' : Sto} {r : List W} (h : turnOf t vs ρ c e x S = some (r, S')) : ∃ ρ' b S1, P.put t x (wipeR ρ vs) = some ρ' ∧ truth (c.v ρ') S = some (b, S1) ∧
    ((b = true ∧ ∃ y, e.v ρ' S1 = some (y, S') ∧ r = [y]) ∨ (b = false ∧ S' = S1 ∧ r = [])) := by
  unfold turnOf at h
  split at h
  · rename_i ρ' hp
    split at h
    · rename_i S1 ht
      split at h
      · rename_i w S2 hv
        cases h
        exact ⟨ρ', true, S1, hp, ht, .inl ⟨rfl, w, hv, rfl⟩⟩
      · cases h
    · rename_i S1 ht
      cases h
      exact ⟨ρ', false, _, hp, ht, .inr ⟨rfl, rfl, rfl⟩⟩
    · cases h
  · cases h
theorem turn2M {t : P} {vs vs1 : List Nat} {ρ : Rho} {c : Dn} {t1 : P} {it1 c1 e : Dn} {x : W} {S S' : Sto} {r : List W} (h : turn2 t vs vs1 ρ c t1 it1 c1 e x S = some (r, S')) : ∃ ρ' b S1, P.put t x (wipeR ρ vs) = some ρ' ∧ truth (c.v ρ') S = some (b, S1) ∧
    ((b = true ∧ ∃ xs src S2, it1.it ρ' S1 = some ((xs, src), S2) ∧ compL src (turnOf t1 vs1 ρ' c1 e) xs S2 = some (r, S')) ∨ (b = false ∧ S' = S1 ∧ r = [])) := by
  unfold turn2 at h
  split at h
  · rename_i ρ' hp
    split at h
    · rename_i S1 ht
      split at h
      · rename_i xs src S2 hv
        exact ⟨ρ', true, S1, hp, ht, .inl ⟨rfl, xs, src, S2, hv, h⟩⟩
      · cases h
    · rename_i S1 ht
      cases h
      exact ⟨ρ', false, _, hp, ht, .inr ⟨rfl, rfl, rfl⟩⟩
    · cases h
  · cases h
end

section
variable {X : Cx} {fa : Nat → Option Addr}
/-- the list in the making at D, from the base ι1, H1 -/
structure Mk (w : World) (K : PySem.W.Frag) (fa : Nat → Option Addr) (ι1 : Pls) (H1 : Hp) (D : Addr) (ι2 : Pls) (H2 : Hp) (S2 : Sto) (ws : List W) : Prop where
  xh : Exh ι1 H1 ι2 H2
  ex : Ext ι1 H1 ι2.show H2
  rs : RS w K fa H2 ι2 S2
  hd : ι2.hd = D :: ι1.hd
  at_ : ∃ vs, H2 D = some (.lst vs) ∧ RVs w K fa H2 ι2 ws vs
section
variable {w : World} {K : PySem.W.Frag} {ι1 ι2 : Pls} {H1 H2 : Hp} {D : Addr} {S2 : Sto} {ws : List W}
theorem Mk.start (rs : RS w K fa H1 ι1 S2) (hD : H1 D = none) : Mk w K fa ι1 H1 D (ι1.hide D) (upd H1 D (.lst [])) S2 [] :=
  ⟨exh_hide hD, (show Ext ι1 H1 ι1 _ from ext_new hD), rs.hide hD, rfl, [], upd_same, .nil⟩
theorem Mk.step {ι3 : Pls} {H3 : Hp} {S3 : Sto} (m : Mk w K fa ι1 H1 D ι2 H2 S2 ws) (x : Ext ι2 H2 ι3 H3) (rs : RS w K fa H3 ι3 S3) : Mk w K fa ι1 H1 D ι3 H3 S3 ws := by
  obtain ⟨vs, h1, h2⟩ := m.at_
  have nd : D ∉ ι2.pl := m.rs.dj D (by rw [m.hd]; exact List.mem_cons_self)
  exact ⟨m.xh.trans x.exh, m.ex.trans x.show, rs, x.hid.trans m.hd, vs, x.keep D _ h1 nd, h2.mono x⟩
theorem Mk.app {y : W} {v : V} (m : Mk w K fa ι1 H1 D ι2 H2 S2 ws) (hD : H1 D = none) (r : RV w K fa H2 ι2 y v) : ∃ acc, H2 D = some (.lst acc) ∧ acc.length = ws.length ∧ Mk w K fa ι1 H1 D ι2 (upd H2 D (.lst (acc ++ [v]))) S2 (ws ++ [y]) := by
  obtain ⟨vs, h1, h2⟩ := m.at_
  have hm : D ∈ ι2.hd := by rw [m.hd]; exact List.mem_cons_self
  have xw : Exh ι2 H2 ι2 (upd H2 D (.lst (vs ++ [v]))) := exh_write hm
  exact ⟨vs, h1, h2.length.symm, m.xh.trans xw, m.ex.wr hD, m.rs.write hm, m.hd, _, upd_same, (h2.monoH xw).append (.cons (r.monoH xw) .nil)⟩
theorem Mk.fin {Q : VK} {S : Sto} {xs : List W} {ι : Pls} {H : Hp} (m : Mk w K fa ι1 H1 D ι2 H2 S2 ws) (x : Ext ι H ι1 H1) (hD : H1 D = none) (rs1 : RS w K fa H1 ι1 S) (q : After w K fa ι H (.lst ws) S2 Q) : Q (.ref D) H2 := by
  obtain ⟨vs, h1, h2⟩ := m.at_
  refine q _ H2 ι2.show (x.trans m.ex) m.rs.show ?_
  simp only [RV]
  refine ⟨D, vs, rfl, .inl ⟨.inl h1, ?_⟩, h2.monoH exh_show⟩
  rw [Pls.nmem]
  refine ⟨m.rs.dj D (by rw [m.hd]; exact List.mem_cons_self), ?_⟩
  show D ∉ ι2.hd.tail
  rw [m.hd]
  exact fun z => rs1.hid D z hD
end
theorem lc_read {t : P} {vs : List Nat} {it c e : Dn} (hsub : ∀ i ∈ t.slots, i ∈ vs) (σ : L2.St) (H : Hp) (Q : VK) (h : rV X.w X.K fa (fun ρ => do
      let p ← it.it ρ
      let ws ← compL p.2 (turnOf t vs ρ c e) p.1
      pure (.lst ws)) σ H Q) : tLc (rI X.w X.K fa it.it) (rP X.w X.K fa t) (rB X.w X.K fa fun ρ => truth (c.v ρ)) (rV X.w X.K fa e.v) vs σ H Q := by
  obtain ⟨ι, ρ, S, r, S', rs, rr, hm, q⟩ := h
  obtain ⟨⟨xs, src⟩, S1, h1, hm1⟩ := bindM hm
  obtain ⟨total, S2, h2, hm2⟩ := bindM hm1
  obtain ⟨rfl, rfl⟩ := retM hm2
  clear hm hm1 hm2
  refine ⟨ι, ρ, S, xs, src, S1, rs, rr, h1, fun J H1 ι1 x1 rs1 hlen wk D hD => ?_⟩
  refine ⟨fun i m Hc => m = xs.length - i ∧ i ≤ xs.length ∧ ∃ ι2 S2 ws zs, Mk X.w X.K fa ι1 H1 D ι2 Hc S2 ws ∧ ws.length ≤ i ∧ compL src (turnOf t vs ρ c e) (xs.drop i) S2 = some (zs, S') ∧ ws ++ zs = total,
    ⟨xs.length, by simp, Nat.zero_le _, ι1.hide D, S1, [], total, .start rs1 hD, Nat.le_refl _, by simpa using h2, rfl⟩, ?_⟩
  rintro i m Hc ⟨rfl, hi, ι2, S2, ws, zs, mk, hl, hc, ht⟩
  by_cases hlt : i < xs.length
  · right
    have hx : xs[i]? = some xs[i] := List.getElem?_eq_getElem hlt
    rw [List.drop_eq_getElem_cons hlt] at hc
    obtain ⟨hs, ys, S3, zs', hf, hc', rfl⟩ := compL_cons hc
    obtain ⟨_, hw⟩ := wk Hc ι2 S2 mk.xh mk.rs hs i
    obtain ⟨hgo, hy⟩ := hw _ hx
    refine ⟨hgo, fun H' => ∃ ι2 S2 ws zs, Mk X.w X.K fa ι1 H1 D ι2 H' S2 ws ∧ ws.length ≤ i + 1 ∧ compL src (turnOf t vs ρ c e) (xs.drop (i + 1)) S2 = some (zs, S') ∧ ws ++ zs = total, fun H' p => ⟨xs.length - (i + 1), by omega, rfl, hlt, p⟩, fun x H' y => ?_⟩
    obtain ⟨ι3, x3, rs3, rv3⟩ := hy x H' y
    have mk3 := mk.step x3 rs3
    obtain ⟨ρ', b, S4, hp, htr, hb⟩ := turnOfM hf
    refine ⟨ι3, wipeR ρ vs, S2, xs[i], ρ', rs3, ((rr.mono x1).monoH mk3.xh).wipe vs, rv3, hp, fun σ2 rr2 sw => ⟨?_, ?_⟩⟩
    · have hh := sw.wipe (vs := vs) hsub
      rw [hh]
      apply List.ext_getElem?
      intro j
      by_cases hj : j ∈ vs
      · by_cases hjl : j < σ.length
        · rw [wipe_at hj (by rw [wipe_length]; exact hjl), wipe_at hj hjl]
        · rw [List.getElem?_eq_none (by rw [wipe_length, wipe_length]; omega), List.getElem?_eq_none (by rw [wipe_length]; omega)]
      · rw [wipe_out hj]
    · refine ⟨ι3, ρ', S2, b, S4, rs3, rr2, htr, fun H4 ι4 x4 rs4 => ?_⟩
      have mk4 := mk3.step x4 rs4
      rcases hb with ⟨rfl, yv, he, rfl⟩ | ⟨rfl, rfl, rfl⟩
      · show if true = true then _ else _; rw [if_pos rfl]
        refine ⟨ι4, ρ', S4, yv, S3, rs4, rr2.mono x4, he, fun v H5 ι5 x5 rs5 rv5 => ?_⟩
        obtain ⟨acc, a1, a2, mk6⟩ := (mk4.step x5 rs5).app hD rv5
        refine ⟨acc, a1, by omega, ι5, S3, ws ++ [yv], zs', mk6, by simp; omega, hc', by rw [← ht]; simp⟩
      · show if false = true then _ else _; rw [if_neg Bool.false_ne_true]
        exact ⟨ι4, S3, ws, zs', mk4, by omega, hc', by rw [← ht]; rfl⟩
  · left
    have e : i = xs.length := by omega
    subst e
    rw [List.drop_length] at hc
    obtain ⟨hs, rfl, rfl⟩ := compL_nil hc
    obtain ⟨hst, _⟩ := wk Hc ι2 _ mk.xh mk.rs hs xs.length
    refine ⟨hst rfl, ?_⟩
    rw [List.append_nil] at ht
    subst ht
    exact mk.fin (xs := xs) x1 hD rs1 q
theorem lc2_read {t t1 : P} {vs vs1 : List Nat} {it c it1 c1 e : Dn} (hsub : ∀ i ∈ t.slots, i ∈ vs) (hsub1 : ∀ i ∈ t1.slots, i ∈ vs1) (σ : L2.St) (H : Hp) (Q : VK) (h : rV X.w X.K fa (fun ρ => do
      let p ← it.it ρ
      let ws ← compL p.2 (turn2 t vs vs1 ρ c t1 it1 c1 e) p.1
      M.fits ws.length
      pure (.lst ws)) σ H Q) : tLc2 (rI X.w X.K fa it.it) (rP X.w X.K fa t) (rB X.w X.K fa fun ρ => truth (c.v ρ)) (rI X.w X.K fa it1.it) (rP X.w X.K fa t1) (rB X.w X.K fa fun ρ => truth (c1.v ρ)) (rV X.w X.K fa e.v) vs vs1 σ H Q := by
  obtain ⟨ι, ρ, S, r, S', rs, rr, hm, q⟩ := h
  obtain ⟨⟨xs, src⟩, S1, h1, hm1⟩ := bindM hm
  obtain ⟨total, S2b, h2, hm2⟩ := bindM hm1
  obtain ⟨_, SE, h2b, hm3⟩ := bindM hm2
  obtain ⟨rfl, rfl⟩ := retM hm3
  obtain ⟨hfit, hSE⟩ := grdM h2b
  rw [hSE] at q
  clear hSE
  have hfit : total.length ≤ sizeLine := by rw [← lineN_eq]; exact of_decide_eq_true hfit
  clear hm hm1 hm2 hm3
  refine ⟨ι, ρ, S, xs, src, S1, rs, rr, h1, fun J H1 ι1 x1 rs1 hlen wk D hD => ?_⟩
  refine ⟨fun i m Hc => m = xs.length - i ∧ i ≤ xs.length ∧ ∃ ι2 S2 ws zs, Mk X.w X.K fa ι1 H1 D ι2 Hc S2 ws ∧ compL src (turn2 t vs vs1 ρ c t1 it1 c1 e) (xs.drop i) S2 = some (zs, S2b) ∧ ws ++ zs = total,
    ⟨xs.length, by simp, Nat.zero_le _, ι1.hide D, S1, [], total, .start rs1 hD, by simpa using h2, rfl⟩, ?_⟩
  rintro i m Hc ⟨rfl, hi, ι2, S2, ws, zs, mk, hc, ht⟩
  by_cases hlt : i < xs.length
  · right
    have hx : xs[i]? = some xs[i] := List.getElem?_eq_getElem hlt
    rw [List.drop_eq_getElem_cons hlt] at hc
    obtain ⟨hs, ys, S3, zs', hf, hc', rfl⟩ := compL_cons hc
    obtain ⟨_, hw⟩ := wk Hc ι2 S2 mk.xh mk.rs hs i
    obtain ⟨hgo, hy⟩ := hw _ hx
    refine ⟨hgo, fun H' => ∃ ι2 S2 ws zs, Mk X.w X.K fa ι1 H1 D ι2 H' S2 ws ∧ compL src (turn2 t vs vs1 ρ c t1 it1 c1 e) (xs.drop (i + 1)) S2 = some (zs, S2b) ∧ ws ++ zs = total, fun H' p => ⟨xs.length - (i + 1), by omega, rfl, hlt, p⟩, fun x H' y => ?_⟩
    obtain ⟨ι3, x3, rs3, rv3⟩ := hy x H' y
    have mk3 := mk.step x3 rs3
    obtain ⟨ρ', b, S4, hp, htr, hb⟩ := turn2M hf
    refine ⟨ι3, wipeR ρ vs, S2, xs[i], ρ', rs3, ((rr.mono x1).monoH mk3.xh).wipe vs, rv3, hp, fun σ2 rr2 sw => ⟨?_, ?_⟩⟩
    · have hh := sw.wipe (vs := vs) hsub
      rw [hh]
      apply List.ext_getElem?
      intro j
      by_cases hj : j ∈ vs
      · by_cases hjl : j < σ.length
        · rw [wipe_at hj (by rw [wipe_length]; exact hjl), wipe_at hj hjl]
        · rw [List.getElem?_eq_none (by rw [wipe_length, wipe_length]; omega), List.getElem?_eq_none (by rw [wipe_length]; omega)]
      · rw [wipe_out hj]
    · refine ⟨ι3, ρ', S2, b, S4, rs3, rr2, htr, fun H4 ι4 x4 rs4 => ?_⟩
      have mk4 := mk3.step x4 rs4
      rcases hb with ⟨rfl, xs1, src1, S5, hi1, hc1⟩ | ⟨rfl, rfl, rfl⟩
      · show if true = true then _ else _; rw [if_pos rfl]
        refine ⟨ι4, ρ', S4, xs1, src1, S5, rs4, rr2.mono x4, hi1, fun J1 H5 ι5 x5 rs5 hlen1 wk1 => ?_⟩
        have mk5 := mk4.step x5 rs5
        have rr5 := (rr2.mono x4).mono x5
        -- the inner walk: ys = vs' ++ us'
        refine ⟨fun j m Hd => m = xs1.length - j ∧ j ≤ xs1.length ∧ ∃ ι6 S6 ws1 us, Exh ι5 H5 ι6 Hd ∧ Mk X.w X.K fa ι1 H1 D ι6 Hd S6 (ws ++ ws1) ∧ compL src1 (turnOf t1 vs1 ρ' c1 e) (xs1.drop j) S6 = some (us, S3) ∧ ws1 ++ us = ys,
          ⟨xs1.length, by simp, Nat.zero_le _, ι5, S5, [], ys, (Ext.refl _ _).exh, by simpa using mk5, by simpa using hc1, rfl⟩, ?_⟩
        rintro j m Hd ⟨rfl, hj, ι6, S6, ws1, us, xh6, mk6, hc6, ht6⟩
        by_cases hlt1 : j < xs1.length
        · right
          have hx1 : xs1[j]? = some xs1[j] := List.getElem?_eq_getElem hlt1
          rw [List.drop_eq_getElem_cons hlt1] at hc6
          obtain ⟨hs1, ys1, S7, us', hf1, hc7, rfl⟩ := compL_cons hc6
          obtain ⟨_, hw1⟩ := wk1 Hd ι6 S6 xh6 mk6.rs hs1 j
          obtain ⟨hgo1, hy1⟩ := hw1 _ hx1
          refine ⟨hgo1, fun H' => ∃ ι6 S6 ws1 us, Exh ι5 H5 ι6 H' ∧ Mk X.w X.K fa ι1 H1 D ι6 H' S6 (ws ++ ws1) ∧ compL src1 (turnOf t1 vs1 ρ' c1 e) (xs1.drop (j + 1)) S6 = some (us, S3) ∧ ws1 ++ us = ys, fun H' p => ⟨xs1.length - (j + 1), by omega, rfl, hlt1, p⟩, fun x H' y => ?_⟩
          obtain ⟨ι7, x7, rs7, rv7⟩ := hy1 x H' y
          have mk7 := mk6.step x7 rs7
          have xh7 := xh6.trans x7.exh
          obtain ⟨ρ1, b1, S8, hp1, htr1, hb1⟩ := turnOfM hf1
          refine ⟨ι7, wipeR ρ' vs1, S6, xs1[j], ρ1, rs7, (rr5.monoH xh7).wipe vs1, rv7, hp1, fun σ3 rr3 sw3 => ⟨?_, ?_⟩⟩
          · have hh := sw3.wipe (vs := vs1) hsub1
            rw [hh]
            apply List.ext_getElem?
            intro k
            by_cases hk : k ∈ vs1
            · by_cases hkl : k < σ2.length
              · rw [wipe_at hk (by rw [wipe_length]; exact hkl), wipe_at hk hkl]
              · rw [List.getElem?_eq_none (by rw [wipe_length, wipe_length]; omega), List.getElem?_eq_none (by rw [wipe_length]; omega)]
            · rw [wipe_out hk]
          · refine ⟨ι7, ρ1, S6, b1, S8, rs7, rr3, htr1, fun H8 ι8 x8 rs8 => ?_⟩
            have mk8 := mk7.step x8 rs8
            have xh8 := xh7.trans x8.exh
            rcases hb1 with ⟨rfl, yv, he, rfl⟩ | ⟨rfl, rfl, rfl⟩
            · show if true = true then _ else _; rw [if_pos rfl]
              refine ⟨ι8, ρ1, S8, yv, S7, rs8, rr3.mono x8, he, fun v H9 ι9 x9 rs9 rv9 => ?_⟩
              have mk9 := mk8.step x9 rs9
              obtain ⟨acc, a1, a2, mk10⟩ := mk9.app hD rv9
              have hm : D ∈ ι9.hd := by rw [mk9.hd]; exact List.mem_cons_self
              have hlt9 : (ws ++ ws1).length < total.length := by
                rw [← ht, ← ht6]; simp <;> omega
              refine ⟨acc, a1, by omega, ι9, S7, ws1 ++ [yv], us', (xh8.trans x9.exh).trans (exh_write hm), by rw [← List.append_assoc]; exact mk10, hc7, by rw [← ht6]; simp⟩
            · show if false = true then _ else _; rw [if_neg Bool.false_ne_true]
              exact ⟨ι8, S7, ws1, us', xh8, mk8, hc7, by rw [← ht6]; rfl⟩
        · left
          have e1 : j = xs1.length := by omega
          subst e1
          rw [List.drop_length] at hc6
          obtain ⟨hs1, rfl, rfl⟩ := compL_nil hc6
          obtain ⟨hst1, _⟩ := wk1 Hd ι6 _ xh6 mk6.rs hs1 xs1.length
          rw [List.append_nil] at ht6
          subst ht6
          exact ⟨hst1 rfl, ι6, _, ws ++ ws1, zs', mk6, hc', by rw [← ht]; simp⟩
      · show if false = true then _ else _; rw [if_neg Bool.false_ne_true]
        exact ⟨ι4, S3, ws, zs', mk4, hc', by rw [← ht]; rfl⟩
  · left
    have e : i = xs.length := by omega
    subst e
    rw [List.drop_length] at hc
    obtain ⟨hs, rfl, rfl⟩ := compL_nil hc
    obtain ⟨hst, _⟩ := wk Hc ι2 _ mk.xh mk.rs hs xs.length
    refine ⟨hst rfl, ?_⟩
    rw [List.append_nil] at ht
    subst ht
    exact mk.fin (xs := xs) x1 hD rs1 q
end
end TZ

set_option Elab.async false
set_option linter.all false
set_option maxRecDepth 100000
/-! A12: statements. -/
namespace TZ
open PySem L2 StX PyProof.Rows

section
variable (w : World) (K : PySem.W.Frag) (fa : Nat → Option Addr)
/-- what is owed behind a statement -/
def Owed (D : Ends) (ι : Pls) (H : Hp) (fl : Fl) (ρ' : Rho) (S' : Sto) : Prop := ∀ H' ι' σ', Ext ι H ι' H' → RS w K fa H' ι' S' → RR w K fa H' ι' ρ' σ' → match fl with
  | .nx => D.nx σ' H'
  | .brk => D.bk σ' H'
  | .cont => D.ct σ' H'
  | .ret a => ∀ v, RV w K fa H' ι' a v → D.rt v H'
abbrev StF := Rho → Sto → Option (Fl × Rho × Sto)
def rC (f : StF) : TS := fun D σ H => ∃ ι ρ S fl ρ' S', RS w K fa H ι S ∧ RR w K fa H ι ρ σ ∧ f ρ S = some (fl, ρ', S') ∧ Owed w K fa D ι H fl ρ' S'
/-- a target: what it leaves -/
abbrev TgF := W → Rho → Sto → Option (Rho × Sto)
def rT (f : TgF) : TG := fun v σ H Q => ∃ ι ρ S a ρ' S', RS w K fa H ι S ∧ RR w K fa H ι ρ σ ∧ RV w K fa H ι a v ∧ f a ρ S = some (ρ', S') ∧ ∀ H' ι' σ', Ext ι H ι' H' → RS w K fa H' ι' S' → RR w K fa H' ι' ρ' σ' → Q σ' H'
abbrev TgsF := List W → Rho → Sto → Option (Rho × Sto)
def rTs (f : TgsF) : TGs := fun vs σ H Q => ∃ ι ρ S as ρ' S', RS w K fa H ι S ∧ RR w K fa H ι ρ σ ∧ RVs w K fa H ι as vs ∧ f as ρ S = some (ρ', S') ∧ ∀ H' ι' σ', Ext ι H ι' H' → RS w K fa H' ι' S' → RR w K fa H' ι' ρ' σ' → Q σ' H'
end
section
variable {w : World} {K : PySem.W.Frag} {fa : Nat → Option Addr}
theorem Owed.mono {D : Ends} {ι ι1 : Pls} {H H1 : Hp} {fl : Fl} {ρ' : Rho} {S' : Sto} (h : Owed w K fa D ι H fl ρ' S') (x : Ext ι H ι1 H1) : Owed w K fa D ι1 H1 fl ρ' S' :=
  fun H' ι' σ' y rs rr => h H' ι' σ' (x.trans y) rs rr
end

section
variable {X : Cx} {fa : Nat → Option Addr} {gc : Nat → W} {cf : Nat → List W → M W} {pos : Pos}
/-! ### targets -/
theorem t_nm {i : Nat} {x : Str} (hN : X.N.Nodup) (hi : X.N[i]? = some x) (hx : Loc X.env.scope x) (hf : X.fn x = true ∨ X.env.scope.names.lookup x = some .local) : PG X (.Name x pos) (rT X.w X.K fa (T.put gc cf (.nm i))) :=
  PGimp (pg_name hN hi hx hf) fun v σ H Q ⟨ι, ρ, S, a, ρ', S', rs, rr, rv, hp, q⟩ => by
    have e : some (ρ.set i (some a), S) = some (ρ', S') := by simpa only [T.put] using hp
    cases e
    exact q H ι _ (Ext.refl _ _) rs (rr.set rv i)
theorem ts_nil : PGs X [] (rTs X.w X.K fa (T.puts gc cf .nil)) := PGsimp pgs_nil fun vs σ H Q ⟨ι, ρ, S, as, ρ', S', rs, rr, rv, hp, q⟩ => by
  cases as with
  | nil =>
    have e : some (ρ, S) = some (ρ', S') := by simpa only [T.puts] using hp
    cases e
    exact ⟨rv.nil_inv, q H ι σ (Ext.refl _ _) rs rr⟩
  | cons a as => simp [T.puts] at hp
theorem ts_cons {e : Expr} {es : List Expr} {p ps : T} (hs : isStar e = false) (h1 : PG X e (rT X.w X.K fa (T.put gc cf p))) (h2 : PGs X es (rTs X.w X.K fa (T.puts gc cf ps))) : PGs X (e :: es) (rTs X.w X.K fa (T.puts gc cf (.cons p ps))) :=
  PGsimp (pgs_cons h1 h2 (by rw [each_cons hs]; rfl)) fun vs σ H Q ⟨ι, ρ, S, as, ρ', S', rs, rr, rv, hp, q⟩ => by
    cases as with
    | nil => simp [T.puts] at hp
    | cons a as =>
      obtain ⟨v, vs', rfl, r1, r2⟩ := rv.cons_inv
      simp only [T.puts] at hp
      split at hp
      · rename_i ρ1 S1 h1
        exact ⟨v, vs', rfl, ι, ρ, S, a, ρ1, S1, rs, rr, r1, h1, fun H1 ι1 σ1 x1 rs1 rr1 => ⟨ι1, ρ1, S1, as, ρ', S', rs1, rr1, r2.mono x1, hp, fun H2 ι2 σ2 x2 rs2 rr2 => q H2 ι2 σ2 (x1.trans x2) rs2 rr2⟩⟩
      · cases hp
def T.size : T → Nat
  | .cons _ ps => ps.size + 1
  | _ => 0
theorem tputs_size : ∀ (p : T) (as : List W) (ρ ρ' : Rho) (S S' : Sto), T.puts gc cf p as ρ S = some (ρ', S') → as.length = p.size
  | .nil, as, ρ, ρ', S, S', h => by cases as with | nil => rfl | cons a as => simp [T.puts] at h
  | .cons p ps, as, ρ, ρ', S, S', h => by
    cases as with
    | nil => simp [T.puts] at h
    | cons a as =>
      simp only [T.puts] at h
      split at h
      · simp [T.size, tputs_size ps as _ _ _ _ h]
      · cases h
  | .nm i, as, ρ, ρ', S, S', h => by cases as <;> simp [T.puts] at h
  | .tp p, as, ρ, ρ', S, S', h => by cases as <;> simp [T.puts] at h
  | .sub p i, as, ρ, ρ', S, S', h => by cases as <;> simp [T.puts] at h
theorem t_tp {es : List Expr} {k : Nat} {ps : T} (hc : X.calm = true) (hs : es.any isStar = false) (hl : es.length = ps.size) (h : PGs X es (rTs X.w X.K fa (T.puts gc cf ps))) : PG X (.Tuple es k pos) (rT X.w X.K fa (T.put gc cf (.tp ps))) :=
  PGimp (pg_tup (n := es.length) hc h (each_len _ _) (each_no _ _ hs)) fun v σ H Q ⟨ι, ρ, S, a, ρ', S', rs, rr, rv, hp, q⟩ => by
    cases a with
    | tup as =>
      simp only [T.put] at hp
      obtain ⟨p, vs, e, t, r⟩ := rv_tup' rv
      exact ⟨p, vs, e, t, by rw [← r.length, hl]; exact tputs_size _ _ _ _ _ _ hp, ι, ρ, S, as, ρ', S', rs, rr, r, hp, q⟩
    | _ => simp [T.put] at hp
theorem t_sub {o i : Expr} {o' i' : E} (hu : X.A.units + 65 < cLine) (hsl : isSlice i = false) (ho : PE X o (rV X.w X.K fa (den gc cf o').v)) (hi : PE X i (rV X.w X.K fa (den gc cf i').v)) : PG X (.Subscript o i pos) (rT X.w X.K fa (T.put gc cf (.sub o' i'))) :=
  PGimp (pg_sub ho hi (s_set (fa := fa) hu) (by intro v; cases i <;> first | rfl | cases hsl)) fun v σ H Q ⟨ι, ρ, S, a, ρ', S', rs, rr, rv, hp, q⟩ => by
    simp only [T.put] at hp
    split at hp
    · rename_i ow S1 h1
      split at hp
      · rename_i iw S2 h2
        split at hp
        · rename_i u S3 h3
          cases hp
          exact ⟨ι, ρ, S, ow, S1, rs, rr, h1, fun v1 H1 ι1 x1 rs1 rv1 => ⟨ι1, ρ, S1, iw, S2, rs1, rr.mono x1, h2, fun v2 H2 ι2 x2 rs2 rv2 =>
            ⟨ι2, S2, ow, iw, a, S', rs2, rv1.mono x2, rv2, (rv.mono x1).mono x2, h3, fun H3 ι3 x3 rs3 => q H3 ι3 σ ((x1.trans x2).trans x3) rs3 (((rr.mono x1).mono x2).mono x3)⟩⟩⟩
        · cases hp
      · cases hp
    · cases hp

/-! ### statements -/
theorem c_skip {s : Stmt} (h : PS X s tNext) : PS X s (rC X.w X.K fa (run gc cf .skip)) := PSimp h fun D σ H ⟨ι, ρ, S, fl, ρ', S', rs, rr, hm, q⟩ => by
  have e : some (Fl.nx, ρ, S) = some (fl, ρ', S') := hm
  cases e
  exact q H ι σ (Ext.refl _ _) rs rr
theorem cs_nil : PSs X [] (rC X.w X.K fa (run gc cf .skip)) := PSsimp pss_nil fun D σ H ⟨ι, ρ, S, fl, ρ', S', rs, rr, hm, q⟩ => by
  have e : some (Fl.nx, ρ, S) = some (fl, ρ', S') := hm
  cases e
  exact q H ι σ (Ext.refl _ _) rs rr
theorem c_brk {p : Pos} : PS X (.Break p) (rC X.w X.K fa (run gc cf .brk)) := PSimp ps_break fun D σ H ⟨ι, ρ, S, fl, ρ', S', rs, rr, hm, q⟩ => by
  have e : some (Fl.brk, ρ, S) = some (fl, ρ', S') := hm
  cases e
  exact q H ι σ (Ext.refl _ _) rs rr
theorem c_cont {p : Pos} : PS X (.Continue p) (rC X.w X.K fa (run gc cf .cont)) := PSimp ps_continue fun D σ H ⟨ι, ρ, S, fl, ρ', S', rs, rr, hm, q⟩ => by
  have e : some (Fl.cont, ρ, S) = some (fl, ρ', S') := hm
  cases e
  exact q H ι σ (Ext.refl _ _) rs rr
theorem c_seq {s : Stmt} {r : List Stmt} {a b : C} (h1 : PS X s (rC X.w X.K fa (run gc cf a))) (h2 : PSs X r (rC X.w X.K fa (run gc cf b))) : PSs X (s :: r) (rC X.w X.K fa (run gc cf (.seq a b))) :=
  PSsimp (pss_cons h1 h2) fun D σ H ⟨ι, ρ, S, fl, ρ', S', rs, rr, hm, q⟩ => by
    simp only [run] at hm
    split at hm
    · rename_i ρ1 S1 h1
      exact ⟨ι, ρ, S, .nx, ρ1, S1, rs, rr, h1, fun H1 ι1 σ1 x1 rs1 rr1 => ⟨ι1, ρ1, S1, fl, ρ', S', rs1, rr1, hm, q.mono x1⟩⟩
    · rename_i hno
      refine ⟨ι, ρ, S, fl, ρ', S', rs, rr, hm, fun H1 ι1 σ1 x1 rs1 rr1 => ?_⟩
      have := q H1 ι1 σ1 x1 rs1 rr1
      cases fl with
      | nx => exact absurd hm (hno _ _)
      | brk => exact this
      | cont => exact this
      | ret a => exact this
theorem c_expr {e : Expr} {e' : E} {p : Pos} (h : PE X e (rV X.w X.K fa (den gc cf e').v)) (hs : swapsWith e none p.line X.env = pure false) : PS X (.Expr e p) (rC X.w X.K fa (run gc cf (.expr e'))) :=
  PSimp (ps_expr h hs) fun D σ H ⟨ι, ρ, S, fl, ρ', S', rs, rr, hm, q⟩ => by
    simp only [run] at hm
    split at hm
    · rename_i a S1 h1
      cases hm
      exact ⟨ι, ρ, S, a, _, rs, rr, h1, fun v H1 ι1 x1 rs1 rv1 => q H1 ι1 σ x1 rs1 (rr.mono x1)⟩
    · cases hm
theorem asg_read {t : T} {e' : E} (D : Ends) (σ : L2.St) (H : Hp) (h : rC X.w X.K fa (run gc cf (.asg t e')) D σ H) : tAsg (rV X.w X.K fa (den gc cf e').v) (rT X.w X.K fa (T.put gc cf t)) D σ H := by
  obtain ⟨ι, ρ, S, fl, ρ', S', rs, rr, hm, q⟩ := h
  simp only [run] at hm
  split at hm
  · rename_i a S1 h1
    split at hm
    · rename_i ρ2 S2 h2
      cases hm
      exact ⟨ι, ρ, S, a, S1, rs, rr, h1, fun v H1 ι1 x1 rs1 rv1 => ⟨ι1, ρ, S1, a, _, _, rs1, rr.mono x1, rv1, h2, fun H2 ι2 σ2 x2 rs2 rr2 => q H2 ι2 σ2 (x1.trans x2) rs2 rr2⟩⟩
    · cases hm
  · cases hm
theorem c_asg {tg e : Expr} {t : T} {e' : E} {p : Pos} (he : PE X e (rV X.w X.K fa (den gc cf e').v)) (ht : PG X tg (rT X.w X.K fa (T.put gc cf t))) (hst : isStar tg = false) (hs : swapsWithSole [tg] e p.line X.env = pure false) (hw : swappedStores [tg] e X.env = pure none) :
    PS X (.Assign [tg] e p) (rC X.w X.K fa (run gc cf (.asg t e'))) := PSimp (ps_asg he ht hs hw (by rw [each_cons hst]; rfl)) fun D σ H h => asg_read D σ H h
theorem asg_name {i : Nat} {e' : E} {te : TE} (hte : ∀ σ H Q, rV X.w X.K fa (den gc cf e').v σ H Q → te σ H Q) (D : Ends) (σ : L2.St) (H : Hp) (h : rC X.w X.K fa (run gc cf (.asg (.nm i) e')) D σ H) : tAsg te (gName i) D σ H := by
  obtain ⟨ι, ρ, S, fl, ρ', S', rs, rr, hm, q⟩ := h
  simp only [run, T.put] at hm
  split at hm
  · rename_i a S1 h1
    cases hm
    exact hte σ H _ ⟨ι, ρ, S, a, _, rs, rr, h1, fun v H1 ι1 x1 rs1 rv1 => q H1 ι1 _ x1 rs1 ((rr.mono x1).set rv1 i)⟩
  · cases hm
theorem par_read2 {i j : Nat} {es : E} (D : Ends) (σ : L2.St) (H : Hp) (h : rC X.w X.K fa (run gc cf (.asg (.tp (.cons (.nm i) (.cons (.nm j) .nil))) (.tup es))) D σ H) : tPar i j (rA X.w X.K fa (den gc cf es).a) D σ H := by
  obtain ⟨ι, ρ, S, fl, ρ', S', rs, rr, hm, q⟩ := h
  simp only [run] at hm
  split at hm
  · rename_i a S1 h1
    have h1 : (do let ws ← (den gc cf es).a ρ; M.fits ws.length; pure (W.tup ws) : M W) S = some (a, S1) := h1
    obtain ⟨ws, S2, h2, h3⟩ := bindM h1
    obtain ⟨_, S3, h4, h5⟩ := bindM h3
    obtain ⟨rfl, rfl⟩ := retM h5
    obtain ⟨_, e4⟩ := grdM h4
    subst e4
    split at hm
    · rename_i ρ2 S4 h6
      cases hm
      simp only [T.put] at h6
      match ws, h6 with
      | [a, b], h6 =>
        have e : some ((ρ.set i (some a)).set j (some b), S1) = some (ρ', S') := by simpa only [T.puts, T.put] using h6
        cases e
        refine ⟨ι, ρ, S, [a, b], _, rs, rr, h2, fun vs H1 ι1 x1 rs1 rv1 => ?_⟩
        obtain ⟨v1, r1, rfl, q1, q2⟩ := rv1.cons_inv
        obtain ⟨v2, r2, rfl, q3, q4⟩ := q2.cons_inv
        obtain rfl := q4.nil_inv
        exact ⟨v1, v2, rfl, q H1 ι1 _ x1 rs1 (((rr.mono x1).set q1 i).set q3 j)⟩
      | [], h6 => simp [T.puts] at h6
      | [a], h6 => simp [T.puts, T.put] at h6
      | a :: b :: c :: r, h6 => simp [T.puts, T.put] at h6
    · cases hm
  · cases hm
theorem par_read3 {i j k : Nat} {es : E} (D : Ends) (σ : L2.St) (H : Hp) (h : rC X.w X.K fa (run gc cf (.asg (.tp (.cons (.nm i) (.cons (.nm j) (.cons (.nm k) .nil)))) (.tup es))) D σ H) : tPar3 i j k (rA X.w X.K fa (den gc cf es).a) D σ H := by
  obtain ⟨ι, ρ, S, fl, ρ', S', rs, rr, hm, q⟩ := h
  simp only [run] at hm
  split at hm
  · rename_i a S1 h1
    have h1 : (do let ws ← (den gc cf es).a ρ; M.fits ws.length; pure (W.tup ws) : M W) S = some (a, S1) := h1
    obtain ⟨ws, S2, h2, h3⟩ := bindM h1
    obtain ⟨_, S3, h4, h5⟩ := bindM h3
    obtain ⟨rfl, rfl⟩ := retM h5
    obtain ⟨_, e4⟩ := grdM h4
    subst e4
    split at hm
    · rename_i ρ2 S4 h6
      cases hm
      simp only [T.put] at h6
      match ws, h6 with
      | [a, b, c], h6 =>
        have e : some (((ρ.set i (some a)).set j (some b)).set k (some c), S1) = some (ρ', S') := by simpa only [T.puts, T.put] using h6
        cases e
        refine ⟨ι, ρ, S, [a, b, c], _, rs, rr, h2, fun vs H1 ι1 x1 rs1 rv1 => ?_⟩
        obtain ⟨v1, r1, rfl, q1, q2⟩ := rv1.cons_inv
        obtain ⟨v2, r2, rfl, q3, q4⟩ := q2.cons_inv
        obtain ⟨v3, r3, rfl, q5, q6⟩ := q4.cons_inv
        obtain rfl := q6.nil_inv
        exact ⟨v1, v2, v3, rfl, q H1 ι1 _ x1 rs1 ((((rr.mono x1).set q1 i).set q3 j).set q5 k)⟩
      | [], h6 => simp [T.puts] at h6
      | [a], h6 => simp [T.puts, T.put] at h6
      | [a, b], h6 => simp [T.puts, T.put] at h6
      | a :: b :: c :: d :: r, h6 => simp [T.puts, T.put] at h6
    · cases hm
  · cases hm
theorem c_ite {c : Expr} {a b : List Stmt} {c' : E} {a' b' : C} {p : Pos} (hc : PT X c (rB X.w X.K fa fun ρ => truth ((den gc cf c').v ρ))) (ha : PSs X a (rC X.w X.K fa (run gc cf a'))) (hb : PSs X b (rC X.w X.K fa (run gc cf b'))) : PS X (.If c a b p) (rC X.w X.K fa (run gc cf (.ite c' a' b'))) :=
  PSimp (ps_if hc ha hb) fun D σ H ⟨ι, ρ, S, fl, ρ', S', rs, rr, hm, q⟩ => by
    simp only [run] at hm
    split at hm
    · rename_i S1 h1
      exact ⟨ι, ρ, S, true, S1, rs, rr, h1, fun H1 ι1 x1 rs1 => by show if true = true then _ else _; rw [if_pos rfl]; exact ⟨ι1, ρ, S1, fl, ρ', S', rs1, rr.mono x1, hm, q.mono x1⟩⟩
    · rename_i S1 h1
      exact ⟨ι, ρ, S, false, S1, rs, rr, h1, fun H1 ι1 x1 rs1 => by show if false = true then _ else _; rw [if_neg Bool.false_ne_true]; exact ⟨ι1, ρ, S1, fl, ρ', S', rs1, rr.mono x1, hm, q.mono x1⟩⟩
    · cases hm
theorem c_ret {e : Expr} {e' : E} {p : Pos} (h : PE X e (rV X.w X.K fa (den gc cf e').v)) : PS X (.Return (some e) p) (rC X.w X.K fa (run gc cf (.ret e'))) :=
  PSimp (ps_ret h) fun D σ H ⟨ι, ρ, S, fl, ρ', S', rs, rr, hm, q⟩ => by
    simp only [run] at hm
    split at hm
    · rename_i a S1 h1
      cases hm
      exact ⟨ι, ρ, S, a, _, rs, rr, h1, fun v H1 ι1 x1 rs1 rv1 => q H1 ι1 σ x1 rs1 (rr.mono x1) v rv1⟩
    · cases hm
theorem c_retN {p : Pos} : PS X (.Return none p) (rC X.w X.K fa (run gc cf (.ret .non))) :=
  PSimp ps_retN fun D σ H ⟨ι, ρ, S, fl, ρ', S', rs, rr, hm, q⟩ => by
    simp only [run] at hm
    have e : some (Fl.ret .non, ρ, S) = some (fl, ρ', S') := hm
    cases e
    exact q H ι σ (Ext.refl _ _) rs rr .non (rv_non.mpr rfl)
theorem c_aug {i : Nat} {x : Str} {e : Expr} {e' : E} {op : Operator} {o : Bop} {p pos' : Pos} (hN : X.N.Nodup) (hi : X.N[i]? = some x) (hx : Loc X.env.scope x) (hf : X.fn x = true ∨ X.env.scope.names.lookup x = some .local) (he : PE X e (rV X.w X.K fa (den gc cf e').v)) (ho : PIp X op (rO2 X.w X.K fa (wBin o))) :
    PS X (.AugAssign (.Name x pos') op e p) (rC X.w X.K fa (run gc cf (.aug i o e'))) :=
  PSimp (ps_aug hN hi hx he ho hf) fun D σ H ⟨ι, ρ, S, fl, ρ', S', rs, rr, hm, q⟩ => by
    simp only [run] at hm
    split at hm
    · rename_i xw hρ
      split at hm
      · rename_i y S1 h1
        split at hm
        · rename_i z S2 h2
          cases hm
          obtain ⟨v, e1, rv⟩ := rr.at_ i _ hρ
          exact ⟨v, e1, ι, ρ, S, y, S1, rs, rr, h1, fun v1 H1 ι1 x1 rs1 rv1 => ⟨ι1, S1, xw, y, z, S', rs1, rv.mono x1, rv1, h2, fun v2 H2 ι2 x2 rs2 rv2 => q H2 ι2 _ (x1.trans x2) rs2 (((rr.mono x1).mono x2).set rv2 i)⟩⟩
        · cases hm
      · cases hm
    · cases hm

/-! ### loops -/
theorem whileL_step {c : Rho → M Bool} {f : StF} {n : Nat} {ρ ρ' : Rho} {S S' : Sto} {fl : Fl} (h : whileL c f (n + 1) ρ S = some (fl, ρ', S')) : ∃ b S1, c ρ S = some (b, S1) ∧ ((b = false ∧ fl = .nx ∧ ρ' = ρ ∧ S' = S1) ∨
    (b = true ∧ ∃ fl1 ρ2 S2, f ρ S1 = some (fl1, ρ2, S2) ∧ match fl1 with
      | .nx => whileL c f n ρ2 S2 = some (fl, ρ', S')
      | .cont => whileL c f n ρ2 S2 = some (fl, ρ', S')
      | .brk => fl = .nx ∧ ρ' = ρ2 ∧ S' = S2
      | .ret a => fl = .ret a ∧ ρ' = ρ2 ∧ S' = S2)) := by
  simp only [whileL] at h
  split at h
  · rename_i S1 h1
    refine ⟨true, S1, h1, .inr ⟨rfl, ?_⟩⟩
    cases e : f ρ S1 with
    | none => rw [e] at h; cases h
    | some p =>
      obtain ⟨fl1, ρ2, S2⟩ := p
      rw [e] at h
      cases fl1 with
      | nx => exact ⟨.nx, ρ2, S2, rfl, h⟩
      | cont => exact ⟨.cont, ρ2, S2, rfl, h⟩
      | brk => simp only at h; cases h; exact ⟨.brk, _, _, rfl, rfl, rfl, rfl⟩
      | ret a => simp only at h; cases h; exact ⟨.ret a, _, _, rfl, rfl, rfl, rfl⟩
  · rename_i S1 h1
    cases h
    exact ⟨false, _, h1, .inl ⟨rfl, rfl, rfl, rfl⟩⟩
  · cases h
theorem c_whl {c : Expr} {a : List Stmt} {c' : E} {a' : C} {p : Pos} (hp : PassesOwn (model X.prog X.w) X.A X.env X.xe) (hc : PT X c (rB X.w X.K fa fun ρ => truth ((den gc cf c').v ρ))) (ha : PSs X a (rC X.w X.K fa (run gc cf a'))) :
    PS X (.While c a [] p) (rC X.w X.K fa (run gc cf (.whl c' a'))) :=
  PSimp (ps_while hp hc ha) fun D σ H ⟨ι, ρ, S, fl, ρ', S', rs, rr, hm, q⟩ => by
    simp only [run] at hm
    refine ⟨fun n σ H => ∃ ι1 ρ1 S1, RS X.w X.K fa H ι1 S1 ∧ RR X.w X.K fa H ι1 ρ1 σ ∧ whileL (fun ρ => truth ((den gc cf c').v ρ)) (fun ρ S => run gc cf a' ρ S) n ρ1 S1 = some (fl, ρ', S') ∧ Owed X.w X.K fa D ι1 H fl ρ' S', ⟨turns, ι, ρ, S, rs, rr, hm, q⟩, ?_⟩
    rintro n σ1 H1 ⟨ι1, ρ1, S1, rs1, rr1, hw, q1⟩
    cases n with
    | zero => cases hw
    | succ n =>
      obtain ⟨b, S2, hb, hcase⟩ := whileL_step hw
      refine ⟨ι1, ρ1, S1, b, S2, rs1, rr1, hb, fun H2 ι2 x2 rs2 => ?_⟩
      rcases hcase with ⟨rfl, rfl, rfl, rfl⟩ | ⟨rfl, fl1, ρ2, S3, hf, hnext⟩
      · rw [if_neg Bool.false_ne_true]
        exact q1 H2 ι2 σ1 x2 rs2 (rr1.mono x2)
      · rw [if_pos rfl]
        refine ⟨fun σ3 H3 => ∃ ι3 ρ3 S3, RS X.w X.K fa H3 ι3 S3 ∧ RR X.w X.K fa H3 ι3 ρ3 σ3 ∧ whileL (fun ρ => truth ((den gc cf c').v ρ)) (fun ρ S => run gc cf a' ρ S) n ρ3 S3 = some (fl, ρ', S') ∧ Owed X.w X.K fa D ι3 H3 fl ρ' S', fun σ3 H3 p => ⟨n, Nat.lt_succ_self n, p⟩, ?_⟩
        refine ⟨ι2, ρ1, S2, fl1, ρ2, S3, rs2, rr1.mono x2, hf, fun H3 ι3 σ3 x3 rs3 rr3 => ?_⟩
        cases fl1 with
        | nx => exact ⟨ι3, ρ2, S3, rs3, rr3, hnext, q1.mono (x2.trans x3)⟩
        | cont => exact ⟨ι3, ρ2, S3, rs3, rr3, hnext, q1.mono (x2.trans x3)⟩
        | brk =>
          obtain ⟨rfl, rfl, rfl⟩ := hnext
          exact q1 H3 ι3 σ3 (x2.trans x3) rs3 rr3
        | ret a =>
          obtain ⟨rfl, rfl, rfl⟩ := hnext
          exact q1 H3 ι3 σ3 (x2.trans x3) rs3 rr3
theorem forL_nil {src : List (Nat × Ob)} {t : P} {f : StF} {ρ ρ' : Rho} {S S' : Sto} {fl : Fl} (h : forL src t f [] ρ S = some (fl, ρ', S')) : stands S src = true ∧ fl = .nx ∧ ρ' = ρ ∧ S' = S := by
  simp only [forL] at h
  split at h
  · cases h; exact ⟨by assumption, rfl, rfl, rfl⟩
  · cases h
theorem forL_cons {src : List (Nat × Ob)} {t : P} {f : StF} {x : W} {xs : List W} {ρ ρ' : Rho} {S S' : Sto} {fl : Fl} (h : forL src t f (x :: xs) ρ S = some (fl, ρ', S')) : stands S src = true ∧ ∃ ρ1 fl1 ρ2 S2, P.put t x ρ = some ρ1 ∧ f ρ1 S = some (fl1, ρ2, S2) ∧ match fl1 with
      | .nx => forL src t f xs ρ2 S2 = some (fl, ρ', S')
      | .cont => forL src t f xs ρ2 S2 = some (fl, ρ', S')
      | .brk => fl = .nx ∧ ρ' = ρ2 ∧ S' = S2
      | .ret a => fl = .ret a ∧ ρ' = ρ2 ∧ S' = S2 := by
  simp only [forL] at h
  split at h
  · rename_i hs
    refine ⟨hs, ?_⟩
    cases e0 : P.put t x ρ with
    | none => rw [e0] at h; cases h
    | some ρ1 =>
      rw [e0] at h
      simp only at h
      cases e : f ρ1 S with
      | none => rw [e] at h; cases h
      | some p =>
        obtain ⟨fl1, ρ2, S2⟩ := p
        rw [e] at h
        cases fl1 with
        | nx => exact ⟨ρ1, .nx, ρ2, S2, rfl, e, h⟩
        | cont => exact ⟨ρ1, .cont, ρ2, S2, rfl, e, h⟩
        | brk => simp only at h; cases h; exact ⟨ρ1, .brk, _, _, rfl, e, rfl, rfl, rfl⟩
        | ret a => simp only at h; cases h; exact ⟨ρ1, .ret a, _, _, rfl, e, rfl, rfl, rfl⟩
  · cases h
theorem c_for {tg iter : Expr} {a : List Stmt} {t : P} {it : E} {a' : C} {p : Pos} (hp : PassesOwn (model X.prog X.w) X.A X.env X.xe) (hc : X.calm = true) (hi : PI X tg iter (rI X.w X.K fa (den gc cf it).it)) (hg : PG X tg (rP X.w X.K fa t)) (ha : PSs X a (rC X.w X.K fa (run gc cf a')))
    (hs : ∀ x, foldedSetIterable iter X.env x = pure x) : PS X (.For tg iter a [] p) (rC X.w X.K fa (run gc cf (.for_ t it a'))) :=
  PSimp (ps_for hp hc hi hg ha hs) fun D σ H ⟨ι, ρ, S, fl, ρ', S', rs, rr, hm, q⟩ => by
    simp only [run] at hm
    split at hm
    · rename_i xs src S1 h1
      refine ⟨ι, ρ, S, xs, src, S1, rs, rr, h1, fun J H1 ι1 x1 rs1 hlen wk => ?_⟩
      refine ⟨fun i m σ2 Hc => m = xs.length - i ∧ i ≤ xs.length ∧ ∃ ι2 ρ2 S2, Ext ι1 H1 ι2 Hc ∧ RS X.w X.K fa Hc ι2 S2 ∧ RR X.w X.K fa Hc ι2 ρ2 σ2 ∧ forL src t (fun ρ S => run gc cf a' ρ S) (xs.drop i) ρ2 S2 = some (fl, ρ', S'),
        ⟨xs.length, by simp, Nat.zero_le _, ι1, ρ, S1, Ext.refl _ _, rs1, rr.mono x1, by simpa using hm⟩, ?_⟩
      rintro i m σ2 Hc ⟨rfl, hi, ι2, ρ2, S2, xt, rs2, rr2, hf⟩
      by_cases hlt : i < xs.length
      · right
        have hx : xs[i]? = some xs[i] := List.getElem?_eq_getElem hlt
        rw [List.drop_eq_getElem_cons hlt] at hf
        obtain ⟨hst, ρ3, fl1, ρ4, S4, hput, hrun, hnext⟩ := forL_cons hf
        obtain ⟨_, hw⟩ := wk Hc ι2 S2 xt.exh rs2 hst i
        obtain ⟨hgo, hy⟩ := hw _ hx
        refine ⟨hgo, fun σ4 H4 => i + 1 ≤ xs.length ∧ ∃ ι4 ρ4 S4, Ext ι1 H1 ι4 H4 ∧ RS X.w X.K fa H4 ι4 S4 ∧ RR X.w X.K fa H4 ι4 ρ4 σ4 ∧ forL src t (fun ρ S => run gc cf a' ρ S) (xs.drop (i + 1)) ρ4 S4 = some (fl, ρ', S'), fun σ4 H4 p => ⟨xs.length - (i + 1), by omega, rfl, p⟩, fun x H3 y => ?_⟩
        obtain ⟨ι3, x3, rs3, rv3⟩ := hy x H3 y
        refine ⟨ι3, ρ2, S2, xs[i], ρ3, rs3, rr2.mono x3, rv3, hput, fun σ3 rr3 sw => ?_⟩
        refine ⟨ι3, ρ3, S2, fl1, ρ4, S4, rs3, rr3, hrun, fun H4 ι4 σ4 x4 rs4 rr4 => ?_⟩
        have x14 := (xt.trans x3).trans x4
        cases fl1 with
        | nx => exact ⟨hlt, ι4, ρ4, S4, x14, rs4, rr4, hnext⟩
        | cont => exact ⟨hlt, ι4, ρ4, S4, x14, rs4, rr4, hnext⟩
        | brk =>
          obtain ⟨rfl, rfl, rfl⟩ := hnext
          exact q H4 ι4 σ4 (x1.trans x14) rs4 rr4
        | ret a =>
          obtain ⟨rfl, rfl, rfl⟩ := hnext
          exact q H4 ι4 σ4 (x1.trans x14) rs4 rr4
      · left
        have e : i = xs.length := by omega
        subst e
        rw [List.drop_length] at hf
        obtain ⟨hst, rfl, rfl, rfl⟩ := forL_nil hf
        obtain ⟨hstop, _⟩ := wk Hc ι2 _ xt.exh rs2 hst xs.length
        exact ⟨hstop rfl, q Hc ι2 σ2 (x1.trans xt) rs2 rr2⟩
    · cases hm
end
end TZ

set_option Elab.async false
set_option linter.all false
set_option maxRecDepth 100000
/-! A13: built-in functions. -/
namespace TZ
open PySem L2 StX PyProof.Rows

section
variable {X : Cx} {fa : Nat → Option Addr}
theorem b_len : CallR X (.builtin "len") (rCl X.w X.K fa bLen) := by
  rintro pins s σ H xs us Q I rxs ⟨ι, S, as, c, S', rs, ras, hg, q⟩
  unfold bLen at hg
  split at hg
  · rename_i z
    cases hg
    obtain ⟨v, vs, rfl, r, r2⟩ := ras.cons_inv
    obtain rfl := r2.nil_inv
    rw [rv_str] at r
    obtain ⟨rfl, hz⟩ := r
    exact call_len_str pins s σ H _ us Q I rxs ⟨_, rfl, litOk_len hz, q.here rs (rv_int.mpr rfl)⟩
  · rename_i w _
    split at hg
    · rename_i ws hw
      cases hg
      obtain ⟨v, vs, rfl, r, r2⟩ := ras.cons_inv
      obtain rfl := r2.nil_inv
      obtain ⟨p, vs, rfl, hq, r'⟩ := seqOf_rv rs hw r
      refine call_len_seq pins s σ H _ us Q I rxs ⟨p, vs, rfl, hq.symm, ?_⟩
      rw [← r'.length]
      exact q.here rs (rv_int.mpr rfl)
    · cases hg
  · cases hg
theorem b_list : CallR X (.type "list") (rCl X.w X.K fa bList) := by
  rintro pins s σ H xs us Q I rxs ⟨ι, S, as, c, S', rs, ras, hg, q⟩
  unfold bList at hg
  split at hg
  · rename_i w
    split at hg
    · rename_i ws hw
      have e : some (W.ref S.length, S ++ [Ob.lst ws]) = some (c, S') := hg
      cases e
      obtain ⟨v, vs, rfl, r, r2⟩ := ras.cons_inv
      obtain rfl := r2.nil_inv
      obtain ⟨p, vs, rfl, hq, r'⟩ := seqOf_rv rs hw r
      exact call_list_of pins s σ H _ us Q I rxs ⟨p, vs, rfl, hq.symm, fun l hl => q.push_lst rs r' hl⟩
    · cases hg
  · cases hg
theorem b_tuple : CallR X (.type "tuple") (rCl X.w X.K fa bTuple) := by
  rintro pins s σ H xs us Q I rxs ⟨ι, S, as, c, S', rs, ras, hg, q⟩
  unfold bTuple at hg
  split at hg
  · rename_i w
    split at hg
    · rename_i ws hw
      cases hg
      obtain ⟨v, vs, rfl, r, r2⟩ := ras.cons_inv
      obtain rfl := r2.nil_inv
      cases hl : listOf S w with
      | some ws' =>
        have e0 := listOf_seq hl
        rw [hw] at e0; cases e0
        obtain ⟨p, vs, rfl, hq, r'⟩ := listOf_rv rs hl r
        exact call_tuple_of pins s σ H _ us Q I rxs ⟨p, vs, rfl, .inl ⟨hq, fun l hl => q.new_tup rs r' hl⟩⟩
      | none =>
        cases w with
        | tup ws' =>
          cases hw
          obtain ⟨p, vs, rfl, hq, r'⟩ := rv_tup' r
          exact call_tuple_of pins s σ H _ us Q I rxs ⟨p, vs, rfl, .inr ⟨hq, q.here rs r⟩⟩
        | lst ws' => cases hl
        | ref n =>
          have hw : listOf S (.ref n) = some _ := hw
          rw [hl] at hw; cases hw
        | _ => cases hw
    · cases hg
  · cases hg
theorem b_max2 (hc : X.calm = true) : CallR X (.builtin "max") (rCl X.w X.K fa bMax2) := by
  rintro pins s σ H xs us Q I rxs ⟨ι, S, as, c, S', rs, ras, hg, q⟩
  unfold bMax2 at hg
  split at hg
  · cases hg
    obtain ⟨v, vs, rfl, r, r2⟩ := ras.cons_inv
    obtain ⟨v', vs', rfl, r', r2'⟩ := r2.cons_inv
    obtain rfl := r2'.nil_inv
    rw [rv_int] at r r'
    subst r r'
    exact call_max2 hc pins s σ H _ us Q I rxs ⟨_, _, rfl, q.here rs (rv_int.mpr rfl)⟩
  · cases hg
theorem b_min2 (hc : X.calm = true) : CallR X (.builtin "min") (rCl X.w X.K fa bMin2) := by
  rintro pins s σ H xs us Q I rxs ⟨ι, S, as, c, S', rs, ras, hg, q⟩
  unfold bMin2 at hg
  split at hg
  · cases hg
    obtain ⟨v, vs, rfl, r, r2⟩ := ras.cons_inv
    obtain ⟨v', vs', rfl, r', r2'⟩ := r2.cons_inv
    obtain rfl := r2'.nil_inv
    rw [rv_int] at r r'
    subst r r'
    exact call_min2 hc pins s σ H _ us Q I rxs ⟨_, _, rfl, q.here rs (rv_int.mpr rfl)⟩
  · cases hg
theorem b_int : CallR X (.type "int") (rCl X.w X.K fa bInt) := by
  rintro pins s σ H xs us Q I rxs ⟨ι, S, as, c, S', rs, ras, hg, q⟩
  unfold bInt at hg
  split at hg
  · cases hg
    obtain ⟨v, vs, rfl, r, r2⟩ := ras.cons_inv
    obtain rfl := r2.nil_inv
    rw [rv_bl] at r
    subst r
    exact call_int1 pins s σ H _ us Q I rxs (.inr ⟨_, rfl, q.here rs (rv_int.mpr rfl)⟩)
  · cases hg
theorem b_bool : CallR X (.type "bool") (rCl X.w X.K fa bBool) := by
  rintro pins s σ H xs us Q I rxs ⟨ι, S, as, c, S', rs, ras, hg, q⟩
  unfold bBool at hg
  split at hg
  · cases hg
    obtain ⟨v, vs, rfl, r, r2⟩ := ras.cons_inv
    obtain rfl := r2.nil_inv
    rw [rv_bl] at r
    subst r
    exact call_bool1 pins s σ H _ us Q I rxs (.inr ⟨_, rfl, q.here rs (rv_bl.mpr rfl)⟩)
  · cases hg
theorem bls_rv {w : World} {K : PySem.W.Frag} {H : Hp} {ι : Pls} : ∀ {ws : List W} {bs : List Bool} {vs : List V}, blsOf ws = some bs → RVs w K fa H ι ws vs → vs = bs.map V.bl
  | [], bs, vs, h, r => by cases h; exact r.nil_inv
  | a :: as, bs, vs, h, r => by
    obtain ⟨v, vs', rfl, r1, r2⟩ := r.cons_inv
    cases a with
    | bl b =>
      simp only [blsOf] at h
      split at h
      · rename_i bs' h1
        cases h
        rw [rv_bl] at r1
        rw [r1, bls_rv h1 r2]; rfl
      · cases h
    | _ => simp [blsOf] at h
theorem ints_rv {w : World} {K : PySem.W.Frag} {H : Hp} {ι : Pls} : ∀ {ws : List W} {bs : List Int} {vs : List V}, intsOf ws = some bs → RVs w K fa H ι ws vs → vs = bs.map V.int
  | [], bs, vs, h, r => by cases h; exact r.nil_inv
  | a :: as, bs, vs, h, r => by
    obtain ⟨v, vs', rfl, r1, r2⟩ := r.cons_inv
    cases a with
    | int b =>
      simp only [intsOf] at h
      split at h
      · rename_i bs' h1
        cases h
        rw [rv_int] at r1
        rw [r1, ints_rv h1 r2]; rfl
      · cases h
    | _ => simp [intsOf] at h
theorem b_all (hc : X.calm = true) : CallR X (.builtin "all") (rCl X.w X.K fa bAll) := by
  rintro pins s σ H xs us Q I rxs ⟨ι, S, as, c, S', rs, ras, hg, q⟩
  unfold bAll at hg
  split at hg
  · rename_i w
    split at hg
    · rename_i bs hb
      cases hg
      obtain ⟨ws, hw, hb⟩ := Option.bind_eq_some_iff.mp hb
      obtain ⟨v, vs, rfl, r, r2⟩ := ras.cons_inv
      obtain rfl := r2.nil_inv
      obtain ⟨p, vs, rfl, hq, r'⟩ := listOf_rv rs hw r
      rw [bls_rv hb r'] at hq
      exact cr_all hc pins s σ H _ us Q I rxs ⟨p, bs, rfl, hq, q.here rs (rv_bl.mpr rfl)⟩
    · cases hg
  · cases hg
theorem b_any (hc : X.calm = true) : CallR X (.builtin "any") (rCl X.w X.K fa bAny) := by
  rintro pins s σ H xs us Q I rxs ⟨ι, S, as, c, S', rs, ras, hg, q⟩
  unfold bAny at hg
  split at hg
  · rename_i w
    split at hg
    · rename_i bs hb
      cases hg
      obtain ⟨ws, hw, hb⟩ := Option.bind_eq_some_iff.mp hb
      obtain ⟨v, vs, rfl, r, r2⟩ := ras.cons_inv
      obtain rfl := r2.nil_inv
      obtain ⟨p, vs, rfl, hq, r'⟩ := listOf_rv rs hw r
      rw [bls_rv hb r'] at hq
      exact cr_any hc pins s σ H _ us Q I rxs ⟨p, bs, rfl, hq, q.here rs (rv_bl.mpr rfl)⟩
    · cases hg
  · cases hg
theorem maxOf_fold : ∀ (xs : List Int) (x : Int), let m := xs.foldl (fun m y => if m < y then y else m) x; x ≤ m ∧ (∀ y ∈ xs, y ≤ m) ∧ (m = x ∨ m ∈ xs)
  | [], x => ⟨Int.le_refl _, ⟨fun _ h => (nomatch h), .inl rfl⟩⟩
  | y :: ys, x => by
    obtain ⟨h1, h2, h3⟩ := maxOf_fold ys (if x < y then y else x)
    simp only [List.foldl_cons]
    have e : x ≤ (if x < y then y else x) ∧ y ≤ (if x < y then y else x) := by split <;> omega
    refine ⟨Int.le_trans e.1 h1, fun z hz => ?_, ?_⟩
    · rcases List.mem_cons.mp hz with e2 | hz
      · rw [e2]; exact Int.le_trans e.2 h1
      · exact h2 z hz
    · rcases h3 with h3 | h3
      · rw [h3]
        split
        · exact .inr List.mem_cons_self
        · exact .inl rfl
      · exact .inr (List.mem_cons_of_mem _ h3)
theorem b_max1 (hc : X.calm = true) : CallR X (.builtin "max") (rCl X.w X.K fa bMax1) := by
  rintro pins s σ H xs us Q I rxs ⟨ι, S, as, c, S', rs, ras, hg, q⟩
  unfold bMax1 at hg
  split at hg
  · rename_i w
    split at hg
    · rename_i is hb
      split at hg
      · rename_i m hm
        cases hg
        obtain ⟨ws, hw, hb⟩ := Option.bind_eq_some_iff.mp hb
        obtain ⟨v, vs, rfl, r, r2⟩ := ras.cons_inv
        obtain rfl := r2.nil_inv
        obtain ⟨p, vs, rfl, hq, r'⟩ := listOf_rv rs hw r
        rw [ints_rv hb r'] at hq
        cases is with
        | nil => cases hm
        | cons i is =>
          cases hm
          obtain ⟨h1, h2, h3⟩ := maxOf_fold is i
          refine cr_max hc pins s σ H _ us Q I rxs ⟨p, _, rfl, hq, by simp, fun m hm hall => ?_⟩
          have e : m = is.foldl (fun m y => if m < y then y else m) i := by
            refine Int.le_antisymm ?_ (hall _ ?_)
            · rcases List.mem_cons.mp hm with rfl | hm
              · exact h1
              · exact h2 m hm
            · rcases h3 with h3 | h3
              · rw [h3]; exact List.mem_cons_self
              · exact List.mem_cons_of_mem _ h3
          rw [e]
          exact q.here rs (rv_int.mpr rfl)
      · cases hg
    · cases hg
  · cases hg

/-! ### isinstance -/
def kindsL (k : Kinds) : List String := (if k.int = true then ["int"] else []) ++ (if k.bool = true then ["bool"] else []) ++ (if k.str = true then ["str"] else []) ++ (if k.list = true then ["list"] else []) ++ (if k.tuple = true then ["tuple"] else [])
/-- the type that a value has -/
theorem ty_of {w : World} {K : PySem.W.Frag} {H : Hp} {ι : Pls} {S : Sto} {a : W} {v : V} {k : Kinds} {b : Bool} {S' : Sto} (rs : RS w K fa H ι S) (r : RV w K fa H ι a v) (h : wIsi k a S = some (b, S')) :
    ∃ T, TyX K H v (.type T) ∧ S' = S ∧ ((T = "NoneType" ∧ b = false) ∨ (T = "bool" ∧ b = (k.bool || k.int)) ∨ (T = "int" ∧ b = k.int) ∨ (T = "str" ∧ b = k.str) ∨ (T = "list" ∧ b = k.list) ∨ (T = "tuple" ∧ b = k.tuple)) := by
  unfold wIsi at h
  split at h
  · cases h; rw [rv_non] at r; subst r; exact ⟨_, .base .non, rfl, .inl ⟨rfl, rfl⟩⟩
  · cases h; rw [rv_bl] at r; subst r; exact ⟨_, .base (.bl _), rfl, .inr (.inl ⟨rfl, rfl⟩)⟩
  · cases h; rw [rv_int] at r; subst r; exact ⟨_, .base (.int _), rfl, .inr (.inr (.inl ⟨rfl, rfl⟩))⟩
  · cases h; rw [rv_str] at r; obtain ⟨rfl, _⟩ := r; exact ⟨_, .base (.str _), rfl, .inr (.inr (.inr (.inl ⟨rfl, rfl⟩)))⟩
  · cases h
    obtain ⟨p, vs, rfl, t, r⟩ := rv_tup.mp r
    refine ⟨"tuple", ?_, rfl, .inr (.inr (.inr (.inr (.inr ⟨rfl, rfl⟩))))⟩
    rcases t with ⟨t | ⟨o, t⟩, _⟩ | ⟨o, its, n, h1, h2, _⟩
    · exact .base (.tup t)
    · exact .fTuple t
    · exact .kTuple h1 h2
  · split at h
    · rename_i ws hw
      cases h
      obtain ⟨p, vs, rfl, t, r⟩ := listOf_rv rs hw r
      refine ⟨"list", ?_, rfl, .inr (.inr (.inr (.inr (.inl ⟨rfl, rfl⟩))))⟩
      rcases t with (t | ⟨o, t⟩) | ⟨o, its, n, h1, h2, _⟩
      · exact .base (.lst t)
      · exact .base (.frz t)
      · exact .kList h1 h2
    · cases h
/-- asked of one kind -/
theorem kit_one {K : PySem.W.Frag} (T c : String) (hT : T ∈ ["NoneType", "bool", "int", "str", "list", "tuple"]) (hc : c ∈ ["int", "bool", "str", "list", "tuple"]) : PySem.W.kitOne K (.type T) (.type c) = some (T == c || (T == "bool" && c == "int")) := by
  apply kit_ty
  simp only [List.mem_cons, List.not_mem_nil, or_false] at hT hc
  rcases hT with rfl | rfl | rfl | rfl | rfl | rfl <;> rcases hc with rfl | rfl | rfl | rfl | rfl <;> decide +kernel
theorem kit_any {K : PySem.W.Frag} (T : String) (hT : T ∈ ["NoneType", "bool", "int", "str", "list", "tuple"]) : ∀ cs : List String, (∀ c ∈ cs, c ∈ ["int", "bool", "str", "list", "tuple"]) →
    PySem.W.kitAny K (.type T) (cs.map Value.type) = some (cs.any fun c => T == c || (T == "bool" && c == "int"))
  | [], _ => kitAny_nil
  | c :: cs, h => kitAny_cons (kit_one T c hT (h c List.mem_cons_self)) (fun e => by rw [kit_any T hT cs fun c hc => h c (List.mem_cons_of_mem _ hc), List.any_cons, e]; rfl) fun e => by rw [List.any_cons, e]; rfl
end
end TZ

set_option Elab.async false
set_option linter.all false
set_option maxRecDepth 100000
/-! A14: isinstance; dict displays. -/
namespace TZ
open PySem L2 StX PyProof.Rows

/-- what a type answers, by the kinds asked -/
def kAns (T : String) (k : Kinds) : Bool := (T == "bool" && (k.bool || k.int)) || (T == "int" && k.int) || (T == "str" && k.str) || (T == "list" && k.list) || (T == "tuple" && k.tuple)
def kName (x : Str) : String := if x = ("int" : Str) then "int" else if x = ("bool" : Str) then "bool" else if x = ("str" : Str) then "str" else if x = ("list" : Str) then "list" else "tuple"
theorem kind_name {k k' : Kinds} {x : Str} (h : kindOf1 k x = some k') : kName x ∈ ["int", "bool", "str", "list", "tuple"] ∧ bootBuiltins x = some (.type (kName x)) ∧ x ≠ "__name__" ∧
    ∀ T, T ∈ ["NoneType", "bool", "int", "str", "list", "tuple"] → kAns T k' = (kAns T k || (T == kName x || (T == "bool" && kName x == "int"))) := by
  unfold kindOf1 at h
  split at h
  · rename_i e
    subst e; cases h
    refine ⟨by decide, by decide +kernel, by decide, fun T hT => ?_⟩
    simp only [List.mem_cons, List.not_mem_nil, or_false] at hT
    obtain ⟨a, b, c, d, e⟩ := k
    rcases hT with rfl | rfl | rfl | rfl | rfl | rfl <;> revert a b c d e <;> decide +kernel
  · split at h
    · rename_i e
      subst e; cases h
      refine ⟨by decide, by decide +kernel, by decide, fun T hT => ?_⟩
      simp only [List.mem_cons, List.not_mem_nil, or_false] at hT
      obtain ⟨a, b, c, d, e⟩ := k
      rcases hT with rfl | rfl | rfl | rfl | rfl | rfl <;> revert a b c d e <;> decide +kernel
    · split at h
      · rename_i e
        subst e; cases h
        refine ⟨by decide, by decide +kernel, by decide, fun T hT => ?_⟩
        simp only [List.mem_cons, List.not_mem_nil, or_false] at hT
        obtain ⟨a, b, c, d, e⟩ := k
        rcases hT with rfl | rfl | rfl | rfl | rfl | rfl <;> revert a b c d e <;> decide +kernel
      · split at h
        · rename_i e
          subst e; cases h
          refine ⟨by decide, by decide +kernel, by decide, fun T hT => ?_⟩
          simp only [List.mem_cons, List.not_mem_nil, or_false] at hT
          obtain ⟨a, b, c, d, e⟩ := k
          rcases hT with rfl | rfl | rfl | rfl | rfl | rfl <;> revert a b c d e <;> decide +kernel
        · split at h
          · rename_i e
            subst e; cases h
            refine ⟨by decide, by decide +kernel, by decide, fun T hT => ?_⟩
            simp only [List.mem_cons, List.not_mem_nil, or_false] at hT
            obtain ⟨a, b, c, d, e⟩ := k
            rcases hT with rfl | rfl | rfl | rfl | rfl | rfl <;> revert a b c d e <;> decide +kernel
          · cases h
theorem kAns_no (T : String) : kAns T {} = false := by unfold kAns; simp
theorem ty_ans {T : String} {k : Kinds} {b : Bool} (h : (T = "NoneType" ∧ b = false) ∨ (T = "bool" ∧ b = (k.bool || k.int)) ∨ (T = "int" ∧ b = k.int) ∨ (T = "str" ∧ b = k.str) ∨ (T = "list" ∧ b = k.list) ∨ (T = "tuple" ∧ b = k.tuple)) :
    T ∈ ["NoneType", "bool", "int", "str", "list", "tuple"] ∧ b = kAns T k := by
  rcases h with ⟨rfl, h⟩ | ⟨rfl, h⟩ | ⟨rfl, h⟩ | ⟨rfl, h⟩ | ⟨rfl, h⟩ | ⟨rfl, h⟩ <;> refine ⟨by decide, ?_⟩ <;> rw [h] <;> obtain ⟨a1, a2, a3, a4, a5⟩ := k <;> clear h <;> revert a1 a2 a3 a4 a5 <;> decide +kernel

section
variable {X : Cx} {fa : Nat → Option Addr}
theorem ev_isi1 {a : Expr} {x : Str} {k : Kinds} {px p pos : Pos} {m : Rho → M W} (hg : Gl X "isinstance") (hm : X.mg "isinstance" = none) (ha : PE X a (rV X.w X.K fa m)) (hs : isStar a = false)
    (hk : kindOf1 {} x = some k) (hgx : Gl X x) (hmx : X.mg x = none) (hdx : (x == ("__debug__" : Str)) = false) :
    PE X (.Call (.Name "isinstance" p) [a, .Name x px] [] pos) (rV X.w X.K fa fun ρ => do let v ← m ρ; let b ← wIsi k v; pure (.bl b)) := by
  obtain ⟨n1, n2, n3, n4⟩ := kind_name hk
  refine PEimp (pe_callB call_isi hg hm boot_isinstance (pa_cons ha (pa_cons (pe_bltn (v := .ty (kName x)) hgx hmx n2 rfl n3 hdx) pa_nil) (star_no hs)) (by decide) (by decide) (star_no hs) rfl) fun σ H Q ⟨ι, ρ, S, c, S', rs, rr, hw, q⟩ => ?_
  obtain ⟨v, S1, h1, hw1⟩ := bindM hw
  obtain ⟨b, S2, h2, hw2⟩ := bindM hw1
  obtain ⟨rfl, rfl⟩ := retM hw2
  refine ⟨ι, ρ, S, v, S1, rs, rr, h1, fun u H1 ι1 x1 rs1 rv1 => ?_⟩
  obtain ⟨T, ty, e, ht⟩ := ty_of rs1 rv1 h2
  obtain ⟨t1, t2⟩ := ty_ans ht
  refine ⟨u, .ty (kName x), _, _, b, rfl, .ty _, ty, ?_, ?_⟩
  · rw [kit_one T _ t1 n1, t2, n4 T t1, kAns_no]; rfl
  · subst e
    exact (q.mono x1).here rs1 (rv_bl.mpr rfl)
/-- the types of a tuple of names -/
theorem ks_names {G : Glob} {sc : Scope} (hb : ∀ x, isBlt G sc x = true → Gl X x ∧ X.mg x = none ∧ (x == ("__debug__" : Str)) = false) : ∀ (es : List Expr) (k k' : Kinds), trKs G sc k es = some k' →
    ∃ cs : List String, PA X es (fun σ H Q => Q (cs.map V.ty) H) ∧ cs.length = es.length ∧ es.any isStar = false ∧ (∀ c ∈ cs, c ∈ ["int", "bool", "str", "list", "tuple"]) ∧
      ∀ T, T ∈ ["NoneType", "bool", "int", "str", "list", "tuple"] → kAns T k' = (kAns T k || cs.any fun c => T == c || (T == "bool" && c == "int"))
  | [], k, k', h => by cases h; exact ⟨[], pa_nil, rfl, rfl, fun _ h => (nomatch h), fun T _ => by simp⟩
  | e :: es, k, k', h => by
    cases e with
    | Name x p =>
      simp only [trKs] at h
      split at h
      · rename_i hx
        split at h
        · rename_i k1 hk
          obtain ⟨n1, n2, n3, n4⟩ := kind_name hk
          obtain ⟨g1, g2, g3⟩ := hb x hx
          obtain ⟨cs, p1, pl, p2, p3, p4⟩ := ks_names hb es k1 k' h
          refine ⟨kName x :: cs, PAimp (pa_cons (pe_bltn (v := .ty (kName x)) g1 g2 n2 rfl n3 g3) p1 (star_no rfl)) fun σ H Q q => q, by simp [pl], by rw [List.any_cons, p2]; rfl, fun c hc => ?_, fun T hT => ?_⟩
          · rcases List.mem_cons.mp hc with rfl | hc
            · exact n1
            · exact p3 c hc
          · rw [p4 T hT, n4 T hT, List.any_cons, Bool.or_assoc]
        · cases h
      · cases h
    | _ => cases h
theorem cls_all : ∀ cs : List String, Paired ClsV (cs.map V.ty) (cs.map Value.type)
  | [] => .nil
  | c :: cs => .cons (.ty c) (cls_all cs)
theorem ev_isiT {G : Glob} {sc : Scope} {a : Expr} {es : List Expr} {kk : Nat} {k : Kinds} {pt p pos : Pos} {m : Rho → M W} (hb : ∀ x, isBlt G sc x = true → Gl X x ∧ X.mg x = none ∧ (x == ("__debug__" : Str)) = false)
    (hg : Gl X "isinstance") (hm : X.mg "isinstance" = none) (ha : PE X a (rV X.w X.K fa m)) (hs : isStar a = false) (hk : trKs G sc {} es = some k) (hl : es.length ≤ 100) :
    PE X (.Call (.Name "isinstance" p) [a, .Tuple es kk pt] [] pos) (rV X.w X.K fa fun ρ => do let v ← m ρ; let b ← wIsi k v; pure (.bl b)) := by
  obtain ⟨cs, p1, pl, p2, p3, p4⟩ := ks_names hb es {} k hk
  refine PEimp (pe_callB call_isiT hg hm boot_isinstance (pa_cons ha (pa_cons (pe_tup p1) pa_nil) (star_no hs)) (by decide) (by decide) (star_no hs) rfl) fun σ H Q ⟨ι, ρ, S, c, S', rs, rr, hw, q⟩ => ?_
  obtain ⟨v, S1, h1, hw1⟩ := bindM hw
  obtain ⟨b, S2, h2, hw2⟩ := bindM hw1
  obtain ⟨rfl, rfl⟩ := retM hw2
  refine ⟨ι, ρ, S, v, S1, rs, rr, h1, fun u H1 ι1 x1 rs1 rv1 => ?_⟩
  obtain ⟨T, ty, e, ht⟩ := ty_of rs1 rv1 h2
  obtain ⟨t1, t2⟩ := ty_ans ht
  refine ⟨by rw [List.length_map, pl, sizeLine_eq]; omega, fun tp htp => ?_⟩
  obtain ⟨x2, rs2, n2⟩ := rs1.new (o := .tup (cs.map V.ty)) htp
  obtain ⟨T', ty', e', ht'⟩ := ty_of rs2 (rv1.mono x2) h2
  obtain ⟨t1', t2'⟩ := ty_ans ht'
  refine ⟨u, tp, cs.map V.ty, .type T', cs.map Value.type, b, rfl, upd_same, ?_, ty', ?_, ?_⟩
  · exact cls_all cs
  · rw [kit_any T' t1' cs p3, t2', p4 T' t1', kAns_no]; rfl
  · subst e
    exact (q.mono (x1.trans x2)).here rs2 (rv_bl.mpr rfl)
end
end TZ

set_option Elab.async false
set_option linter.all false
set_option maxRecDepth 100000
/-! A15: dict displays. -/
namespace TZ
open PySem L2 StX PyProof.Rows

/-! ### the pairs, then the puts -/
def dp (gc : Nat → W) (cf : Nat → List W → M W) : E → Rho → M (List (W × W))
  | .dnil, _ => .ret []
  | .dpair k v ds, ρ => do let x ← (den gc cf k).v ρ; let y ← (den gc cf v).v ρ; let r ← dp gc cf ds ρ; pure ((x, y) :: r)
  | _, _ => .no
def putAll : List W × List W → List (W × W) → Option (List W × List W)
  | p, [] => some p
  | p, (x, y) :: r => if keyFor p.1 x = true then putAll (dPut p.1 p.2 x y) r else none
def allPairs : E → Nat → Bool
  | .dnil, _ => true
  | .dpair _ _ ds, n + 1 => allPairs ds n
  | _, _ => false
theorem dp_den {gc : Nat → W} {cf : Nat → List W → M W} : ∀ (ds : E) (n : Nat) (ρ : Rho) (p p' : List W × List W) (S S' : Sto), allPairs ds n = true → (den gc cf ds).d ρ p S = some (p', S') → ∃ prs, dp gc cf ds ρ S = some (prs, S') ∧ putAll p prs = some p' ∧ prs.length ≤ n
  | .dnil, n, ρ, p, p', S, S', _, h => by
    have h : some (p, S) = some (p', S') := h
    cases h
    exact ⟨[], rfl, rfl, Nat.zero_le _⟩
  | .dpair k v ds, n, ρ, p, p', S, S', hp, h => by
    cases n with
    | zero => cases hp
    | succ n =>
      have h : (do
        let x ← (den gc cf k).v ρ
        let y ← (den gc cf v).v ρ
        M.grd (keyFor p.1 x)
        (den gc cf ds).d ρ (dPut p.1 p.2 x y) : M (List W × List W)) S = some (p', S') := h
      obtain ⟨x, S1, h1, k1⟩ := bindM h
      obtain ⟨y, S2, h2, k2⟩ := bindM k1
      obtain ⟨_, S3, h3, k3⟩ := bindM k2
      obtain ⟨hk, e⟩ := grdM h3
      rw [e] at k3
      obtain ⟨prs, q1, q2, q3⟩ := dp_den ds n ρ _ p' _ S' hp k3
      refine ⟨(x, y) :: prs, ?_, ?_, by simp; omega⟩
      · show (do let x ← (den gc cf k).v ρ; let y ← (den gc cf v).v ρ; let r ← dp gc cf ds ρ; pure ((x, y) :: r) : M (List (W × W))) S = _
        rw [bind_some h1, bind_some h2, bind_some q1]
        rfl
      · show (if keyFor p.1 x = true then _ else _) = _
        rw [if_pos hk]; exact q2

section
variable {w : World} {K : PySem.W.Frag} {fa : Nat → Option Addr}
/-- the dict in the making at D, from the base ι1, H1 -/
structure Mkd (w : World) (K : PySem.W.Frag) (fa : Nat → Option Addr) (ι1 : Pls) (H1 : Hp) (D : Addr) (ι2 : Pls) (H2 : Hp) (S2 : Sto) (ks us : List W) : Prop where
  xh : Exh ι1 H1 ι2 H2
  ex : Ext ι1 H1 ι2.show H2
  rs : RS w K fa H2 ι2 S2
  hd : ι2.hd = D :: ι1.hd
  at_ : ∃ es ep kvs uvs, H2 D = some (dOb D es ep) ∧ Ents w ks kvs uvs es ∧ (ks.map W.nkey).Nodup ∧ RVs w K fa H2 ι2 ks kvs ∧ RVs w K fa H2 ι2 us uvs
variable {ι1 ι2 : Pls} {H1 H2 : Hp} {D : Addr} {S2 : Sto} {ks us : List W}
theorem Mkd.start (rs : RS w K fa H1 ι1 S2) (hD : H1 D = none) : Mkd w K fa ι1 H1 D (ι1.hide D) (upd H1 D (dOb D [] 0)) S2 [] [] :=
  ⟨exh_hide hD, (show Ext ι1 H1 ι1 _ from ext_new hD), rs.hide hD, rfl, [], 0, [], [], upd_same, .nil, .nil, .nil, .nil⟩
theorem Mkd.step {ι3 : Pls} {H3 : Hp} {S3 : Sto} (m : Mkd w K fa ι1 H1 D ι2 H2 S2 ks us) (x : Ext ι2 H2 ι3 H3) (rs : RS w K fa H3 ι3 S3) : Mkd w K fa ι1 H1 D ι3 H3 S3 ks us := by
  obtain ⟨es, ep, kvs, uvs, h1, h2, h3, h4, h5⟩ := m.at_
  have nd : D ∉ ι2.pl := m.rs.dj D (by rw [m.hd]; exact List.mem_cons_self)
  exact ⟨m.xh.trans x.exh, m.ex.trans x.show, rs, x.hid.trans m.hd, es, ep, kvs, uvs, x.keep D _ h1 nd, h2, h3, h4.mono x, h5.mono x⟩
theorem Mkd.put {x y : W} {kv uv : V} {key v : Value} {es : List DictEntry} {ep : Nat} {kvs uvs : List V} (m : Mkd w K fa ι1 H1 D ι2 H2 S2 ks us) (hD : H1 D = none) (hk : keyFor ks x = true) (rk : RelV kv key) (rv : RelV uv v) (r1 : RV w K fa H2 ι2 x kv) (r2 : RV w K fa H2 ι2 y uv)
    (h1 : H2 D = some (dOb D es ep)) (h2 : Ents w ks kvs uvs es) (h3 : (ks.map W.nkey).Nodup) (h4 : RVs w K fa H2 ι2 ks kvs) (h5 : RVs w K fa H2 ι2 us uvs) :
    Mkd w K fa ι1 H1 D ι2 (upd H2 D (dOb D (putE es (kIdx ks x) (x.nkey.hash w) key v) (putN ep (kIdx ks x)))) S2 (dPut ks us x y).1 (dPut ks us x y).2 := by
  have hm : D ∈ ι2.hd := by rw [m.hd]; exact List.mem_cons_self
  have xw : Exh ι2 H2 ι2 (upd H2 D (dOb D (putE es (kIdx ks x) (x.nkey.hash w) key v) (putN ep (kIdx ks x)))) := exh_write hm
  obtain ⟨l1, l2, l3⟩ := ents_len h2
  refine ⟨m.xh.trans xw, m.ex.wr hD, m.rs.write hm, m.hd, ?_⟩
  have hup : (upd H2 D (dOb D (putE es (kIdx ks x) (x.nkey.hash w) key v) (putN ep (kIdx ks x)))) D = some (dOb D (putE es (kIdx ks x) (x.nkey.hash w) key v) (putN ep (kIdx ks x))) := upd_same
  generalize hH3 : upd H2 D (dOb D (putE es (kIdx ks x) (x.nkey.hash w) key v) (putN ep (kIdx ks x))) = H3 at xw hup
  unfold dPut
  unfold putE putN at hup
  cases hix : kIdx ks x with
  | some j =>
    rw [hix] at hup
    have hj : j < es.length := by
      unfold kIdx at hix
      have := (List.findIdx?_eq_some_iff_getElem.mp hix).1
      omega
    exact ⟨_, _, kvs, uvs.set j uv, hup, (ents_put (k := x) rfl rk rv h2).1 j hj, h3, h4.monoH xw, (h5.monoH xw).set (r2.monoH xw) j⟩
  | none =>
    rw [hix] at hup
    refine ⟨_, _, kvs ++ [kv], uvs ++ [uv], hup, (ents_put rfl rk rv h2).2, ?_, (h4.monoH xw).append (.cons (r1.monoH xw) .nil), (h5.monoH xw).append (.cons (r2.monoH xw) .nil)⟩
    rw [List.map_append]
    refine List.nodup_append.mpr ⟨h3, by simp, fun a ha b hb => ?_⟩
    have hb : b = x.nkey := by simpa using hb
    subst hb
    obtain ⟨k', hk', rfl⟩ := List.mem_map.mp ha
    intro eq
    unfold kIdx at hix
    have := List.findIdx?_eq_none_iff.mp hix k' hk'
    obtain ⟨q1, q2⟩ := keyFor_hk hk
    rw [eqv_dec (q2 k' hk') q1, decide_eq_true eq] at this
    cases this
theorem RS.place {S : Sto} {ob : Ob} (r : RS w K fa H2 ι2 S) (hd : ι2.hd = D :: ι1.hd) (nd : D ∉ ι1.hd) (ho : ∀ ι', Exh ι2 H2 ι' H2 → RO w K fa H2 ι' D ob) : RS w K fa H2 (ι2.show.push D) (S ++ [ob]) ∧ Exh ι2 H2 (ι2.show.push D) H2 := by
  have hm : D ∈ ι2.hd := by rw [hd]; exact List.mem_cons_self
  have np : D ∉ ι2.pl := r.dj D hm
  have x : Exh ι2 H2 (ι2.show.push D) H2 := by
    refine ⟨fun n a h => ?_, fun a h n m => ?_, fun a u h n => h, fun a h => h, fun a h n m => n (List.mem_of_mem_tail m), fun a es ep n h => ⟨es, ep, h, Nat.le_refl _, fun _ => rfl⟩⟩
    · show (ι2.pl ++ [D])[n]? = some a
      rw [List.getElem?_append_left (List.getElem?_eq_some_iff.mp h).1]; exact h
    · rw [Pls.nmem] at n
      rcases Pls.mem.mp m with m | m
      · rcases List.mem_append.mp (show a ∈ ι2.pl ++ [D] from m) with m | m
        · exact n.1 m
        · rw [List.mem_singleton.mp m] at n; exact n.2 hm
      · exact n.2 (List.mem_of_mem_tail m)
  refine ⟨⟨by show (ι2.pl ++ [D]).length = _; simp [r.len], List.nodup_append.mpr ⟨r.nd, by simp, fun a ha b hb => by rw [List.mem_singleton.mp hb]; exact fun e => np (e ▸ ha)⟩, fun a ha m => ?_, fun a m => r.hid a (List.mem_of_mem_tail m), fun k u a h1 h2 => ?_⟩, x⟩
  · have ha : a ∈ ι2.hd.tail := ha
    rw [hd] at ha
    rcases List.mem_append.mp (show a ∈ ι2.pl ++ [D] from m) with m | m
    · exact r.dj a (by rw [hd]; exact List.mem_cons_of_mem _ ha) m
    · rw [List.mem_singleton.mp m] at ha; exact nd ha
  · have h2 : (ι2.pl ++ [D])[k]? = some a := h2
    by_cases hk : k < S.length
    · rw [List.getElem?_append_left hk] at h1
      rw [List.getElem?_append_left (by rw [r.len]; exact hk)] at h2
      exact (r.ob k u a h1 h2).monoH x rfl
    · have hk' : k = S.length := by
        have := (List.getElem?_eq_some_iff.mp h1).1
        simp at this; omega
      subst hk'
      rw [List.getElem?_append_right (Nat.le_refl _), Nat.sub_self] at h1
      rw [← r.len, List.getElem?_append_right (Nat.le_refl _), Nat.sub_self] at h2
      simp at h1 h2
      subst h1 h2
      exact ho _ x
theorem Mkd.fin {Q : VK} {S : Sto} {ι : Pls} {H : Hp} (m : Mkd w K fa ι1 H1 D ι2 H2 S2 ks us) (x : Ext ι H ι1 H1) (hD : H1 D = none) (rs1 : RS w K fa H1 ι1 S) (q : After w K fa ι H (.ref S2.length) (S2 ++ [.dct ks us]) Q) : Q (.ref D) H2 := by
  obtain ⟨es, ep, kvs, uvs, h1, h2, h3, h4, h5⟩ := m.at_
  have nd : D ∉ ι1.hd := fun z => rs1.hid D z hD
  obtain ⟨rs', xh⟩ := m.rs.place m.hd nd (ob := .dct ks us) fun ι' x => ⟨es, ep, kvs, uvs, h1, h2, h3, h4.monoH x, h5.monoH x⟩
  have ex : Ext ι1 H1 (ι2.show.push D) H2 := by
    obtain ⟨κ, e, hk⟩ := m.ex.pre
    refine ⟨⟨κ ++ [D], by show ι2.show.pl ++ [D] = _; rw [e, List.append_assoc], fun a ha => ?_⟩, m.ex.hid, m.ex.keep, m.ex.there, m.ex.dk⟩
    rcases List.mem_append.mp ha with ha | ha
    · exact hk a ha
    · rw [List.mem_singleton.mp ha]; exact hD
  refine q _ H2 _ (x.trans ex) rs' (rv_ref.mpr ⟨D, ?_, rfl⟩)
  show (ι2.pl ++ [D])[S2.length]? = some D
  rw [← m.rs.len]; simp
end

section
variable {X : Cx} {fa : Nat → Option Addr} {gc : Nat → W} {cf : Nat → List W → M W}
abbrev KVs (xs : List (V × V)) (us : List (Value × Value)) : Prop := Paired (fun (a : V × V) (b : Value × Value) => RelV a.1 b.1 ∧ RelV a.2 b.2) xs us
/-- the pairs of a display -/
def PDp (X : Cx) (fa : Nat → Option Addr) (gc : Nat → W) (cf : Nat → List W → M W) (ks : List (Option Expr)) (vs : List Expr) (ds : E) : Prop :=
  ∀ (pos : Pos) (pins : List (Addr × Obj)) (s : Shared) (σ : L2.St) (H : Hp) (ι : Pls) (ρ : Rho) (S S' : Sto) (prs : List (W × W)) (Q : List (V × V) → Hp → Prop), Inv X pins σ H s → RS X.w X.K fa H ι S → RR X.w X.K fa H ι ρ σ → dp gc cf ds ρ S = some (prs, S') →
    (∀ xs H' ι', Ext ι H ι' H' → RS X.w X.K fa H' ι' S' → RVs X.w X.K fa H' ι' (prs.map (·.1)) (xs.map (·.1)) → RVs X.w X.K fa H' ι' (prs.map (·.2)) (xs.map (·.2)) → Q xs H') →
    wpAny (model X.prog X.w) X.A (evalPairs (pairTrees ks vs X.env pos)) (fun us s' => ∃ xs H', Inv X pins σ H' s' ∧ KVs xs us ∧ Q xs H') X.xe s
theorem dp_nil : PDp X fa gc cf [] [] .dnil := by
  intro pos pins s σ H ι ρ S S' prs Q I rs rr hd q
  have e : some (([] : List (W × W)), S) = some (prs, S') := hd
  cases e
  exact evalPairs_nil ⟨[], H, I, .nil, q [] H ι (Ext.refl _ _) rs .nil .nil⟩
theorem dp_cons {k v : Expr} {ks : List (Option Expr)} {vs : List Expr} {k' v' ds : E} (h1 : PE X k (rV X.w X.K fa (den gc cf k').v)) (h2 : PE X v (rV X.w X.K fa (den gc cf v').v)) (h3 : PDp X fa gc cf ks vs ds) : PDp X fa gc cf (some k :: ks) (v :: vs) (.dpair k' v' ds) := by
  intro pos pins s σ H ι ρ S S' prs Q I rs rr hd q
  have hd : (do let x ← (den gc cf k').v ρ; let y ← (den gc cf v').v ρ; let r ← dp gc cf ds ρ; pure ((x, y) :: r) : M (List (W × W))) S = some (prs, S') := hd
  obtain ⟨x, S1, e1, hd⟩ := bindM hd
  obtain ⟨y, S2, e2, hd⟩ := bindM hd
  obtain ⟨r, S3, e3, hd⟩ := bindM hd
  obtain ⟨rfl, rfl⟩ := retM hd
  refine evalPairs_cons (thn (h1.run pins s σ H (fun v H1 => ∃ ι1, Ext ι H ι1 H1 ∧ RS X.w X.K fa H1 ι1 S1 ∧ RV X.w X.K fa H1 ι1 x v) I ⟨ι, ρ, S, x, S1, rs, rr, e1, fun v H1 ι1 x1 rs1 rv1 => ⟨ι1, x1, rs1, rv1⟩⟩) fun u1 s1 ⟨v1, H1, I1, r1, ι1, x1, rs1, rv1⟩ => ?_)
  refine wpAny_bind (thn (h2.run pins s1 σ H1 (fun v H2 => ∃ ι2, Ext ι1 H1 ι2 H2 ∧ RS X.w X.K fa H2 ι2 S2 ∧ RV X.w X.K fa H2 ι2 y v) I1 ⟨ι1, ρ, S1, y, S2, rs1, rr.mono x1, e2, fun v H1 ι1 x1 rs1 rv1 => ⟨ι1, x1, rs1, rv1⟩⟩) fun u2 s2 ⟨v2, H2, I2, r2, ι2, x2, rs2, rv2⟩ => ?_)
  refine wpAny_bind (wpAny_standAt (wpAny_pure ?_))
  refine thn (h3 pos pins s2 σ H2 ι2 ρ S2 _ r (fun xs H' => Q ((v1, v2) :: xs) H') I2 rs2 ((rr.mono x1).mono x2) e3 fun xs H3 ι3 x3 rs3 ra rb => ?_) fun us s3 ⟨xs, H3, I3, kv, q3⟩ => ⟨(v1, v2) :: xs, H3, I3, .cons ⟨r1, r2⟩ kv, q3⟩
  exact q ((v1, v2) :: xs) H3 ι3 ((x1.trans x2).trans x3) rs3 (.cons ((rv1.mono x2).mono x3) ra) (.cons (rv2.mono x3) rb)
theorem store_ok {pins : List (Addr × Obj)} {σ : L2.St} {D : Addr} {ι1 : Pls} {H1 : Hp} (hu : X.A.units + 65 < cLine) (hD : H1 D = none) : ∀ (prs : List (W × W)) (xs : List (V × V)) (uss : List (Value × Value)) (s : Shared) (H2 : Hp) (ι2 : Pls) (S2 : Sto) (ks us ks' us' : List W) (Q : PUnit → Shared → Prop),
    Inv X pins σ H2 s → Mkd X.w X.K fa ι1 H1 D ι2 H2 S2 ks us → KVs xs uss → RVs X.w X.K fa H2 ι2 (prs.map (·.1)) (xs.map (·.1)) → RVs X.w X.K fa H2 ι2 (prs.map (·.2)) (xs.map (·.2)) → putAll (ks, us) prs = some (ks', us') → ks.length + prs.length ≤ sizeLine →
    (∀ s' H3, Inv X pins σ H3 s' → Mkd X.w X.K fa ι1 H1 D ι2 H3 S2 ks' us' → Q PUnit.unit s') → wpAny (model X.prog X.w) X.A (storeAll D uss) Q X.xe s
  | [], xs, uss, s, H2, ι2, S2, ks, us, ks', us', Q, I, mk, kv, ra, rb, hp, hz, q => by
    have : xs = [] := by
      have := ra.nil_inv
      simpa using this
    subst this
    cases kv
    cases hp
    unfold storeAll
    rw [List.forIn_nil]
    exact wpAny_pure (q s H2 I mk)
  | (x, y) :: prs, xs, uss, s, H2, ι2, S2, ks, us, ks', us', Q, I, mk, kv, ra, rb, hp, hz, q => by
    cases kv with
    | nil => obtain ⟨v, vs', e, _⟩ := ra.cons_inv; cases e
    | @cons a b as bs r0 kv =>
      obtain ⟨kw, uw⟩ := a
      obtain ⟨ku, uu⟩ := b
      obtain ⟨v1, vs1, e1, ra1, ra2⟩ := ra.cons_inv
      obtain ⟨v2, vs2, e2, rb1, rb2⟩ := rb.cons_inv
      simp only [List.map_cons] at e1 e2
      cases e1; cases e2
      obtain ⟨r1, r2⟩ := r0
      simp only [putAll] at hp
      split at hp
      · rename_i hk
        obtain ⟨es, ep, kvs, uvs, h1, h2, h3, h4, h5⟩ := mk.at_
        obtain ⟨g1, g2, o, ho, hc, hd⟩ := dob_at I h1
        obtain ⟨l1, l2, l3⟩ := ents_len h2
        obtain ⟨c, ka⟩ := key_at (A := X.A) (us := us) (by omega) I ho hd h2 h3 h4 hk ra1 r1
        have hm : D ∈ ι2.hd := by rw [mk.hd]; exact List.mem_cons_self
        unfold storeAll
        rw [List.forIn_cons]
        refine wpAny_bind (wpAny_bind (d_set ka ho hc hd g2 fun h' o' g h6 h7 h8 => wpAny_pure ?_))
        have hle : (putE es (kIdx ks x) (x.nkey.hash X.w) ku uu).length ≤ sizeLine := by
          unfold putE
          simp only [List.length_cons] at hz
          cases kIdx ks x with
          | some i => simpa using g2
          | none => simp; omega
        have mk' := mk.put (y := y) hD hk r1 r2 ra1 rb1 h1 h2 h3 h4 h5
        have xw : Exh ι2 H2 ι2 (upd H2 D (dOb D (putE es (kIdx ks x) (x.nkey.hash X.w) ku uu) (putN ep (kIdx ks x)))) := exh_write hm
        have I' := I.write (t' := s.toks + c) (x := D) (e := D) (by rw [h1]; exact trivial) (.inl rfl) (fun b z hb hz => (h8.2 b hb).trans hz) ⟨_, g⟩ (dob_ok g1 hle g h6 h7)
        have hl : (dPut ks us x y).1.length ≤ ks.length + 1 := by
          unfold dPut
          cases kIdx ks x with
          | some i => simp
          | none => simp
        exact store_ok hu hD prs as bs _ _ ι2 S2 _ _ ks' us' Q I' mk' kv (ra2.monoH xw) (rb2.monoH xw) hp (by simp only [List.length_cons] at hz; omega) q
      · cases hp
/-- a display of pairs -/
theorem ev_dct {ks : List (Option Expr)} {vs : List Expr} {pos : Pos} {ds : E} (hu : X.A.units + 65 < cLine) (hall : ks.all (·.isSome) = true) (hl : ks.length = vs.length) (h0 : ks ≠ []) (hlen : ks.length ≤ 15) (hap : allPairs ds 15 = true) (hd : PDp X fa gc cf ks vs ds) :
    PE X (.Dict ks vs pos) (rV X.w X.K fa (den gc cf (.dct ds)).v) := by
  refine ⟨fun pins s σ H Q I ⟨ι, ρ, S, a, S', rs, rr, hm, q⟩ => ?_⟩
  have hm : (do let p ← (den gc cf ds).d ρ ([], []); M.fits p.1.length; M.new (.dct p.1 p.2) : M W) S = some (a, S') := hm
  obtain ⟨⟨ks', us'⟩, S2, h1, k1⟩ := bindM hm
  obtain ⟨_, S3, h2, k2⟩ := bindM k1
  obtain ⟨_, e2⟩ := grdM h2
  rw [e2] at k2
  have e : some (W.ref S2.length, S2 ++ [Ob.dct ks' us']) = some (a, S') := k2
  clear hm k1 k2 h2 e2
  cases e
  obtain ⟨prs, q1, q2, q3⟩ := dp_den ds 15 ρ _ _ _ _ hap h1
  have hD : H s.heap.objs.size = none := I.fresh
  have mk0 := Mkd.start (w := X.w) (K := X.K) (fa := fa) rs hD
  have I0 : Inv X pins σ (upd H s.heap.objs.size (dOb s.heap.objs.size [] 0)) { s with heap := s.heap.push { cls := .type "dict", data := .dict #[] } } := by
    refine I.laid (t' := s.toks) (fun b o e => Heap.get?_push_of_some _ e) (Nat.le_refl _) ?_
    exact dob_ok (beq_eq_false_iff_ne.mpr (Ne.symm (Nat.ne_of_lt I.big))) (Nat.zero_le _) (Heap.get?_push_size _ rfl) ⟨rfl, rfl, rfl⟩ rfl
  refine wpAny_Dict_any hall hl h0 hlen ?_
  refine thn (hd pos pins _ σ _ (ι.hide s.heap.objs.size) ρ S _ prs (fun xs H' => ∃ ι', Ext (ι.hide s.heap.objs.size) (upd H s.heap.objs.size (dOb s.heap.objs.size [] 0)) ι' H' ∧ RS X.w X.K fa H' ι' S2 ∧ RVs X.w X.K fa H' ι' (prs.map (·.1)) (xs.map (·.1)) ∧ RVs X.w X.K fa H' ι' (prs.map (·.2)) (xs.map (·.2))) I0 mk0.rs (rr.monoH mk0.xh) q1 fun xs H' ι' x rs ra rb => ⟨ι', x, rs, ra, rb⟩) fun us s1 ⟨xs, H1, I1, kv, ι1, x1, rs1, ra, rb⟩ => ?_
  refine store_ok hu hD prs xs us s1 H1 ι1 S2 [] [] ks' us' _ I1 (mk0.step x1 rs1) kv ra rb q2 (by simp only [List.length_nil, Nat.zero_add, sizeLine_eq]; omega) fun s2 H2 I2 mk2 => ?_
  exact ⟨.ref s.heap.objs.size, H2, I2, rfl, mk2.fin (Ext.refl _ _) hD rs q⟩
end
end TZ

set_option Elab.async false
set_option linter.all false
set_option maxRecDepth 100000
/-! A16: the expressions of the small terms are sound. -/
namespace TZ
open PySem L2 StX PyProof.Rows

/-! ### some more forms -/
section
variable {X : Cx} {fa : Nat → Option Addr} {pos : Pos}
theorem tt_ifx {c a b : Expr} {mc ma mb : Rho → M W} (hc : PT X c (rB X.w X.K fa fun ρ => truth (mc ρ))) (ha : PT X a (rB X.w X.K fa fun ρ => truth (ma ρ))) (hb : PT X b (rB X.w X.K fa fun ρ => truth (mb ρ))) :
    PT X (.IfExp c a b pos) (rB X.w X.K fa fun ρ => truth (do let c ← truth (mc ρ); if c = true then ma ρ else mb ρ)) := by
  refine ⟨fun pins s σ H Q I ⟨ι, ρ, S, r, S', rs, rr, hm, q⟩ => ?_⟩
  obtain ⟨d, S1, h1, hm1⟩ := bindM (truthM hm)
  show wpAny _ _ (isTrue c X.env (eval c X.env) >>= fun k => if k = true then isTrue a X.env (eval a X.env) else isTrue b X.env (eval b X.env)) _ _ s
  refine wpAny_bind (thn (hc.run pins s σ H (fun k H1 => if k = true then rB X.w X.K fa (fun ρ => truth (ma ρ)) σ H1 Q else rB X.w X.K fa (fun ρ => truth (mb ρ)) σ H1 Q) I ⟨ι, ρ, S, d, S1, rs, rr, h1, fun H1 ι1 x1 rs1 => ?_⟩) fun k s1 ⟨H1, I1, q1⟩ => ?_)
  · cases d with
    | true => exact ⟨ι1, ρ, S1, r, S', rs1, rr.mono x1, truth_some hm1, fun H2 ι2 x2 rs2 => q H2 ι2 (x1.trans x2) rs2⟩
    | false => exact ⟨ι1, ρ, S1, r, S', rs1, rr.mono x1, truth_some hm1, fun H2 ι2 x2 rs2 => q H2 ι2 (x1.trans x2) rs2⟩
  · cases k with
    | true => exact ha.run pins s1 σ H1 Q I1 q1
    | false => exact hb.run pins s1 σ H1 Q I1 q1
theorem ev_isb {a : Expr} {ma : Rho → M W} {j : Nat} {p' : Pos} {b : Bool} (ha : PE X a (rV X.w X.K fa ma)) : PE X (.Compare a [.Is] [.Constant (.bool b) j p'] pos) (rV X.w X.K fa fun ρ => do let x ← ma ρ; wIsb x b) :=
  PEimp (pe_cmpR op_isBl ha pe_bl (by rfl)) fun σ H Q ⟨ι, ρ, S, c, S', rs, rr, hm, q⟩ => by
    obtain ⟨x, S1, h1, hm1⟩ := bindM hm
    refine ⟨ι, ρ, S, x, S1, rs, rr, h1, fun v H1 ι1 x1 rs1 rv1 => ?_⟩
    cases x with
    | bl k =>
      have e : some (W.bl (decide (k = b)), S1) = some (c, S') := hm1
      cases e
      rw [rv_bl] at rv1
      exact ⟨k, b, rv1, rfl, (q.mono x1).here rs1 (rv_bl.mpr rfl)⟩
    | _ => cases hm1
theorem tt_isb {a : Expr} {ma : Rho → M W} {j : Nat} {p' : Pos} {b : Bool} (ha : PE X a (rV X.w X.K fa ma)) : PT X (.Compare a [.Is] [.Constant (.bool b) j p'] pos) (rB X.w X.K fa fun ρ => truth (do let x ← ma ρ; wIsb x b)) :=
  tt_cmp (r := rIsB) (pt_cmpR op_isBl ha pe_bl (by rfl)) fun σ H Q ⟨ι, ρ, S, c, S', rs, rr, hm, q⟩ => by
    obtain ⟨x, S1, h1, hm1⟩ := bindM hm
    refine ⟨ι, ρ, S, x, S1, rs, rr, h1, fun v H1 ι1 x1 rs1 rv1 => ?_⟩
    cases x with
    | bl k =>
      have e : some (W.bl (decide (k = b)), S1) = some (c, S') := hm1
      cases e
      rw [rv_bl] at rv1
      exact ⟨k, b, rv1, rfl, (q.mono x1).here rs1 (rv_bl.mpr rfl)⟩
    | _ => cases hm1
theorem ev_neg {i : Int} {k : Nat} {p' : Pos} : PE X (.UnaryOp .USub (.Constant (.int i) k p') pos) (rV X.w X.K fa fun _ => .ret (.int (-i))) :=
  PEimp (pe_un un_neg pe_int) fun σ H Q ⟨ι, ρ, S, b, S', rs, rr, hm, q⟩ => by
    have e : some (W.int (-i), S) = some (b, S') := hm
    cases e
    exact ⟨i, rfl, q.here rs (rv_int.mpr rfl)⟩
/-- a global name -/
theorem ev_glob {x : Str} {p : Pos} {u : Value} {v : V} {a : W} (hg : Gl X x) (hm : X.mg x = some u) (r : RelV v u) (hd : (x == ("__debug__" : Str)) = false) (rv : ∀ H ι, RV X.w X.K fa H ι a v) : PE X (.Name x p) (rV X.w X.K fa fun _ => .ret a) :=
  ev_const (pe_glob hg hm r hd) rv
/-- o.m(e, ..) -/
theorem ev_mth {o e : Expr} {es : List Expr} {name : Str} {apos cpos : Pos} {T id : String} {isT : V → Hp → Prop} {m : Mth} {g : W → List W → M W} {ma : Rho → M W} {ms : Rho → M (List W)} (pa : PlainAttrs T) (slot : Slot T name id) (hty : typeOf (.builtin id) = pure (.type "method_descriptor"))
    (hm : MtR X id (rMt X.w X.K fa g)) (hi : ∀ (pins : List (Addr × Obj)) (s : Shared) (σ : L2.St) (H : Hp) (x : V) (v : Value), Inv X pins σ H s → RelV x v → isT x H → s.TypeIs v T ∧ ∀ a, v = .ref a → ∃ ob, s.heap.get? a = some ob ∧ ob.dict = none)
    (hr : ∀ (x : W) (S S' : Sto) (u : Unit), wRecv m x S = some (u, S') → S' = S ∧ ∀ H ι v, RS X.w X.K fa H ι S → RV X.w X.K fa H ι x v → isT v H)
    (ho : PE X o (rV X.w X.K fa ma)) (ha : PA X (e :: es) (rA X.w X.K fa ms)) (hbase : attributeBase o name X.env (eval o X.env) = eval o X.env) (hfew : (e :: es).length < 29) (hline : (apos.endLine == cpos.line) = true) (hs : isStar e = false) (hst : es.any isStar = false) :
    PE X (.Call (.Attribute o name apos) (e :: es) [] cpos) (rV X.w X.K fa fun ρ => do let x ← ma ρ; wRecv m x; let ws ← ms ρ; g x ws) :=
  PEimp (bmW pa slot hty hm ho ha hi hbase hfew hline hs hst) fun σ H Q ⟨ι, ρ, S, b, S', rs, rr, hw, q⟩ => by
    obtain ⟨x, S1, h1, hw1⟩ := bindM hw
    obtain ⟨u, S2, h2, hw2⟩ := bindM hw1
    obtain ⟨ws, S3, h3, hw3⟩ := bindM hw2
    obtain ⟨e2, ht⟩ := hr x _ _ _ h2
    rw [e2] at h3
    exact ⟨ι, ρ, S, x, S1, rs, rr, h1, fun v H1 ι1 x1 rs1 rv1 => ⟨ht H1 ι1 v rs1 rv1, ι1, ρ, S1, ws, S3, rs1, rr.mono x1, h3, fun vs H2 ι2 x2 rs2 rv2 => ⟨ι2, S3, x, ws, b, S', rs2, rv1.mono x2, rv2, hw3, q.mono (x1.trans x2)⟩⟩⟩
theorem ev_mth0 {o : Expr} {name : Str} {apos cpos : Pos} {T id : String} {m : Mth} {g : W → List W → M W} {ma : Rho → M W} (pa : PlainAttrs T) (slot : Slot T name id) (hty : typeOf (.builtin id) = pure (.type "method_descriptor"))
    (hm : MtR X id (rMt X.w X.K fa g))
    (hr : ∀ (x : W) (S S' : Sto) (u : Unit), wRecv m x S = some (u, S') → S' = S ∧ ∀ H ι v, RS X.w X.K fa H ι S → RV X.w X.K fa H ι x v → tyV X.K T v H)
    (ho : PE X o (rV X.w X.K fa ma)) (hbase : attributeBase o name X.env (eval o X.env) = eval o X.env) (hline : (apos.endLine == cpos.line) = true) :
    PE X (.Call (.Attribute o name apos) [] [] cpos) (rV X.w X.K fa fun ρ => do let x ← ma ρ; wRecv m x; let ws ← (M.ret [] : M (List W)); g x ws) :=
  PEimp (pe_bm0 pa slot hty hm ho hbase hline) fun σ H Q ⟨ι, ρ, S, b, S', rs, rr, hw, q⟩ => by
    obtain ⟨x, S1, h1, hw1⟩ := bindM hw
    obtain ⟨u, S2, h2, hw2⟩ := bindM hw1
    obtain ⟨ws, S3, h3, hw3⟩ := bindM hw2
    have e3 : some (([] : List W), S2) = some (ws, S3) := h3
    cases e3
    obtain ⟨e2, ht⟩ := hr x _ _ _ h2
    rw [e2] at hw3
    exact ⟨ι, ρ, S, x, S1, rs, rr, h1, fun v H1 ι1 x1 rs1 rv1 => ⟨ht H1 ι1 v rs1 rv1, ι1, S1, x, [], b, S', rs1, rv1, .nil, hw3, q.mono x1⟩⟩
theorem recv_lst {m : Mth} (hm : m = .append ∨ m = .pop0 ∨ m = .pop1 ∨ m = .insert) (x : W) (S S' : Sto) (u : Unit) (h : wRecv m x S = some (u, S')) : S' = S ∧ ∀ H ι v, RS X.w X.K fa H ι S → RV X.w X.K fa H ι x v → tyV X.K "list" v H := by
  have h0 : (if (listOf S x).isSome = true then some ((), S) else none) = some (u, S') := by rcases hm with rfl | rfl | rfl | rfl <;> exact h
  split at h0
  · rename_i hl
    cases h0
    obtain ⟨ws, hw⟩ := Option.isSome_iff_exists.mp hl
    refine ⟨rfl, fun H ι v rs rv => ?_⟩
    obtain ⟨p, vs, rfl, hq, _⟩ := listOf_rv rs hw rv
    exact .inl ⟨rfl, vs, hq⟩
  · cases h0
theorem recv_dct {m : Mth} (hm : m = .get1 ∨ m = .get2) (x : W) (S S' : Sto) (u : Unit) (h : wRecv m x S = some (u, S')) : S' = S ∧ ∀ H ι v, RS X.w X.K fa H ι S → RV X.w X.K fa H ι x v → isDctV v H := by
  have h0 : (if (dictOf S x).isSome = true then some ((), S) else none) = some (u, S') := by rcases hm with rfl | rfl <;> exact h
  split at h0
  · rename_i hl
    cases h0
    obtain ⟨⟨ks, us⟩, hw⟩ := Option.isSome_iff_exists.mp hl
    refine ⟨rfl, fun H ι v rs rv => ?_⟩
    obtain ⟨p, es, ep, kvs, uvs, rfl, hp, _⟩ := dictOf_rv rs hw rv
    exact ⟨p, es, ep, rfl, hp⟩
  · cases h0
theorem base_plain {o : Expr} {name : Str} (h : plainBase o = true) : attributeBase o name X.env (eval o X.env) = eval o X.env := by
  cases o with
  | Call f as ks p =>
    cases f with
    | Name id p2 =>
      cases as with
      | nil =>
        cases ks with
        | nil => cases h
        | cons k ks => rfl
      | cons a as => rfl
    | _ => rfl
  | _ => rfl
end
end TZ

set_option Elab.async false
set_option linter.all false
set_option maxRecDepth 100000
set_option maxHeartbeats 1000000
/-! B1: sorted of a list, of a dict. -/
namespace TZ
open PySem L2 StX PyProof.Rows

/-! ### plain data -/
mutual
theorem mapR_flat (g : Nat → Option W) : ∀ (a : W) (n : Nat), a.flat n = true → a.mapR g = some a
  | .non, n, h => by simp only [W.mapR]
  | .bl b, n, h => by simp only [W.mapR]
  | .int i, n, h => by simp only [W.mapR]
  | .str x, n, h => by simp only [W.mapR]
  | .fn f, n, h => by simp only [W.mapR]
  | .ref r, n, h => by cases n <;> simp only [W.flat, Bool.false_eq_true] at h
  | .dct ks us, n, h => by cases n <;> simp only [W.flat, Bool.false_eq_true] at h
  | .tup ws, n, h => by
    cases n with
    | zero => simp only [W.flat, Bool.false_eq_true] at h
    | succ n =>
      simp only [W.flat] at h
      simp only [W.mapR, mapRs_flat g ws n h, Option.map_some]
  | .lst ws, n, h => by
    cases n with
    | zero => simp only [W.flat, Bool.false_eq_true] at h
    | succ n =>
      simp only [W.flat] at h
      simp only [W.mapR, mapRs_flat g ws n h, Option.map_some]
theorem mapRs_flat (g : Nat → Option W) : ∀ (as : List W) (n : Nat), flats n as = true → mapRs g as = some as
  | [], n, h => by simp only [mapRs]
  | a :: as, n, h => by
    simp only [flats, Bool.and_eq_true] at h
    simp only [mapRs, mapR_flat g a n h.1, mapRs_flat g as n h.2]
end
mutual
theorem depth_flat : ∀ (a : W) (n : Nat), a.flat n = true → a.py.depth ≤ n
  | .non, n, h => by simp only [W.py, PyData.depth]; exact Nat.zero_le _
  | .bl b, n, h => by simp only [W.py, PyData.depth]; exact Nat.zero_le _
  | .int i, n, h => by simp only [W.py, PyData.depth]; exact Nat.zero_le _
  | .str x, n, h => by simp only [W.py, PyData.depth]; exact Nat.zero_le _
  | .fn f, n, h => by simp only [W.py, PyData.depth]; exact Nat.zero_le _
  | .ref r, n, h => by simp only [W.py, PyData.depth]; exact Nat.zero_le _
  | .dct ks us, n, h => by simp only [W.py, PyData.depth]; exact Nat.zero_le _
  | .tup ws, n, h => by
    cases n with
    | zero => simp only [W.flat, Bool.false_eq_true] at h
    | succ n =>
      simp only [W.flat] at h
      have := depths_flat ws n h
      simp only [W.py, PyData.depth]; omega
  | .lst ws, n, h => by
    cases n with
    | zero => simp only [W.flat, Bool.false_eq_true] at h
    | succ n =>
      simp only [W.flat] at h
      have := depths_flat ws n h
      simp only [W.py, PyData.depth]; omega
theorem depths_flat : ∀ (as : List W) (n : Nat), flats n as = true → PyData.depthAll (pys as) ≤ n
  | [], n, h => by simp only [pys, PyData.depthAll]; exact Nat.zero_le _
  | a :: as, n, h => by
    simp only [flats, Bool.and_eq_true] at h
    have h1 := depth_flat a n h.1
    have h2 := depths_flat as n h.2
    simp only [pys, PyData.depthAll]; omega
end
section
variable {w : World} {K : PySem.W.Frag} {fa : Nat → Option Addr} {H : Hp} {ι : Pls}
theorem dp_flat {a : W} {v : V} {n : Nat} (h : a.flat n = true) (r : RV w K fa H ι a v) : Dp K H v a.py :=
  (dpV (g := fun _ => none) (fun _ _ _ _ e => by cases e) a a v n (mapR_flat _ a n h) h r).1
theorem flats_mem : ∀ {ws : List W} {n : Nat}, flats n ws = true → ∀ a ∈ ws, a.flat n = true
  | [], _, _, _, m => nomatch m
  | b :: bs, n, h, a, m => by
    simp only [flats, Bool.and_eq_true] at h
    rcases List.mem_cons.mp m with m | m
    · rw [m]; exact h.1
    · exact flats_mem h.2 a m
theorem each_rv : ∀ {ws : List W} {vs : List V} {us : List Value}, RVs w K fa H ι ws vs → Vals vs us → PySem.W.EachIs (fun u a => ∃ x, RV w K fa H ι a x ∧ RelV x u) us ws
  | [], vs, us, r, rv => by rw [r.nil_inv] at rv; cases rv; exact .nil
  | a :: as, vs, us, r, rv => by
    obtain ⟨v, vs', rfl, r1, r2⟩ := r.cons_inv
    cases rv with
    | cons q1 q2 => exact .cons ⟨v, r1, q1⟩ (each_rv r2 q2)
theorem rv_each : ∀ {ws : List W} {us : List Value}, PySem.W.EachIs (fun u a => ∃ x, RV w K fa H ι a x ∧ RelV x u) us ws → ∃ vs, RVs w K fa H ι ws vs ∧ Vals vs us
  | [], us, h => by cases h; exact ⟨[], .nil, .nil⟩
  | a :: as, us, h => by
    cases h with
    | cons q1 q2 =>
      obtain ⟨x, r, rv⟩ := q1
      obtain ⟨vs, rs, rvs⟩ := rv_each q2
      exact ⟨x :: vs, .cons r rs, .cons rv rvs⟩
end
section
variable {X : Cx} {fa : Nat → Option Addr} {pins : List (Addr × Obj)} {σ : L2.St} {H : Hp} {s : Shared} {ι : Pls}
theorem each_reads (I : Inv X pins σ H s) {n : Nat} : ∀ {ws : List W} {vs : List V} {us : List Value}, flats n ws = true → RVs X.w X.K fa H ι ws vs → Vals vs us → PySem.W.EachIs (fun u a => ∃ as, Reads s.heap u (W.py a) as) us ws
  | [], vs, us, _, r, rv => by rw [r.nil_inv] at rv; cases rv; exact .nil
  | a :: as, vs, us, h, r, rv => by
    obtain ⟨v, vs', rfl, r1, r2⟩ := r.cons_inv
    simp only [flats, Bool.and_eq_true] at h
    cases rv with
    | cons q1 q2 => exact .cons (Dp.reads I _ _ _ (dp_flat h.1 r1) q1) (each_reads I h.2 r2 q2)
theorem alike_w {ws : List W} (h : wAlike ws = true) : PySem.W.AllAlike (ws.map W.py) := by
  intro d hd d' hd'
  obtain ⟨b, hb, rfl⟩ := List.mem_map.mp hd
  obtain ⟨b', hb', rfl⟩ := List.mem_map.mp hd'
  exact List.all_eq_true.mp (List.all_eq_true.mp h b hb) b' hb'
theorem sorts_w {ws : List W} (h : wSorts ws = true) : PySem.W.Sortable (ws.map W.py) := by
  unfold wSorts at h
  rw [Bool.or_eq_true] at h
  rcases h with h | h
  · left
    intro d hd
    obtain ⟨b, hb, rfl⟩ := List.mem_map.mp hd
    have := List.all_eq_true.mp h b hb
    cases b with
    | tup us =>
      cases us with
      | nil => cases this
      | cons u us => exact ⟨u.py, pys us, by simp only [W.py, pys]⟩
    | _ => cases this
  · right
    intro d hd
    obtain ⟨b, hb, rfl⟩ := List.mem_map.mp hd
    have := List.all_eq_true.mp h b hb
    cases b <;> first | (cases this; done) | (simp only [W.py]; exact ⟨by simp, fun xs => by simp⟩)
theorem wSortM {ws zs : List W} (h : wSort ws = some zs) : flats 30 ws = true ∧ wAlike ws = true ∧ wSorts ws = true ∧ zs = ws.mergeSort wLe2 := by
  unfold wSort at h
  split at h
  · rename_i hc
    cases h
    exact ⟨hc.1, hc.2.1, hc.2.2, rfl⟩
  · cases h
end
end TZ
namespace TZ
open PySem L2 StX PyProof.Rows
section
variable {X : Cx} {fa : Nat → Option Addr}
theorem leaf_flat {a : W} (h : a.leaf = true) (n : Nat) : a.flat n = true := by cases a <;> first | (cases h; done) | (cases n <;> rfl)
theorem leaf_reads {h : Heap} {a : W} {v : V} {u : Value} {w : World} {K : PySem.W.Frag} {H : Hp} {ι : Pls} (hl : a.leaf = true) (r : RV w K fa H ι a v) (rv : RelV v u) : Reads h u a.py [] := by
  cases a with
  | non => rw [rv_non] at r; subst r; cases rv; simp only [W.py]; exact .none
  | bl b => rw [rv_bl] at r; subst r; cases rv; simp only [W.py]; exact .bool _
  | int i => rw [rv_int] at r; subst r; obtain ⟨t, rfl⟩ := rv; simp only [W.py]; exact .int _ _
  | str x => rw [rv_str] at r; obtain ⟨rfl, _⟩ := r; obtain ⟨t, rfl⟩ := rv; simp only [W.py]; exact .str _ _
  | _ => cases hl
theorem leaf_each {h : Heap} {w : World} {K : PySem.W.Frag} {H : Hp} {ι : Pls} {p : Addr} : ∀ {ws : List W} {vs : List V} {us : List Value}, ws.all W.leaf = true → RVs w K fa H ι ws vs → Vals vs us → PySem.W.EachIs (fun u a => ∃ as, Reads h u (W.py a) as ∧ p ∉ as) us ws
  | [], vs, us, _, r, rv => by rw [r.nil_inv] at rv; cases rv; exact .nil
  | a :: as, vs, us, hl, r, rv => by
    obtain ⟨v, vs', rfl, r1, r2⟩ := r.cons_inv
    rw [List.all_cons, Bool.and_eq_true] at hl
    cases rv with
    | cons q1 q2 => exact .cons ⟨[], leaf_reads hl.1 r1 q1, by simp⟩ (leaf_each hl.2 r2 q2)
theorem ents_keys {w : World} : ∀ {ks : List W} {kvs uvs : List V} {es : List DictEntry}, Ents w ks kvs uvs es → Vals kvs (es.map (·.key)) ∧ Vals uvs (es.map (·.val))
  | _, _, _, _, .nil => ⟨.nil, .nil⟩
  | _, _, _, _, .cons _ b c t => ⟨.cons b (ents_keys t).1, .cons c (ents_keys t).2⟩
theorem b_sorted (hu : X.A.units + 65 < cLine) (hc : X.calm = true) : CallR X (.builtin "sorted") (rCl X.w X.K fa bSorted) := by
  rintro pins s σ H xs us Q I rxs ⟨ι, S, as, c, S', rs, ras, hg, q⟩
  unfold bSorted at hg
  split at hg
  · rename_i a
    obtain ⟨v, vs0, rfl, r, r2⟩ := ras.cons_inv
    obtain rfl := r2.nil_inv
    split at hg
    · rename_i ks uu hd
      split at hg
      · rename_i hleaf
        split at hg
        · rename_i zs hz
          have e : some (W.ref S.length, S ++ [Ob.lst zs]) = some (c, S') := hg
          cases e
          obtain ⟨z1, z2, z3, rfl⟩ := wSortM hz
          obtain ⟨p, es, ep, kvs, uvs, rfl, hp, en, nd, rk, ru⟩ := dictOf_rv rs hd r
          obtain ⟨u, rfl, rx⟩ := rxs.one
          obtain rfl : u = Value.ref p := rx
          obtain ⟨g1, g2, o, ho, hex, hdt⟩ := dob_at I hp
          have hle : es.toArray.size ≤ sizeLine := by simpa using g2
          refine Calls.call_function_entry PyProof.Rows.kind_sorted PyProof.Rows.plain_sorted PyProof.Rows.entry_sorted (PyProof.Rows.args_sorted1 _) ?_
          unfold Builtin.«sorted»
          refine wpAny_bind (m := checkCount "sorted" 1 1 _) (wpAny_pure ?_)
          refine wpAny_bind (PySem.W.kdu_collect (A := X.A.in1) (kdl_raw g1 hex hdt) (I.ok.hd hc) ho hle fun h' tk acc hk hacc => ?_)
          have eacc : acc.toList = es.map (·.key) := by
            apply List.ext_getElem?
            intro j
            have hsz : acc.toList.length = es.length := by rw [Array.length_toList, hacc.1]; simp
            cases hj : acc.toList[j]? with
            | none =>
              have h1 := List.getElem?_eq_none_iff.mp hj
              rw [List.getElem?_eq_none (by rw [List.length_map]; omega)]
            | some v =>
              obtain ⟨en', e1, e2⟩ := hacc.2 j v (by rw [← Array.getElem?_toList]; exact hj)
              have e1 : es[j]? = some en' := by simpa using e1
              rw [List.getElem?_map, e1, e2]; rfl
          have I1 : Inv X pins σ H { s with heap := h', toks := tk } := I.kept hk
          have hlen0 : acc.toList.length = ks.length := by rw [eacc, List.length_map]; exact (ents_len en).1.symm
          refine wpAny_bind (wpAny_newList ?_ (by rw [eacc, List.length_map]; exact g2))
          have hoL : (h'.push (seqObj "list" acc.toList.toArray 0)).get? h'.objs.size = some (seqObj "list" acc.toList.toArray 0) := Heap.get?_push_size _ rfl
          show wpAny _ _ _ _ _ { s with heap := h'.push (seqObj "list" acc.toList.toArray 0), toks := tk }
          have vl : Vals kvs acc.toList := by rw [eacc]; exact (ents_keys en).1
          refine wpAny_bind (wpAny_holding (PySem.W.list_sort_data (s := { s with heap := h'.push (seqObj "list" acc.toList.toArray 0), toks := tk }) (enc := W.py) (R := fun u a => ∃ x, RV X.w X.K fa H ι a x ∧ RelV x u) hoL
            (each_rv rk vl) (leaf_each hleaf rk vl) (alike_w z2) (sorts_w z3) (by rw [(ents_len en).1]; exact g2) (fun b hb => ?_) fun out hlo heo => ?_))
          · have := depth_flat b 30 (flats_mem z1 b hb)
            show X.A.in1.units + 1 + (W.py b).depth < cLine
            have hin : X.A.in1.units ≤ X.A.units + 1 := by first | exact Nat.le_refl _ | simp [Around.in1]
            omega
          · obtain ⟨xs', rvs, vls⟩ := rv_each heo
            obtain ⟨e', he'⟩ := PyProof.Rows.sortedHeap_at (vs := acc.toList) (out := out.toArray) hoL
            have hlen : xs'.length ≤ sizeLine := by rw [vls.length, hlo, (ents_len en).1]; exact g2
            refine wpAny_pure ⟨_, rfl, .ref h'.objs.size, upd H h'.objs.size (.lst xs'), I1.laid (t' := tk) (fun b u e => ?_) (Nat.le_refl _)
              (show ObjOk X.prog X.w _ _ _ (.lst xs') from ⟨hlen, out, e', vls, he'⟩), rfl, q.push_lst rs rvs (I1.hok.fresh (Nat.le_refl _))⟩
            have hb : b < h'.objs.size := Heap.lt_size e
            rw [PyProof.Rows.sortedHeap_old (Nat.ne_of_lt hb) (by rw [size_push']; exact Nat.lt_succ_of_lt hb)]
            exact Heap.get?_push_of_some _ e
        · cases hg
      · cases hg
    · split at hg
      · rename_i ws hw
        split at hg
        · rename_i zs hz
          have e : some (W.ref S.length, S ++ [Ob.lst zs]) = some (c, S') := hg
          cases e
          obtain ⟨z1, z2, z3, rfl⟩ := wSortM hz
          obtain ⟨p, vs, rfl, hq, r'⟩ := listOf_rv rs hw r
          obtain ⟨u, rfl, rx⟩ := rxs.one
          obtain rfl : u = Value.ref p := rx
          obtain ⟨its, rv, pl, hsz⟩ := I.list hq
          have hlw : ws.length = vs.length := r'.length
          refine PySem.W.sorted_data (enc := W.py) (R := fun u a => ∃ x, RV X.w X.K fa H ι a x ∧ RelV x u) pl.isList (each_rv r' rv) (each_reads I z1 r' rv) (alike_w z2) (sorts_w z3) (by rw [hlw]; exact hsz) (fun b hb => ?_) fun out hlo heo => ?_
          · have := depth_flat b 30 (flats_mem z1 b hb)
            omega
          · obtain ⟨xs', rvs, vls⟩ := rv_each heo
            obtain ⟨e', he'⟩ := PyProof.Rows.sortedAll_at s.heap its out.toArray
            have hlen : xs'.length ≤ sizeLine := by rw [vls.length, hlo, hlw]; exact hsz
            exact ⟨.ref (s.heap.objs.size + 1), upd H (s.heap.objs.size + 1) (.lst xs'), I.laid (t' := s.toks) (fun b u e => PyProof.Rows.sortedAll_old e) (Nat.le_succ _)
              (show ObjOk X.prog X.w _ _ _ (.lst xs') from ⟨hlen, out, e', vls, he'⟩), rfl, q.push_lst rs rvs (I.hok.fresh (Nat.le_succ _))⟩
        · cases hg
      · cases hg
  · cases hg
end
end TZ

set_option Elab.async false
set_option linter.all false
set_option maxRecDepth 100000
set_option maxHeartbeats 1000000
/-! B2: comprehensions of dicts. -/
namespace TZ
open PySem PySem.Spec L2 StX PyProof.Rows

theorem dcL_nil {src : List (Nat × Ob)} {f : W → M (Option (W × W))} {p q : List W × List W} {S S' : Sto} (h : dcL src f [] p S = some (q, S')) : stands S src = true ∧ q = p ∧ S' = S := by
  unfold dcL at h
  split at h
  · cases h; exact ⟨by assumption, rfl, rfl⟩
  · cases h
theorem dcL_cons {src : List (Nat × Ob)} {f : W → M (Option (W × W))} {x : W} {xs : List W} {p q : List W × List W} {S S' : Sto} (h : dcL src f (x :: xs) p S = some (q, S')) :
    stands S src = true ∧ ∃ r S1, f x S = some (r, S1) ∧ ((∃ k v, r = some (k, v) ∧ keyFor p.1 k = true ∧ dcL src f xs (dPut p.1 p.2 k v) S1 = some (q, S')) ∨ (r = none ∧ dcL src f xs p S1 = some (q, S'))) := by
  unfold dcL at h
  split at h
  · rename_i hs
    refine ⟨hs, ?_⟩
    cases e : f x S with
    | none => rw [e] at h; cases h
    | some y =>
      obtain ⟨r, S1⟩ := y
      rw [e] at h
      cases r with
      | none => exact ⟨none, S1, rfl, .inr ⟨rfl, h⟩⟩
      | some kv =>
        obtain ⟨k, v⟩ := kv
        simp only at h
        split at h
        · rename_i hk
          exact ⟨_, S1, rfl, .inl ⟨k, v, rfl, hk, h⟩⟩
        · cases h
  · cases h
theorem turnDM {t : P} {vs : List Nat} {ρ : Rho} {c k v : Dn} {x : W} {S S' : Sto} {r : Option (W × W)} (h : turnD t vs ρ c k v x S = some (r, S')) : ∃ ρ' b S1, P.put t x (wipeR ρ vs) = some ρ' ∧ truth (c.v ρ') S = some (b, S1) ∧
    ((b = true ∧ ∃ y S2 z, k.v ρ' S1 = some (y, S2) ∧ v.v ρ' S2 = some (z, S') ∧ r = some (y, z)) ∨ (b = false ∧ S' = S1 ∧ r = none)) := by
  unfold turnD at h
  split at h
  · rename_i ρ' hp
    split at h
    · rename_i S1 ht
      split at h
      · rename_i y S2 hy
        split at h
        · rename_i z S3 hz
          cases h
          exact ⟨ρ', true, S1, hp, ht, .inl ⟨rfl, y, S2, z, hy, hz, rfl⟩⟩
        · cases h
      · cases h
    · rename_i S1 ht
      cases h
      exact ⟨ρ', false, _, hp, ht, .inr ⟨rfl, rfl, rfl⟩⟩
    · cases h
  · cases h
theorem dPut_len (ks us : List W) (x v : W) : (dPut ks us x v).1.length ≤ ks.length + 1 := by
  unfold dPut
  split <;> simp
/-- a block's slots, wiped again -/
theorem wipe_back {vs us : List Nat} {σ σ2 : L2.St} (sw : Sw us (L2.wipe σ vs) σ2) (hsub : ∀ i ∈ us, i ∈ vs) : L2.wipe σ2 vs = L2.wipe σ vs := by
  have hh := sw.wipe (vs := vs) hsub
  rw [hh]
  apply List.ext_getElem?
  intro j
  by_cases hj : j ∈ vs
  · by_cases hjl : j < σ.length
    · rw [wipe_at hj (by rw [wipe_length]; exact hjl), wipe_at hj hjl]
    · rw [List.getElem?_eq_none (by rw [wipe_length, wipe_length]; omega), List.getElem?_eq_none (by rw [wipe_length]; omega)]
  · rw [wipe_out hj]

section
variable {X : Cx} {fa : Nat → Option Addr}
/-- d[k] = v by a comprehension, in any context over the same program -/
theorem mkd_set {Y : Cx} {pins : List (Addr × Obj)} {σ : L2.St} {s : Shared} {D : Addr} {ι1 ι2 : Pls} {H1 H2 : Hp} {S2 : Sto} {ks us : List W} {x y : W} {kv uv : V} {key val : Value} {Q : Unit → Shared → Prop} {E : Value → Shared → Prop}
    (hu : Y.A.units + 65 < cLine) (hD : H1 D = none) (I : Inv Y pins σ H2 s) (mk : Mkd Y.w Y.K fa ι1 H1 D ι2 H2 S2 ks us) (hl : ks.length < sizeLine) (hk : keyFor ks x = true) (r1 : RV Y.w Y.K fa H2 ι2 x kv) (r2 : RV Y.w Y.K fa H2 ι2 y uv) (rk : RelV kv key) (rv : RelV uv val)
    (h : ∀ s' H3, Inv Y pins σ H3 s' → Exh ι2 H2 ι2 H3 → (∀ b, b ≠ D → H3 b = H2 b) → Mkd Y.w Y.K fa ι1 H1 D ι2 H3 S2 (dPut ks us x y).1 (dPut ks us x y).2 → Q () s') :
    wpAny (model Y.prog Y.w) Y.A (dictSet D key val) Q E s := by
  obtain ⟨es, ep, kvs, uvs, h1, h2, h3, h4, h5⟩ := mk.at_
  obtain ⟨g1, g2, o, ho, hx, hd⟩ := dob_at I h1
  obtain ⟨l1, l2, l3⟩ := ents_len h2
  obtain ⟨c, ka⟩ := key_at (A := Y.A) (us := us) (by omega) I ho hd h2 h3 h4 hk r1 rk
  refine d_set ka ho hx hd g2 fun h' o' g h6 h7 h8 => ?_
  have hm : D ∈ ι2.hd := by rw [mk.hd]; exact List.mem_cons_self
  have hle : (putE es (kIdx ks x) (x.nkey.hash Y.w) key val).length ≤ sizeLine := by
    unfold putE
    cases kIdx ks x with
    | some i => simpa using g2
    | none => simp; omega
  have mk' := mk.put (y := y) hD hk rk rv r1 r2 h1 h2 h3 h4 h5
  have xw : Exh ι2 H2 ι2 (upd H2 D (dOb D (putE es (kIdx ks x) (x.nkey.hash Y.w) key val) (putN ep (kIdx ks x)))) := exh_write hm
  have I' := I.write (t' := s.toks + c) (x := D) (e := D) (by rw [h1]; exact trivial) (.inl rfl) (fun b z hb hz => (h8.2 b hb).trans hz) ⟨_, g⟩ (dob_ok g1 hle g h6 h7)
  exact h _ _ I' xw (fun b hb => upd_ne hb) mk'
/-- a dict comprehension's run, whatever is done with the dict -/
theorem dcw_core {pins : List (Addr × Obj)} {s : Shared} {σ : L2.St} {H : Hp} {Q : VK} {use : Option (Value → Sem Unit)} {Qf : Value → Shared → Prop} {pos' : Pos} {kx vx tg iter : Expr} {ifs : List Expr} {scope : Scope} {own : List (Str × Nat)} {pos : Pos} {t : P} {it c k v : Dn} (hu : X.A.units + 65 < cLine) (hc : X.calm = true) (hN : X.N.Nodup)
    (I : Inv X pins σ H s) (hi : PI X tg iter (rI X.w X.K fa it.it)) (ok : BlkOk X.N X.env.scope scope own) (hsub : ∀ i ∈ t.slots, i ∈ own.map (·.2)) (hs : ∀ x, foldedSetIterable iter X.env x = pure x)
    (hg : ∀ (s : Shared) (H : Hp) (C : Addr) (cl : List (Str × Addr)) (fp : List Addr), PG (X.blk s H scope (compEnvC scope cl C X.env) fp) tg (rP X.w X.K fa t))
    (ht : ∀ (s : Shared) (H : Hp) (C : Addr) (cl : List (Str × Addr)) (fp : List Addr), PTs (X.blk s H scope (compEnvC scope cl C X.env) fp) ifs (rB X.w X.K fa fun ρ => truth (c.v ρ)))
    (hk : ∀ (s : Shared) (H : Hp) (C : Addr) (cl : List (Str × Addr)) (fp : List Addr), PE (X.blk s H scope (compEnvC scope cl C X.env) fp) kx (rV X.w X.K fa k.v))
    (hv : ∀ (s : Shared) (H : Hp) (C : Addr) (cl : List (Str × Addr)) (fp : List Addr), PE (X.blk s H scope (compEnvC scope cl C X.env) fp) vx (rV X.w X.K fa v.v))
    (h : rV X.w X.K fa (fun ρ => do
      let p ← it.it ρ
      let q ← dcL p.2 (turnD t (own.map (·.2)) ρ c k v) p.1 ([], [])
      M.new (.dct q.1 q.2)) σ H Q)
    (hRR : ∀ D C s' m H', Inv X pins σ H' s' → Q (.ref D) H' → s'.heap.Ns C m → FpOk X pins H' C → compPost (model X.prog X.w) X.A X.xe use Qf (.ref D) C (.ok .next) s') :
    wpAny (model X.prog X.w) X.A (comprehension (.DictComp kx vx [⟨tg, iter, ifs, 0⟩] scope pos) scope X.env pos' newDict false (eval iter X.env) use) Qf X.xe s := by
  obtain ⟨ι, ρ, S, r, S', rs, rr, hm, q⟩ := h
  obtain ⟨⟨xs, src⟩, S1, h1, hm1⟩ := bindM hm
  obtain ⟨⟨kz, uz⟩, S2, h2, hm2⟩ := bindM hm1
  have e0 : some (W.ref S2.length, S2 ++ [Ob.dct kz uz]) = some (r, S') := hm2
  cases e0
  clear hm hm1 hm2
  have freed : ∀ y ∈ scope.names, y.2 = .free → ∃ cc, X.env.cells.lookup y.1 = some cc := fun y hy e =>
    (ok.free y hy e).elim (fun z => I.ok.has _ (.inl z)) (fun z => I.ok.has _ (.inr z))
  have walk := hi.run pins s σ H (fun J H2 => ∃ ι1, Ext ι H ι1 H2 ∧ RS X.w X.K fa H2 ι1 S1 ∧ xs.length ≤ sizeLine ∧ Wk X.w X.K fa J xs src H2 ι1) I
    ⟨ι, ρ, S, xs, src, S1, rs, rr, h1, fun J H2 ι1 x1 rs1 hl wk => ⟨ι1, x1, rs1, hl, wk⟩⟩
  refine wpAny_comprehension_free (use := use) rfl hs (closure_ok freed) ok.kind (fun y hy e => by rw [ok.uniq y hy, e]) (thn walk fun xv s1 hx => thn hx fun itv s2 hw => ?_)
  obtain ⟨itr, fp, tn, J, H2, e, I2, T, st2, f2, ι1, x1, rs1, hlen, wk⟩ := hw
  subst e
  refine wpAny_newObj_type (newEnv_comp ?_)
  generalize hDe : s2.heap.objs.size = D
  have hD : H2 D = none := I2.hok.fresh (Nat.le_of_eq hDe)
  -- the new dict
  have mk0 := Mkd.start (w := X.w) (K := X.K) (fa := fa) rs1 hD
  generalize hs3 : ({ s2 with heap := s2.heap.push { cls := .type "dict", data := .dict #[] } } : Shared) = s3
  have h3 : s3.heap = s2.heap.push { cls := .type "dict", data := .dict #[] } := by rw [← hs3]
  have old3 : ∀ (b : Addr) (o : Obj), s2.heap.get? b = some o → s3.heap.get? b = some o := fun b o e => by rw [h3]; exact Heap.get?_push_of_some _ e
  have I3 : Inv X pins σ (upd H2 D (dOb D [] 0)) s3 := by
    rw [← hs3]
    refine I2.laid (t' := s2.toks) (fun b o e => Heap.get?_push_of_some _ e) (Nat.le_of_eq hDe) ?_
    rw [← hDe]
    exact dob_ok (beq_eq_false_iff_ne.mpr (Ne.symm (Nat.ne_of_lt I2.big))) (Nat.zero_le _) (Heap.get?_push_size _ rfl) ⟨rfl, rfl, rfl⟩ rfl
  have small : ∀ b ∈ fp, b < s2.heap.objs.size := fun b hb => (T.obj _ _ st2 b hb).elim fun o z => Heap.lt_size z.1
  have f3 : ∀ b ∈ fp, FpOk X pins (upd H2 D (dOb D [] 0)) b ∧ b < s3.heap.objs.size := fun b hb => by
    have lt := small b hb
    refine ⟨⟨?_, (f2 b hb).2⟩, by rw [h3, Heap.size_push]; exact Nat.lt_succ_of_lt lt⟩
    rw [upd_ne (by rw [← hDe]; exact Nat.ne_of_lt lt)]
    exact (f2 b hb).1
  have st3 : tn 0 s3.heap := T.keep _ _ _ st2 fun b _ o e => old3 b o e
  have I4 := block_start I3 ok hN f3
  have pg := hg s3 (upd H2 D (dOb D [] 0)) s3.heap.objs.size (cellsFrom (s3.heap.objs.size + 1) scope.names (cloFrom X.env.cells scope.names [])) fp
  have pt := ht s3 (upd H2 D (dOb D [] 0)) s3.heap.objs.size (cellsFrom (s3.heap.objs.size + 1) scope.names (cloFrom X.env.cells scope.names [])) fp
  have pk := hk s3 (upd H2 D (dOb D [] 0)) s3.heap.objs.size (cellsFrom (s3.heap.objs.size + 1) scope.names (cloFrom X.env.cells scope.names [])) fp
  have pv := hv s3 (upd H2 D (dOb D [] 0)) s3.heap.objs.size (cellsFrom (s3.heap.objs.size + 1) scope.names (cloFrom X.env.cells scope.names [])) fp
  have none3 : ∀ b ∈ fp, (upd H2 D (dOb D [] 0)) b = none := fun b hb => (f3 b hb).1.1
  have notD : ∀ b ∈ fp, b ≠ D := fun b hb => by rw [← hDe]; exact Nat.ne_of_lt (small b hb)
  show codeAny _ _ (.compStart (.DictComp kx vx [⟨tg, iter, ifs, 0⟩] scope pos) 0 (.ref itr) (.ref D) (compEnvC scope (cellsFrom (s3.heap.objs.size + 1) scope.names (cloFrom X.env.cells scope.names [])) s3.heap.objs.size X.env)) (compPost (model X.prog X.w) X.A X.xe use Qf (.ref D) s3.heap.objs.size) { s3 with heap := pushCells (s3.heap.push { cls := .type "dict", data := .dict #[] }) scope.names }
  generalize hce : compEnvC scope (cellsFrom (s3.heap.objs.size + 1) scope.names (cloFrom X.env.cells scope.names [])) s3.heap.objs.size X.env = ce at I4 pg pt pk pv ⊢
  have ceL : ce.locals = s3.heap.objs.size := by subst hce; rfl
  generalize hH3 : upd H2 D (dOb D [] 0) = H3 at I3 I4 pg pt pk pv none3 f3 mk0
  generalize hs4 : ({ s3 with heap := pushCells (s3.heap.push { cls := .type "dict", data := .dict #[] }) scope.names } : Shared) = s4 at I4 ⊢
  have st4 : tn 0 s4.heap := T.keep _ _ _ st3 fun b _ o e => by rw [← hs4]; exact pushCells_keeps _ _ _ _ (Heap.get?_push_of_some _ e)
  have fpk : ∀ {σ' : L2.St} {H' : Hp} {s' : Shared}, Inv (X.blk s3 H3 scope ce fp) [] σ' H' s' → (∀ b ∈ fp, H' b = none) → ∀ b ∈ fp, FpOk (X.blk s3 H3 scope ce fp) [] H' b := fun {σ' H' s'} I' hn b hb =>
    ⟨hn b hb, (I'.ok.exf b hb).1, I'.ok.exfs b hb, .inl hb, fun x cc e => (I'.ok.exf b hb).2 x cc e, fun p hp => absurd (show p ∈ ([] : List (Addr × Obj)) ++ [] from hp) (by simp)⟩
  have loop : codeAny (model X.prog X.w) X.A (.compLoop (.DictComp kx vx [⟨tg, iter, ifs, 0⟩] scope pos) 0 (.ref itr) (.ref D) ce) (compPost (model X.prog X.w) X.A X.xe use Qf (.ref D) s3.heap.objs.size) s4 := by
    refine compLoop_anyD (fun n s' => ∃ i H' ι2 Sm ks us, n = xs.length - i ∧ i ≤ xs.length ∧ ks.length ≤ i ∧ Inv (X.blk s3 H3 scope ce fp) [] (L2.wipe σ (own.map (·.2))) H' s' ∧ tn i s'.heap ∧ (∀ b ∈ fp, H' b = none) ∧
      Mkd X.w X.K fa ι1 H2 D ι2 H' Sm ks us ∧ dcL src (turnD t (own.map (·.2)) ρ c k v) (xs.drop i) (ks, us) Sm = some ((kz, uz), S2)) ?_ xs.length ⟨0, H3, ι1.hide D, S1, [], [], by simp, Nat.zero_le _, Nat.le_refl _, I4, st4, none3, mk0, by simpa using h2⟩
    rintro n s5 ⟨i, H5, ι5, S5, ks, us, rfl, hi5, hk5, I5, st5, n5, mk5, run5⟩
    by_cases hlt : i < xs.length
    · rw [List.drop_eq_getElem_cons hlt] at run5
      obtain ⟨hst, rr5, S6, hf, hrest⟩ := dcL_cons run5
      obtain ⟨_, hw⟩ := wk H5 ι5 S5 mk5.xh mk5.rs hst i
      obtain ⟨hgo, hy⟩ := hw _ (List.getElem?_eq_getElem hlt)
      have ti := T.item (X.blk s3 H3 scope ce fp) rfl rfl rfl hc i [] s5 _ H5 (fun _ _ => False) I5 (fpk I5 n5) st5 hgo
      refine thnF ti fun r s6 ⟨u, hr, h6⟩ => ?_
      subst hr
      refine thnF h6 fun _ s7 ⟨x, H7, I7, r7, y7, st7, n7⟩ => ?_
      obtain ⟨ι7, x7, rs7, rv7⟩ := hy x H7 y7
      have mk7 := mk5.step x7 rs7
      have I7' := I7.pinned (fpk I7 n7) (T.obj _ _ st7)
      obtain ⟨ρ', b, S7, hp, htr, hb⟩ := turnDM hf
      refine thnF (pg.run _ s7 _ H7 x u (fun σ2 H' => H7 = H' ∧ RR X.w X.K fa H7 ι7 ρ' σ2 ∧ Sw t.slots (L2.wipe σ (own.map (·.2))) σ2) I7' r7 ⟨ι7, wipeR ρ (own.map (·.2)), S5, xs[i], ρ', rs7, ((rr.mono x1).monoH mk7.xh).wipe _, rv7, hp, fun σ2 a1 a2 => ⟨rfl, a1, a2⟩⟩) fun _ s8 ⟨σ8, H8, I8, eH8, rr8, sw8⟩ => ?_
      subst eH8
      refine thnF (pt.run _ s8 σ8 _ (fun b' H' => b = b' ∧ ∃ ι9, Ext ι7 H7 ι9 H' ∧ RS X.w X.K fa H' ι9 S7) I8 ⟨ι7, ρ', S5, b, S7, rs7, rr8, htr, fun H9 ι9 x9 rs9 => ⟨rfl, ι9, x9, rs9⟩⟩) fun b' s9 ⟨H9, I9, eb, ι9, x9, rs9⟩ => ?_
      subst eb
      have mk9 := mk7.step x9 rs9
      have fin : ∀ {s' : Shared} {H' : Hp} {ιe : Pls} {Se : Sto} {ke ue : List W}, Inv (X.blk s3 H3 scope ce fp) ([] ++ pinsAt fp s7.heap) σ8 H' s' → Mkd X.w X.K fa ι1 H2 D ιe H' Se ke ue → ke.length ≤ i + 1 →
          dcL src (turnD t (own.map (·.2)) ρ c k v) (xs.drop (i + 1)) (ke, ue) Se = some ((kz, uz), S2) → ∃ m, m < xs.length - i ∧ ∃ i H' ι2 Sm ks us, m = xs.length - i ∧ i ≤ xs.length ∧ ks.length ≤ i ∧ Inv (X.blk s3 H3 scope ce fp) [] (L2.wipe σ (own.map (·.2))) H' s' ∧ tn i s'.heap ∧ (∀ b ∈ fp, H' b = none) ∧
          Mkd X.w X.K fa ι1 H2 D ι2 H' Sm ks us ∧ dcL src (turnD t (own.map (·.2)) ρ c k v) (xs.drop i) (ks, us) Sm = some ((kz, uz), S2) := by
        intro s' H' ιe Se ke ue I' mke lke re
        have hw8 := wipe_back sw8 hsub
        have pin' : ∀ b ∈ fp, ∀ o, s7.heap.get? b = some o → s'.heap.get? b = some o ∧ H' b = none := fun b hb o e =>
          let z := I'.pin (b, o) (List.mem_append_right _ (List.mem_append_right _ (mem_pinsAt hb e)))
          ⟨z.1, z.2.1⟩
        have hl : (L2.wipe σ (own.map (·.2))).length = σ8.length := by rw [← hw8, wipe_length]
        refine ⟨xs.length - (i + 1), by omega, i + 1, H', ιe, Se, ke, ue, rfl, hlt, lke, (I'.unpinned (pins := [])).weak hl (fun j v e => ?_), T.keep _ _ _ st7 fun b hb o e => (pin' b hb o e).1, fun b hb => ?_, mke, re⟩
        · rw [← hw8] at e
          exact (wipe_some e).1
        · obtain ⟨o, e, _⟩ := T.obj _ _ st7 b hb
          exact (pin' b hb o e).2
      rcases hb with ⟨rfl, yv, S8, zv, hy8, hz8, rfl⟩ | ⟨rfl, rfl, rfl⟩
      · show wpAny _ _ _ _ _ _
        refine thnF (pk.run _ s9 σ8 H9 (fun v' H' => ∃ ι10, Ext ι9 H9 ι10 H' ∧ RS X.w X.K fa H' ι10 S8 ∧ RV X.w X.K fa H' ι10 yv v') I9 ⟨ι9, ρ', S7, yv, S8, rs9, rr8.mono x9, hy8, fun v' H' ι' a1 a2 a3 => ⟨ι', a1, a2, a3⟩⟩) fun u10 s10 ⟨v10, H10, I10, r10, ι10, x10, rs10, rv10⟩ => ?_
        refine thnF (pv.run _ s10 σ8 H10 (fun v' H' => ∃ ι11, Ext ι10 H10 ι11 H' ∧ RS X.w X.K fa H' ι11 S6 ∧ RV X.w X.K fa H' ι11 zv v') I10 ⟨ι10, ρ', S8, zv, S6, rs10, (rr8.mono x9).mono x10, hz8, fun v' H' ι' a1 a2 a3 => ⟨ι', a1, a2, a3⟩⟩) fun u11 s11 ⟨v11, H11, I11, r11, ι11, x11, rs11, rv11⟩ => ?_
        rcases hrest with ⟨k1, v1, e1, hkf, hrest⟩ | ⟨e1, _⟩
        · cases e1
          have mk11 := (mk9.step x10 rs10).step x11 rs11
          exact mkd_set (Y := X.blk s3 H3 scope ce fp) (fa := fa) hu hD I11 mk11 (by omega) hkf (rv10.mono x11) rv11 r10 r11 fun s12 H12 I12 _ _ mk12 => fin I12 mk12 (by have := dPut_len ks us yv zv; omega) hrest
        · cases e1
      · show ∃ m, _
        rcases hrest with ⟨k1, v1, e1, _, _⟩ | ⟨_, hrest⟩
        · cases e1
        · exact fin I9 mk9 (by omega) hrest
    · have e : i = xs.length := by omega
      subst e
      rw [List.drop_length] at run5
      obtain ⟨hst, ekz, rfl⟩ := dcL_nil run5
      cases ekz
      obtain ⟨hstop, _⟩ := wk H5 ι5 _ mk5.xh mk5.rs hst xs.length
      have td := T.done (X.blk s3 H3 scope ce fp) rfl rfl rfl hc xs.length [] s5 _ H5 (fun _ _ => False) I5 (fpk I5 n5) st5 (hstop rfl)
      refine thnF td fun r s6 ⟨hr, I6⟩ => ?_
      subst hr
      have I7 : Inv X pins σ H5 s6 := I3.call' (ch := fp) I6.os I6.base I6.hok I6.bare fun b hb => ⟨(f3 b hb).1.2.2.2.1, (f3 b hb).1.2.1, (f3 b hb).1.2.2.2.2.1, (f3 b hb).1.2.2.2.2.2⟩
      have nC : H5 s3.heap.objs.size = none := by
        have z : H5 ce.locals = none := I6.free
        rw [ceL] at z
        exact z
      obtain ⟨m, hn, _⟩ := I6.loc
      have hn : s6.heap.Ns ce.locals m := hn
      rw [ceL] at hn
      exact hRR D s3.heap.objs.size s6 m H5 I7 (mk5.fin x1 hD rs1 q) hn (I3.fpOk (Nat.le_refl _) nC)
  exact codeAny_compStart_dict loop (T.self X.A 0 _ _ _ st4 loop)
theorem ev_dc {kx vx tg iter : Expr} {ifs : List Expr} {scope : Scope} {own : List (Str × Nat)} {pos : Pos} {t : P} {it c k v : Dn} (hu : X.A.units + 65 < cLine) (hc : X.calm = true) (hN : X.N.Nodup)
    (hi : PI X tg iter (rI X.w X.K fa it.it)) (ok : BlkOk X.N X.env.scope scope own) (hsub : ∀ i ∈ t.slots, i ∈ own.map (·.2)) (hs : ∀ x, foldedSetIterable iter X.env x = pure x)
    (hg : ∀ (s : Shared) (H : Hp) (C : Addr) (cl : List (Str × Addr)) (fp : List Addr), PG (X.blk s H scope (compEnvC scope cl C X.env) fp) tg (rP X.w X.K fa t))
    (ht : ∀ (s : Shared) (H : Hp) (C : Addr) (cl : List (Str × Addr)) (fp : List Addr), PTs (X.blk s H scope (compEnvC scope cl C X.env) fp) ifs (rB X.w X.K fa fun ρ => truth (c.v ρ)))
    (hk : ∀ (s : Shared) (H : Hp) (C : Addr) (cl : List (Str × Addr)) (fp : List Addr), PE (X.blk s H scope (compEnvC scope cl C X.env) fp) kx (rV X.w X.K fa k.v))
    (hv : ∀ (s : Shared) (H : Hp) (C : Addr) (cl : List (Str × Addr)) (fp : List Addr), PE (X.blk s H scope (compEnvC scope cl C X.env) fp) vx (rV X.w X.K fa v.v)) :
    PE X (.DictComp kx vx [⟨tg, iter, ifs, 0⟩] scope pos) (rV X.w X.K fa fun ρ => do
      let p ← it.it ρ
      let q ← dcL p.2 (turnD t (own.map (·.2)) ρ c k v) p.1 ([], [])
      M.new (.dct q.1 q.2)) := by
  refine ⟨fun pins s σ H Q I h => ?_⟩
  rw [arm_eval_DictComp]
  refine dcw_core hu hc hN I hi ok hsub hs hg ht hk hv h fun D C s' m H' I' q hn f => ⟨m, hn, fun h'' sb => ?_⟩
  obtain ⟨f0, f1, f2, f3, f4, f5⟩ := f
  exact ⟨.ref D, H', I'.turned (t' := s'.toks) (fun b o hb e => (sb.2 b hb).trans e) f0 f1 f3 f4 f5, rfl, q⟩
/-- name = {k: v for ..} on one line -/
theorem ps_setDc {i : Nat} {y : Str} {py : Pos} {kx vx tg iter : Expr} {ifs : List Expr} {scope : Scope} {own : List (Str × Nat)} {pos spos : Pos} {t : P} {it c k v : Dn} (hu : X.A.units + 65 < cLine) (hc : X.calm = true) (hN : X.N.Nodup) (hy : X.N[i]? = some y) (hyl : X.env.scope.names.lookup y = some .local)
    (hsw : swapsWith (.DictComp kx vx [⟨tg, iter, ifs, 0⟩] scope pos) (some (.Name y py)) spos.line X.env = pure true)
    (hi : PI X tg iter (rI X.w X.K fa it.it)) (ok : BlkOk X.N X.env.scope scope own) (hsub : ∀ i ∈ t.slots, i ∈ own.map (·.2)) (hs : ∀ x, foldedSetIterable iter X.env x = pure x)
    (hg : ∀ (s : Shared) (H : Hp) (C : Addr) (cl : List (Str × Addr)) (fp : List Addr), PG (X.blk s H scope (compEnvC scope cl C X.env) fp) tg (rP X.w X.K fa t))
    (ht : ∀ (s : Shared) (H : Hp) (C : Addr) (cl : List (Str × Addr)) (fp : List Addr), PTs (X.blk s H scope (compEnvC scope cl C X.env) fp) ifs (rB X.w X.K fa fun ρ => truth (c.v ρ)))
    (hk : ∀ (s : Shared) (H : Hp) (C : Addr) (cl : List (Str × Addr)) (fp : List Addr), PE (X.blk s H scope (compEnvC scope cl C X.env) fp) kx (rV X.w X.K fa k.v))
    (hv : ∀ (s : Shared) (H : Hp) (C : Addr) (cl : List (Str × Addr)) (fp : List Addr), PE (X.blk s H scope (compEnvC scope cl C X.env) fp) vx (rV X.w X.K fa v.v)) :
    PS X (.Assign [.Name y py] (.DictComp kx vx [⟨tg, iter, ifs, 0⟩] scope pos) spos) (tAsg (rV X.w X.K fa fun ρ => do
      let p ← it.it ρ
      let q ← dcL p.2 (turnD t (own.map (·.2)) ρ c k v) p.1 ([], [])
      M.new (.dct q.1 q.2)) (gName i)) := by
  refine ⟨fun pins s σ H D I h => ?_⟩
  rw [exec_Assign_Name_used _ _ _ _ hsw]
  refine wpAny_bind (wpAny_standAt (wpAny_bind ?_))
  show wpAny _ X.A (do let _ ← comprehension (.DictComp kx vx [⟨tg, iter, ifs, 0⟩] scope pos) scope X.env (firstIterPos [⟨tg, iter, ifs, 0⟩] pos) newDict false (eval iter X.env) (some (assign (.Name y py) X.env))) _ _ s
  refine wpAny_bind (thn (dcw_core (Qf := fun _ s' => SP X pins D .next s') (Q := fun x H1 => gName i x σ H1 D.nx) hu hc hN I hi ok hsub hs hg ht hk hv h fun L C s' m H' I' q hn f => ?_) fun _ s' hq => wpAny_pure (wpAny_pure hq))
  show wpAny _ _ (assign (.Name y py) X.env (.ref L)) _ _ _
  refine wpAny_assign_Name (store_ok2 (v := V.ref L) I' hN hy (.inl hyl) rfl (fun s2 I2 ⟨a, sb, ha⟩ => ?_) (.inr hyl))
  obtain ⟨f0, f1, f2, f3, f4, f5⟩ := f
  have apart : C ≠ a := ha.elim (fun z => by rw [z]; exact f1) fun z e => f4 y a z e.symm
  exact ⟨m, hn.sameBut sb apart, fun h3 sb3 => ⟨_, H', I2.turned (t' := s2.toks) (fun b o hb e => (sb3.2 b hb).trans e) f0 f1 f3 f4 f5, q⟩⟩
end
end TZ

set_option Elab.async false
set_option linter.all false
set_option maxRecDepth 100000
set_option maxHeartbeats 1000000
/-! B3: a dict merged into one in the making. -/
namespace TZ
open PySem PySem.Spec L2 StX PyProof.Rows

theorem forIn_steps {M : Model} {A : Around} {E : Value → Shared → Prop} {f : Nat → PUnit → Sem (ForInStep PUnit)} {P : Nat → Shared → Prop} {hi : Nat} (step : ∀ i s, i < hi → P i s → wpAny M A (f i PUnit.unit) (fun r s' => r = .yield PUnit.unit ∧ P (i + 1) s') E s) :
    ∀ (n i : Nat) (s : Shared), i + n = hi → P i s → wpAny M A (forIn (List.range' i n) PUnit.unit f) (fun _ s' => P hi s') E s
  | 0, i, s, h, p => by
    rw [List.range'_zero, List.forIn_nil]
    have : i = hi := by omega
    subst this
    exact wpAny_pure p
  | n + 1, i, s, h, p => by
    rw [List.range'_succ, List.forIn_cons]
    refine wpAny_bind (thn (step i s (by omega) p) fun r s' ⟨e, p'⟩ => ?_)
    subst e
    exact forIn_steps step n (i + 1) s' (by omega) p'
theorem putAll_keys : ∀ {prs : List (W × W)} {p q : List W × List W}, putAll p prs = some q → ∀ x ∈ prs, x.1.hk 8 = true
  | [], _, _, _, x, hx => nomatch hx
  | (a, b) :: r, p, q, h, x, hx => by
    simp only [putAll] at h
    split at h
    · rename_i hk
      rcases List.mem_cons.mp hx with e | hx
      · rw [e]; exact (keyFor_hk hk).1
      · exact putAll_keys h x hx
    · cases h
theorem zip_keys {p q : List W × List W} {ks us : List W} (hl : ks.length = us.length) (h : putAll p (ks.zip us) = some q) : ∀ x ∈ ks, x.hk 8 = true := by
  intro x hx
  obtain ⟨i, hi, rfl⟩ := List.getElem_of_mem hx
  have hi2 : i < (ks.zip us).length := by simp; omega
  have := putAll_keys h ((ks.zip us)[i]) (List.getElem_mem hi2)
  simpa using this
theorem nodup_filter_le {α : Type} (f : α → Int) (a : α) : ∀ (l : List α), (l.map f).Nodup → (l.filter fun x => f x == f a).length ≤ 1
  | [], _ => by simp
  | b :: l, h => by
    rw [List.map_cons, List.nodup_cons] at h
    rw [List.filter_cons]
    split
    · rename_i hb
      have e : (l.filter fun x => f x == f a) = [] := by
        rw [List.filter_eq_nil_iff]
        intro x hx hfx
        have h1 : f b = f a := by simpa using hb
        have h2 : f x = f a := by simpa using hfx
        exact h.1 (List.mem_map.mpr ⟨x, hx, by rw [h1, h2]⟩)
      rw [e]; simp
    · exact nodup_filter_le f a l h.2
section
variable {X : Cx} {pins : List (Addr × Obj)} {σ : L2.St} {H : Hp} {s : Shared} {A : Around} {E : Value → Shared → Prop} {d : Addr} {o : Obj} {ep c : Nat} {es : List DictEntry} {hash : Int} {key : Value} {ix : Option Nat}
theorem d_put {v : Value} {Q : Unit → Shared → Prop} (ka : KA X.prog X.w A s d hash key ix c) (ho : s.heap.get? d = some o) (hc : o.ExactDict) (hd : o.data = .dict es.toArray ep) (hz : es.length ≤ sizeLine)
    (h : ∀ h' o', h'.get? d = some o' → o'.ExactDict → o'.data = .dict (putE es ix hash key v).toArray (putN ep ix) → Heap.SameBut d s.heap h' → Q () { s with heap := h' }) : wpAny (model X.prog X.w) A (dictPut d hash key v) Q E s := by
  unfold dictPut
  refine wpAny_bind (ka.find s.toks _ _ ?_)
  cases ix with
  | some i =>
    refine wpAny_updateDict ho hd (h _ _ (Heap.get?_update_self _ ho (Obj.isFreed_of_dict (Obj.data_mapDict hd _))) (hc.mapDict _) ?_ (Heap.SameBut.update ..))
    rw [Obj.data_mapDict hd]
    have e : es.toArray.modify i (fun e => { e with val := v }) = (putE es (some i) hash key v).toArray := by
      show _ = (es.modify i _).toArray
      rw [List.modify_toArray]
    rw [e]; rfl
  | none =>
    refine wpAny_updateDictKeys (hz := by simpa using hz) ho hd (h _ _ (Heap.get?_update_self _ ho (Obj.isFreed_of_dict (Obj.data_mapDictKeys hd _))) (hc.mapDictKeys _) ?_ (Heap.SameBut.update ..))
    rw [Obj.data_mapDictKeys hd]
    have e : es.toArray.push ⟨hash, key, v⟩ = (putE es none hash key v).toArray := by
      show _ = (es ++ [_]).toArray
      simp
    rw [e]; rfl
end
theorem mkd_put {Y : Cx} {fa : Nat → Option Addr} {pins : List (Addr × Obj)} {σ : L2.St} {s : Shared} {D : Addr} {ι1 ι2 : Pls} {H1 H2 : Hp} {S2 : Sto} {ks us : List W} {x y : W} {kv uv : V} {key val : Value} {Q : Unit → Shared → Prop} {E : Value → Shared → Prop}
    (hu : Y.A.units + 65 < cLine) (hD : H1 D = none) (I : Inv Y pins σ H2 s) (mk : Mkd Y.w Y.K fa ι1 H1 D ι2 H2 S2 ks us) (hl : ks.length < sizeLine) (hk : keyFor ks x = true) (r1 : RV Y.w Y.K fa H2 ι2 x kv) (r2 : RV Y.w Y.K fa H2 ι2 y uv) (rk : RelV kv key) (rv : RelV uv val)
    (h : ∀ s' H3, Inv Y pins σ H3 s' → Exh ι2 H2 ι2 H3 → (∀ b, b ≠ D → H3 b = H2 b) → (∀ b, b ≠ D → s'.heap.get? b = s.heap.get? b) → Mkd Y.w Y.K fa ι1 H1 D ι2 H3 S2 (dPut ks us x y).1 (dPut ks us x y).2 → Q () s') :
    wpAny (model Y.prog Y.w) Y.A (dictPut D (x.nkey.hash Y.w) key val) Q E s := by
  obtain ⟨es, ep, kvs, uvs, h1, h2, h3, h4, h5⟩ := mk.at_
  obtain ⟨g1, g2, o, ho, hx, hd⟩ := dob_at I h1
  obtain ⟨l1, l2, l3⟩ := ents_len h2
  obtain ⟨c, ka⟩ := key_at (A := Y.A) (us := us) (by omega) I ho hd h2 h3 h4 hk r1 rk
  refine d_put ka ho hx hd g2 fun h' o' g h6 h7 h8 => ?_
  have hm : D ∈ ι2.hd := by rw [mk.hd]; exact List.mem_cons_self
  have hle : (putE es (kIdx ks x) (x.nkey.hash Y.w) key val).length ≤ sizeLine := by
    unfold putE
    cases kIdx ks x with
    | some i => simpa using g2
    | none => simp; omega
  have mk' := mk.put (y := y) hD hk rk rv r1 r2 h1 h2 h3 h4 h5
  have xw : Exh ι2 H2 ι2 (upd H2 D (dOb D (putE es (kIdx ks x) (x.nkey.hash Y.w) key val) (putN ep (kIdx ks x)))) := exh_write hm
  have I' := I.write (t' := s.toks) (x := D) (e := D) (by rw [h1]; exact trivial) (.inl rfl) (fun b z hb hz => (h8.2 b hb).trans hz) ⟨_, g⟩ (dob_ok g1 hle g h6 h7)
  exact h _ _ I' xw (fun b hb => upd_ne hb) (fun b hb => h8.2 b hb) mk'
theorem ents_hash {w : World} : ∀ {ks : List W} {kvs uvs : List V} {es : List DictEntry}, Ents w ks kvs uvs es → es.map (·.hash) = ks.map (·.nkey.hash w)
  | _, _, _, _, .nil => rfl
  | _, _, _, _, .cons a _ _ t => by rw [List.map_cons, List.map_cons, a, ents_hash t]
/-- the look ahead: no two tuples of equal hash -/
theorem merge_look {X : Cx} {fa : Nat → Option Addr} {pins : List (Addr × Obj)} {σ : L2.St} {H2 : Hp} {ι2 : Pls} {s : Shared} (I : Inv X pins σ H2 s) {E : Value → Shared → Prop} (all : List DictEntry) :
    ∀ {k2 : List W} {kv2 uv2 : List V} {es : List DictEntry} {Q : PUnit → Shared → Prop}, Ents X.w k2 kv2 uv2 es → RVs X.w X.K fa H2 ι2 k2 kv2 → (∀ x ∈ k2, x.hk 8 = true ∧ (x.leaf = true ∨ (all.map (·.hash)).Nodup)) → Q PUnit.unit s →
    wpAny (model X.prog X.w) X.A (forIn es PUnit.unit fun e __s =>
        match e.key with
        | Value.ref a => do
          let __do_lift ← specialOf e.key (Str.ofString "__eq__")
          if (__do_lift != some (Value.builtin "object.__eq__")) = true then
              if (Array.filter (fun x => x.hash == e.hash) all.toArray).size > 1 then do
                unsupported "dict.merge-into-an-empty-dict:keys-of-equal-hash"
                pure (ForInStep.yield PUnit.unit)
              else pure (ForInStep.yield PUnit.unit)
            else pure (ForInStep.yield PUnit.unit)
        | x => pure (ForInStep.yield PUnit.unit)) Q E s
  | _, _, _, _, Q, .nil, _, _, q => by
    rw [List.forIn_nil]; exact wpAny_pure q
  | _, _, _, _, Q, .cons (k := k) (e := e) a b c t, r, hk, q => by
    obtain ⟨v, vs', e1, r1, r2⟩ := r.cons_inv
    cases e1
    rw [List.forIn_cons]
    have rest := merge_look (E := E) I all (Q := Q) t r2 (fun x hx => hk x (List.mem_cons_of_mem _ hx)) q
    obtain ⟨hk1, hall⟩ := hk k List.mem_cons_self
    refine wpAny_bind (thn (Q := fun r s' => r = .yield PUnit.unit ∧ s' = s) ?_ fun r s' ⟨e2, e3⟩ => by subst e2; subst e3; exact rest)
    obtain ⟨eh, ek, ev⟩ := e
    cases ek with
    | ref p =>
      have ty : s.TypeIs (.ref p) "tuple" := by
        cases k with
        | tup ws =>
          obtain ⟨p', vs, e4, t4, _⟩ := rv_tup' r1
          rw [e4] at b
          obtain rfl : p = p' := by have b : Value.ref p = Value.ref p' := b; injection b
          obtain ⟨its, _, ⟨o, ho, hc, _⟩, _⟩ := I.tuple t4
          exact ⟨o, ho, hc⟩
        | non => rw [rv_non] at r1; subst r1; cases b
        | bl x => rw [rv_bl] at r1; subst r1; cases b
        | int i => rw [rv_int] at r1; subst r1; obtain ⟨t, b⟩ := b; cases b
        | str x => rw [rv_str] at r1; obtain ⟨rfl, _⟩ := r1; obtain ⟨t, b⟩ := b; cases b
        | _ => cases hk1
      refine wpAny_bind (wpAny_specialOf ty F.slot_tuple_eq.lookup ?_)
      have hf : ¬ (Array.filter (fun x => x.hash == eh) all.toArray).size > 1 := by
        have hall : (all.map (·.hash)).Nodup := by
          refine hall.resolve_left fun hl => ?_
          cases k with
          | tup ws => cases hl
          | non => rw [rv_non] at r1; subst r1; cases b
          | bl x => rw [rv_bl] at r1; subst r1; cases b
          | int i => rw [rv_int] at r1; subst r1; obtain ⟨t, b⟩ := b; cases b
          | str x => rw [rv_str] at r1; obtain ⟨rfl, _⟩ := r1; obtain ⟨t, b⟩ := b; cases b
          | _ => cases hl
        have := nodup_filter_le (fun x : DictEntry => x.hash) ⟨eh, .ref p, ev⟩ all hall
        have e5 : (Array.filter (fun x : DictEntry => x.hash == eh) all.toArray).size = (all.filter fun x => x.hash == eh).length := by simp
        rw [e5]
        exact Nat.not_lt.mpr this
      have e0 : (some (Value.builtin "tuple.__eq__") != some (Value.builtin "object.__eq__")) = true := by decide
      dsimp only
      rw [if_pos e0, if_neg hf]
      exact wpAny_pure ⟨rfl, rfl⟩
    | _ => exact wpAny_pure ⟨rfl, rfl⟩
section
variable {X : Cx} {fa : Nat → Option Addr} {pins : List (Addr × Obj)} {σ : L2.St} {D m : Addr} {ι1 ι2 : Pls} {H1 H2 : Hp} {S2 : Sto} {ks us k2 u2 : List W} {kv2 uv2 : List V} {es : List DictEntry} {ep : Nat} {s : Shared} {kz uz : List W}
theorem merge_ok (hu : X.A.units + 65 < cLine) (hD : H1 D = none) (hne : m ≠ D) (I : Inv X pins σ H2 s) (mk : Mkd X.w X.K fa ι1 H1 D ι2 H2 S2 ks us) (hm : H2 m = some (dOb m es ep)) (en : Ents X.w k2 kv2 uv2 es)
    (rk : RVs X.w X.K fa H2 ι2 k2 kv2) (ru : RVs X.w X.K fa H2 ι2 u2 uv2) (hz : ks.length + k2.length ≤ sizeLine) (hp : putAll (ks, us) (k2.zip u2) = some (kz, uz)) (hg : ks ≠ [] ∨ k2.all W.leaf = true ∨ (k2.map (·.nkey.hash X.w)).Nodup) {Q : Unit → Shared → Prop} {E : Value → Shared → Prop}
    (h : ∀ s' H3, Inv X pins σ H3 s' → Exh ι2 H2 ι2 H3 → Mkd X.w X.K fa ι1 H1 D ι2 H3 S2 kz uz → Q () s') : wpAny (model X.prog X.w) X.A (mergeMapping D (.ref m) false) Q E s := by
  obtain ⟨g1, g2, om, hom, hxm, hdm⟩ := dob_at I hm
  have hT : s.TypeIs (.ref m) "dict" := ⟨om, hom, hxm.1⟩
  obtain ⟨esD, epD, kvs, uvs, h1, h2, h3, h4, h5⟩ := mk.at_
  obtain ⟨_, gD, oD, hoD, hxD, hdD⟩ := dob_at I h1
  unfold mergeMapping
  refine wpAny_bind (wpAny_isInstance hT F.sub_dict_dict ?_)
  simp only [if_true]
  refine wpAny_bind (wpAny_specialOf hT F.slot_dict_iter.lookup ?_)
  have e0 : (some (Value.builtin "dict.__iter__") == some (Value.builtin "dict.__iter__")) = true := by decide
  rw [e0]
  refine wpAny_bind (wpAny_pure ?_)
  try dsimp only
  rw [if_neg (by rw [g1]; exact Bool.false_ne_true)]
  refine wpAny_bind (wpAny_dictEntries hoD hdD ?_)
  obtain ⟨q1, q2, q3⟩ := ents_len en
  have hlen : k2.length = u2.length := by rw [q1, ← q3, ru.length]
  by_cases he : esD.toArray.isEmpty = true
  · rw [if_pos he]
    have hks0 : ks = [] := by
      have := (ents_len h2).1
      have h0 : esD.length = 0 := by simpa using he
      exact List.eq_nil_of_length_eq_zero (by omega)
    have nod : ∀ x ∈ k2, x.hk 8 = true ∧ (x.leaf = true ∨ (es.map (·.hash)).Nodup) := fun x hx => by
      refine ⟨zip_keys hlen hp x hx, ?_⟩
      rcases hg with z | z | z
      · exact absurd hks0 z
      · exact .inl (List.all_eq_true.mp z x hx)
      · right; rw [ents_hash en]; exact z
    refine wpAny_bind (wpAny_dictEntries hom hdm ?_)
    rw [List.forIn_toArray]
    refine wpAny_bind (merge_look I es en rk nod ?_)
    refine wpAny_bind (wpAny_dictEntries hom hdm ?_)
    refine wpAny_bind (wpAny_dictEpoch hom hdm ?_)
    rw [List.size_toArray, List.range_eq_range']
    refine wpAny_bind (thn (forIn_steps (P := fun i s' => ∃ H' ks' us', Inv X pins σ H' s' ∧ Exh ι2 H2 ι2 H' ∧ Mkd X.w X.K fa ι1 H1 D ι2 H' S2 ks' us' ∧ s'.heap.get? m = some om ∧ ks'.length ≤ ks.length + i ∧ putAll (ks', us') ((k2.zip u2).drop i) = some (kz, uz)) (hi := es.length) ?_ es.length 0 s (by omega) ⟨H2, ks, us, I, (Ext.refl _ _).exh, mk, hom, Nat.le_refl _, by simpa using hp⟩) fun _ s' ⟨H', ks', us', I', xh', mk', _, _, e'⟩ => ?_)
    · rintro i s1 hi ⟨H', ks', us', I', xh', mk', hom', hl', e'⟩
      refine wpAny_bind (wpAny_dictEntries hom' hdm ?_)
      have hx : es.toArray[i]? = some es[i] := by simp [hi]
      rw [hx]
      try dsimp only
      have hik : i < k2.length := by omega
      have hiu : i < u2.length := by omega
      have hzip : i < (k2.zip u2).length := by simp; omega
      rw [List.drop_eq_getElem_cons hzip] at e'
      have e1 : (k2.zip u2)[i] = (k2[i], u2[i]) := by simp
      rw [e1] at e'
      simp only [putAll] at e'
      split at e'
      · rename_i hkf
        obtain ⟨k, kv, uv, a1, a2, a3, a4, a5, a6⟩ := ents_get en (List.getElem?_eq_getElem hi)
        rw [List.getElem?_eq_getElem hik] at a1
        cases a1
        obtain ⟨kv', b1, rk1⟩ := (rk.monoH xh').get (List.getElem?_eq_getElem hik)
        rw [a2] at b1; cases b1
        obtain ⟨uv', b2, ru1⟩ := (ru.monoH xh').get (List.getElem?_eq_getElem hiu)
        rw [a3] at b2; cases b2
        refine wpAny_bind (wpAny_holding ?_)
        rw [if_neg Bool.false_ne_true, a4]
        refine mkd_put hu hD I' mk' (by omega) hkf rk1 ru1 a5 a6 fun s2 H3 I3 xh3 _ keep mk3 => ?_
        refine wpAny_bind (wpAny_dictEpoch ((keep m hne).trans hom') hdm ?_)
        rw [if_neg (by simp)]
        exact wpAny_pure ⟨rfl, H3, _, _, I3, xh'.trans xh3, mk3, (keep m hne).trans hom', by have := dPut_len ks' us' k2[i] u2[i]; omega, e'⟩
      · cases e'
    · have hend : (k2.zip u2).drop es.length = [] := by apply List.drop_eq_nil_of_le; simp; omega
      rw [hend] at e'
      cases e'
      exact wpAny_pure (h _ _ I' xh' mk')
  · rw [if_neg he]
    refine wpAny_bind (wpAny_dictEntries hom hdm ?_)
    refine wpAny_bind (wpAny_dictEpoch hom hdm ?_)
    rw [List.size_toArray, List.range_eq_range']
    refine wpAny_bind (thn (forIn_steps (P := fun i s' => ∃ H' ks' us', Inv X pins σ H' s' ∧ Exh ι2 H2 ι2 H' ∧ Mkd X.w X.K fa ι1 H1 D ι2 H' S2 ks' us' ∧ s'.heap.get? m = some om ∧ ks'.length ≤ ks.length + i ∧ putAll (ks', us') ((k2.zip u2).drop i) = some (kz, uz)) (hi := es.length) ?_ es.length 0 s (by omega) ⟨H2, ks, us, I, (Ext.refl _ _).exh, mk, hom, Nat.le_refl _, by simpa using hp⟩) fun _ s' ⟨H', ks', us', I', xh', mk', _, _, e'⟩ => ?_)
    · rintro i s1 hi ⟨H', ks', us', I', xh', mk', hom', hl', e'⟩
      refine wpAny_bind (wpAny_dictEntries hom' hdm ?_)
      have hx : es.toArray[i]? = some es[i] := by simp [hi]
      rw [hx]
      try dsimp only
      have hik : i < k2.length := by omega
      have hiu : i < u2.length := by omega
      have hzip : i < (k2.zip u2).length := by simp; omega
      rw [List.drop_eq_getElem_cons hzip] at e'
      have e1 : (k2.zip u2)[i] = (k2[i], u2[i]) := by simp
      rw [e1] at e'
      simp only [putAll] at e'
      split at e'
      · rename_i hkf
        obtain ⟨k, kv, uv, a1, a2, a3, a4, a5, a6⟩ := ents_get en (List.getElem?_eq_getElem hi)
        rw [List.getElem?_eq_getElem hik] at a1
        cases a1
        obtain ⟨kv', b1, rk1⟩ := (rk.monoH xh').get (List.getElem?_eq_getElem hik)
        rw [a2] at b1; cases b1
        obtain ⟨uv', b2, ru1⟩ := (ru.monoH xh').get (List.getElem?_eq_getElem hiu)
        rw [a3] at b2; cases b2
        refine wpAny_bind (wpAny_holding ?_)
        rw [if_neg Bool.false_ne_true, a4]
        refine mkd_put hu hD I' mk' (by omega) hkf rk1 ru1 a5 a6 fun s2 H3 I3 xh3 _ keep mk3 => ?_
        refine wpAny_bind (wpAny_dictEpoch ((keep m hne).trans hom') hdm ?_)
        rw [if_neg (by simp)]
        exact wpAny_pure ⟨rfl, H3, _, _, I3, xh'.trans xh3, mk3, (keep m hne).trans hom', by have := dPut_len ks' us' k2[i] u2[i]; omega, e'⟩
      · cases e'
    · have hend : (k2.zip u2).drop es.length = [] := by apply List.drop_eq_nil_of_le; simp; omega
      rw [hend] at e'
      cases e'
      exact wpAny_pure (h _ _ I' xh' mk')
end
end TZ

set_option Elab.async false
set_option linter.all false
set_option maxRecDepth 100000
set_option maxHeartbeats 1000000
/-! B4: dict displays with stars. -/
namespace TZ
open PySem PySem.Spec L2 StX PyProof.Rows

def uniK (ks : List W) : Bool := ks.all W.leaf || ks.all W.tkey
theorem leaf_not_tkey {a : W} (h : a.leaf = true) : a.tkey = false := by cases a <;> first | rfl | cases h
theorem keyFor_uni {ks : List W} {x : W} (h : uniK (ks ++ [x]) = true) : keyFor ks x = true := by
  unfold uniK at h
  unfold keyFor
  simp only [List.all_append, List.all_cons, List.all_nil, Bool.and_true, Bool.or_eq_true, Bool.and_eq_true] at h ⊢
  rcases h with ⟨h1, h2⟩ | ⟨h1, h2⟩
  · exact .inl ⟨h2, h1⟩
  · exact .inr ⟨h2, h1⟩
theorem uni_sub {ks ls : List W} (h : uniK ls = true) (hs : ∀ k ∈ ks, k ∈ ls) : uniK ks = true := by
  unfold uniK at h ⊢
  rw [Bool.or_eq_true] at h ⊢
  rcases h with h | h
  · exact .inl (List.all_eq_true.mpr fun k hk => List.all_eq_true.mp h k (hs k hk))
  · exact .inr (List.all_eq_true.mpr fun k hk => List.all_eq_true.mp h k (hs k hk))
theorem dPut_keys (ks us : List W) (x v : W) : ∀ k ∈ (dPut ks us x v).1, k ∈ ks ++ [x] := by
  unfold dPut
  split
  · intro k hk; exact List.mem_append_left _ hk
  · intro k hk; exact hk
theorem putAll_merge : ∀ (k2 u2 ks us : List W), k2.length = u2.length → uniK (ks ++ k2) = true → putAll (ks, us) (k2.zip u2) = some (dMerge ks us k2 u2)
  | [], u2, ks, us, hl, h => by cases u2 <;> rfl
  | x :: xs, [], ks, us, hl, h => by simp at hl
  | x :: xs, v :: vs, ks, us, hl, h => by
    have hk : keyFor ks x = true := keyFor_uni (uni_sub h fun k hk => by
      rcases List.mem_append.mp hk with hk | hk
      · exact List.mem_append_left _ hk
      · rw [List.mem_singleton.mp hk]; simp)
    rw [List.zip_cons_cons]
    simp only [putAll, dMerge]
    rw [if_pos hk]
    exact putAll_merge xs vs _ _ (by simpa using hl) (uni_sub h fun k hk => by
      rcases List.mem_append.mp hk with hk | hk
      · rcases List.mem_append.mp (dPut_keys ks us x v k hk) with hk | hk
        · exact List.mem_append_left _ hk
        · rw [List.mem_singleton.mp hk]; simp
      · exact List.mem_append_right _ (List.mem_cons_of_mem _ hk))
theorem uni_of {p q : List W} (h : (q.all fun k => keyFor p k && keyFor q k) = true) (hq : q ≠ []) : uniK (p ++ q) = true := by
  cases q with
  | nil => exact absurd rfl hq
  | cons x xs =>
    have hx := List.all_eq_true.mp h x List.mem_cons_self
    rw [Bool.and_eq_true] at hx
    obtain ⟨h1, h2⟩ := hx
    unfold keyFor at h1 h2
    unfold uniK
    rw [Bool.or_eq_true, Bool.and_eq_true, Bool.and_eq_true] at h1 h2
    rw [List.all_append, List.all_append, Bool.or_eq_true, Bool.and_eq_true, Bool.and_eq_true]
    rcases h1 with ⟨a1, a2⟩ | ⟨a1, a2⟩
    · rcases h2 with ⟨b1, b2⟩ | ⟨b1, b2⟩
      · exact .inl ⟨a2, b2⟩
      · rw [leaf_not_tkey a1] at b1; cases b1
    · rcases h2 with ⟨b1, b2⟩ | ⟨b1, b2⟩
      · rw [leaf_not_tkey b1] at a1; cases a1
      · exact .inr ⟨a2, b2⟩
theorem putAll_guard {ks us k2 u2 : List W} (hl : k2.length = u2.length) (h : (k2.all fun k => keyFor ks k && keyFor k2 k) = true) : putAll (ks, us) (k2.zip u2) = some (dMerge ks us k2 u2) := by
  cases k2 with
  | nil => cases u2 <;> rfl
  | cons x xs => exact putAll_merge _ _ _ _ hl (uni_of h (by simp))
mutual
theorem nh_ok (w : World) : ∀ (a : W) (h : Int), a.nh = some h → a.nkey.hash w = h
  | .non, h, e => by simp only [W.nh] at e; cases e; rfl
  | .bl b, h, e => by simp only [W.nh] at e; cases e; rfl
  | .int i, h, e => by simp only [W.nh] at e; cases e; rfl
  | .tup ws, h, e => by
    simp only [W.nh] at e
    split at e
    · rename_i hs e1
      cases e
      simp only [W.nkey, NestedKey.hash]
      rw [nhs_ok w ws hs e1]
    · cases e
  | .str _, h, e => by simp only [W.nh] at e; cases e
  | .lst _, h, e => by simp only [W.nh] at e; cases e
  | .dct _ _, h, e => by simp only [W.nh] at e; cases e
  | .ref _, h, e => by simp only [W.nh] at e; cases e
  | .fn _, h, e => by simp only [W.nh] at e; cases e
theorem nhs_ok (w : World) : ∀ (as : List W) (hs : List Int), nhs as = some hs → NestedKey.hashes w (nkeys as) = hs
  | [], hs, e => by simp only [nhs] at e; cases e; rfl
  | a :: as, hs, e => by
    simp only [nhs] at e
    split at e
    · rename_i h hs' e1 e2
      cases e
      simp only [nkeys, NestedKey.hashes]
      rw [nh_ok w a h e1, nhs_ok w as hs' e2]
    · cases e
end
theorem nhs_map (w : World) : ∀ (as : List W) (hs : List Int), nhs as = some hs → as.map (·.nkey.hash w) = hs
  | [], hs, e => by simp only [nhs] at e; cases e; rfl
  | a :: as, hs, e => by
    simp only [nhs] at e
    split at e
    · rename_i h hs' e1 e2
      cases e
      rw [List.map_cons, nh_ok w a h e1, nhs_map w as hs' e2]
    · cases e
theorem mergeOk_of {p q : List W} (w : World) (h : mergeOk p q = true) : p.length + q.length ≤ sizeLine ∧ (p ≠ [] ∨ q.all W.leaf = true ∨ (q.map (·.nkey.hash w)).Nodup) := by
  unfold mergeOk at h
  rw [Bool.and_eq_true, Bool.or_eq_true, Bool.or_eq_true] at h
  obtain ⟨h0, h⟩ := h
  refine ⟨by rw [← lineN_eq]; exact of_decide_eq_true h0, ?_⟩
  rcases h with (h | h) | h
  · left; intro e; subst e; cases h
  · exact .inr (.inl h)
  · split at h
    · rename_i hs e
      right; right
      rw [nhs_map w q hs e]
      exact of_decide_eq_true h
    · cases h
end TZ
namespace TZ
open PySem PySem.Spec L2 StX PyProof.Rows

section
variable {X : Cx} {fa : Nat → Option Addr} {gc : Nat → W} {cf : Nat → List W → M W}
/-- what a star's turn does behind the value -/
theorem star_turn {pins : List (Addr × Obj)} {σ : L2.St} {D : Addr} {ι1 ι2 : Pls} {H1 H2 : Hp} {S2 S3 : Sto} {ks us k2 u2 : List W} {s : Shared} {v2 : Expr} {v' : E} {z : W} {ρ : Rho} {pos : Pos} {β : Type} {fin : Sem β} {Q : β → Shared → Prop}
    {kz : Value → Value → Sem Unit} {kc : Value → Value → Sem Unit} {kr : Value → Sem Unit}
    (hu : X.A.units + 65 < cLine) (hD : H1 D = none) (he : PE X v2 (rV X.w X.K fa (den gc cf v').v)) (I : Inv X pins σ H2 s) (mk : Mkd X.w X.K fa ι1 H1 D ι2 H2 S2 ks us) (rr : RR X.w X.K fa H1 ι1 ρ σ) (hz : (den gc cf v').v ρ S2 = some (z, S3)) (hd : dictOf S3 z = some (k2, u2))
    (hg : ((k2.all fun k => keyFor ks k && keyFor k2 k) && mergeOk ks k2) = true)
    (h : ∀ s' H3 ι3, Inv X pins σ H3 s' → Mkd X.w X.K fa ι1 H1 D ι3 H3 S3 (dMerge ks us k2 u2).1 (dMerge ks us k2 u2).2 → wpAny (model X.prog X.w) X.A fin Q X.xe s') :
    wpAny (model X.prog X.w) X.A (holding [Value.ref D] (do let x ← eval v2 X.env; standAt pos; pure x) >>= fun m =>
      (((holding [Value.ref D, m] (mergeMapping D m false)).onRaise (kz m)).tryCatch (kc m)).onRaise kr >>= fun _ => fin) Q X.xe s := by
  rw [Bool.and_eq_true] at hg
  refine wpAny_bind (wpAny_holding (wpAny_bind (thn (he.run pins s σ H2 (fun v H' => ∃ ι3, Ext ι2 H2 ι3 H' ∧ RS X.w X.K fa H' ι3 S3 ∧ RV X.w X.K fa H' ι3 z v) I ⟨ι2, ρ, S2, z, S3, mk.rs, rr.monoH mk.xh, hz, fun v H' ι' a1 a2 a3 => ⟨ι', a1, a2, a3⟩⟩) fun u1 s1 ⟨v1, H3, I3, r1, ι3, x3, rs3, rv3⟩ => wpAny_bind (wpAny_standAt (wpAny_pure ?_)))))
  have mk3 := mk.step x3 rs3
  obtain ⟨p, es0, ep0, e1, h10, hnh, hl0, _⟩ := dict_still rs3 hd rv3
  obtain ⟨p', es, ep, kvs, uvs, e2, h1, en, nd, rk, ru⟩ := dictOf_rv rs3 hd rv3
  rw [e1] at e2; cases e2
  rw [e1] at r1
  obtain rfl : u1 = Value.ref p := r1
  have hne : p ≠ D := fun z => hnh (by rw [z, mk3.hd]; exact List.mem_cons_self)
  obtain ⟨q1, q2, q3⟩ := ents_len en
  refine wpAny_bind (wpAny_onRaise (wpAny_tryCatch (wpAny_onRaise (wpAny_holding (merge_ok hu hD hne I3 mk3 h1 en rk ru (mergeOk_of X.w hg.2).1 (putAll_guard (by rw [q1, ← q3, ru.length]) hg.1) (mergeOk_of X.w hg.2).2 fun s' H4 I4 xx mk4 => ?_)))))
  exact h s' H4 ι3 I4 mk4

/-- {k: v, **e} -/
theorem ev_dst1 {k v e : Expr} {pos : Pos} {k' v' e' : E} (hu : X.A.units + 65 < cLine) (h1 : PE X k (rV X.w X.K fa (den gc cf k').v)) (h2 : PE X v (rV X.w X.K fa (den gc cf v').v)) (h3 : PE X e (rV X.w X.K fa (den gc cf e').v)) :
    PE X (.Dict [some k, none] [v, e] pos) (rV X.w X.K fa (den gc cf (.dct (.dpair k' v' (.dstar e' .dnil)))).v) := by
  refine ⟨fun pins s σ H Q I ⟨ι, ρ, S, a, S', rs, rr, hm, q⟩ => ?_⟩
  have hm : (do
      let p ← (do
        let x ← (den gc cf k').v ρ
        let y ← (den gc cf v').v ρ
        M.grd (keyFor [] x)
        (do
          let x2 ← (den gc cf e').v ρ
          let q ← pairsOf x2
          M.grd ((q.1.all fun k => keyFor (dPut [] [] x y).1 k && keyFor q.1 k) && mergeOk (dPut [] [] x y).1 q.1)
          M.ret (dMerge (dPut [] [] x y).1 (dPut [] [] x y).2 q.1 q.2) : M (List W × List W)) : M (List W × List W))
      M.fits p.1.length
      M.new (.dct p.1 p.2) : M W) S = some (a, S') := hm
  obtain ⟨pz, S5, g0, k1⟩ := bindM hm
  obtain ⟨_, S6, g1, k2⟩ := bindM k1
  obtain ⟨hfit, e2⟩ := grdM g1
  rw [e2] at k2
  have e : some (W.ref S5.length, S5 ++ [Ob.dct pz.1 pz.2]) = some (a, S') := k2
  cases e
  obtain ⟨x, S1, gx, g0⟩ := bindM g0
  obtain ⟨y, S2, gy, g0⟩ := bindM g0
  obtain ⟨_, S2', gk, g0⟩ := bindM g0
  obtain ⟨hk, e3⟩ := grdM gk
  rw [e3] at g0
  obtain ⟨z, S3, gz, g0⟩ := bindM g0
  obtain ⟨⟨k2s, u2s⟩, S3', gp, g0⟩ := bindM g0
  obtain ⟨_, S3'', gg, g0⟩ := bindM g0
  obtain ⟨hg, e4⟩ := grdM gg
  rw [e4] at g0
  have gp : (match dictOf S3 z with | some q => some (q, S3) | none => none) = some ((k2s, u2s), S3') := gp
  split at gp
  · rename_i qq hdict
    cases gp
    have e5 : some (dMerge (dPut [] [] x y).1 (dPut [] [] x y).2 k2s u2s, S3) = some (pz, S5) := g0
    cases e5
    have hD : H s.heap.objs.size = none := I.fresh
    have mk0 := Mkd.start (w := X.w) (K := X.K) (fa := fa) rs hD
    have I0 : Inv X pins σ (upd H s.heap.objs.size (dOb s.heap.objs.size [] 0)) { s with heap := s.heap.push { cls := .type "dict", data := .dict #[] } } := by
      refine I.laid (t' := s.toks) (fun b o e => Heap.get?_push_of_some _ e) (Nat.le_refl _) ?_
      exact dob_ok (beq_eq_false_iff_ne.mpr (Ne.symm (Nat.ne_of_lt I.big))) (Nat.zero_le _) (Heap.get?_push_size _ rfl) ⟨rfl, rfl, rfl⟩ rfl
    rw [arm_eval_Dict]
    refine wpAny_bind (wpAny_standAt ?_)
    show wpAny _ _ (dictDisplay [(some (eval k X.env), _), (none, _)]) _ _ _
    unfold dictDisplay
    dsimp (config := {zeta := true}) only
    simp only [List.forIn_cons, List.forIn_nil, List.nil_append, List.length_cons, List.length_nil, List.isEmpty_cons, List.isEmpty_nil, Bool.false_eq_true, if_false, if_true]
    refine wpAny_bind (wpAny_bind ?_)
    rw [if_neg (by decide)]
    refine wpAny_pure ?_
    try dsimp only
    simp only [List.isEmpty_cons, Bool.false_eq_true, if_false]
    refine wpAny_bind (wpAny_bind (wpAny_bind (wpAny_subDict_any (Nat.le_of_ble_eq_true rfl) ?_)))
    have pd : PDp X fa gc cf [some k] [v] (.dpair k' v' .dnil) := dp_cons h1 h2 dp_nil
    have hdp : dp gc cf (.dpair k' v' .dnil) ρ S = some ([(x, y)], S2) := by
      show (do let x ← (den gc cf k').v ρ; let y ← (den gc cf v').v ρ; let r ← dp gc cf .dnil ρ; pure ((x, y) :: r) : M (List (W × W))) S = _
      rw [bind_some gx, bind_some gy]
      rfl
    refine thn (pd pos pins _ σ _ (ι.hide s.heap.objs.size) ρ S S2 [(x, y)] (fun xs H' => ∃ ι', Ext (ι.hide s.heap.objs.size) (upd H s.heap.objs.size (dOb s.heap.objs.size [] 0)) ι' H' ∧ RS X.w X.K fa H' ι' S2 ∧ RVs X.w X.K fa H' ι' ([(x, y)].map (·.1)) (xs.map (·.1)) ∧ RVs X.w X.K fa H' ι' ([(x, y)].map (·.2)) (xs.map (·.2))) I0 mk0.rs (rr.monoH mk0.xh) hdp fun xs H' ι' x rs ra rb => ⟨ι', x, rs, ra, rb⟩) fun us s1 ⟨xs, H1, I1, kv, ι1, x1, rs1, ra, rb⟩ => ?_
    refine store_ok hu hD [(x, y)] xs us s1 H1 ι1 S2 [] [] (dPut [] [] x y).1 (dPut [] [] x y).2 _ I1 (mk0.step x1 rs1) kv ra rb (by simp only [putAll]; rw [if_pos hk]) (by simp only [List.length_nil, Nat.zero_add, sizeLine_eq, List.length_cons]; decide) fun s2 H2 I2 mk2 => ?_
    refine wpAny_pure ?_
    try dsimp only
    refine wpAny_bind (wpAny_pure ?_)
    try dsimp only
    refine star_turn hu hD h3 I2 mk2 rr gz hdict hg fun s3 H3 ι3 I3 mk3 => ?_
    refine wpAny_pure ?_
    try dsimp only
    refine wpAny_pure ?_
    try dsimp only
    refine wpAny_bind ?_
    simp only [List.isEmpty_nil, if_true]
    refine wpAny_pure ?_
    try dsimp only
    exact wpAny_pure ⟨.ref s.heap.objs.size, H3, I3, rfl, mk3.fin (Ext.refl _ _) hD rs q⟩
  · cases gp
/-- {**a, **b} -/
theorem ev_dst2 {e f : Expr} {pos : Pos} {e' f' : E} (hu : X.A.units + 65 < cLine) (h2 : PE X e (rV X.w X.K fa (den gc cf e').v)) (h3 : PE X f (rV X.w X.K fa (den gc cf f').v)) :
    PE X (.Dict [none, none] [e, f] pos) (rV X.w X.K fa (den gc cf (.dct (.dstar e' (.dstar f' .dnil)))).v) := by
  refine ⟨fun pins s σ H Q I ⟨ι, ρ, S, a, S', rs, rr, hm, q⟩ => ?_⟩
  have hm : (do
      let p ← (do
        let x1 ← (den gc cf e').v ρ
        let q1 ← pairsOf x1
        M.grd ((q1.1.all fun k => keyFor [] k && keyFor q1.1 k) && mergeOk [] q1.1)
        (do
          let x2 ← (den gc cf f').v ρ
          let q ← pairsOf x2
          M.grd ((q.1.all fun k => keyFor (dMerge [] [] q1.1 q1.2).1 k && keyFor q.1 k) && mergeOk (dMerge [] [] q1.1 q1.2).1 q.1)
          M.ret (dMerge (dMerge [] [] q1.1 q1.2).1 (dMerge [] [] q1.1 q1.2).2 q.1 q.2) : M (List W × List W)) : M (List W × List W))
      M.fits p.1.length
      M.new (.dct p.1 p.2) : M W) S = some (a, S') := hm
  obtain ⟨pz, S5, g0, k1⟩ := bindM hm
  obtain ⟨_, S6, g1, k2⟩ := bindM k1
  obtain ⟨hfit, e2⟩ := grdM g1
  rw [e2] at k2
  have e : some (W.ref S5.length, S5 ++ [Ob.dct pz.1 pz.2]) = some (a, S') := k2
  cases e
  obtain ⟨z1, S1, gz1, g0⟩ := bindM g0
  obtain ⟨⟨k1s, u1s⟩, S1', gp1, g0⟩ := bindM g0
  obtain ⟨_, S1'', gg1, g0⟩ := bindM g0
  obtain ⟨hg1, e3⟩ := grdM gg1
  rw [e3] at g0
  have gp1 : (match dictOf S1 z1 with | some q => some (q, S1) | none => none) = some ((k1s, u1s), S1') := gp1
  split at gp1
  · rename_i qq1 hdict1
    cases gp1
    obtain ⟨z, S3, gz, g0⟩ := bindM g0
    obtain ⟨⟨k2s, u2s⟩, S3', gp, g0⟩ := bindM g0
    obtain ⟨_, S3'', gg, g0⟩ := bindM g0
    obtain ⟨hg, e4⟩ := grdM gg
    rw [e4] at g0
    have gp : (match dictOf S3 z with | some q => some (q, S3) | none => none) = some ((k2s, u2s), S3') := gp
    split at gp
    · rename_i qq hdict
      cases gp
      have e5 : some (dMerge (dMerge [] [] k1s u1s).1 (dMerge [] [] k1s u1s).2 k2s u2s, S3) = some (pz, S5) := g0
      cases e5
      have hD : H s.heap.objs.size = none := I.fresh
      have mk0 := Mkd.start (w := X.w) (K := X.K) (fa := fa) rs hD
      have I0 : Inv X pins σ (upd H s.heap.objs.size (dOb s.heap.objs.size [] 0)) { s with heap := s.heap.push { cls := .type "dict", data := .dict #[] } } := by
        refine I.laid (t' := s.toks) (fun b o e => Heap.get?_push_of_some _ e) (Nat.le_refl _) ?_
        exact dob_ok (beq_eq_false_iff_ne.mpr (Ne.symm (Nat.ne_of_lt I.big))) (Nat.zero_le _) (Heap.get?_push_size _ rfl) ⟨rfl, rfl, rfl⟩ rfl
      rw [arm_eval_Dict]
      refine wpAny_bind (wpAny_standAt ?_)
      show wpAny _ _ (dictDisplay [(none, _), (none, _)]) _ _ _
      unfold dictDisplay
      dsimp (config := {zeta := true}) only
      simp only [List.forIn_cons, List.forIn_nil, List.nil_append, List.length_cons, List.length_nil, List.isEmpty_cons, List.isEmpty_nil, Bool.false_eq_true, if_false, if_true]
      refine wpAny_bind (wpAny_bind (wpAny_bind (wpAny_pure ?_)))
      try dsimp only
      refine wpAny_bind (wpAny_alloc ?_)
      refine star_turn hu hD h2 I0 mk0 rr gz1 hdict1 hg1 fun s2 H2 ι2 I2 mk2 => ?_
      refine wpAny_pure ?_
      try dsimp only
      refine wpAny_bind (wpAny_bind ?_)
      simp only [List.isEmpty_nil, if_true]
      refine wpAny_pure ?_
      try dsimp only
      refine wpAny_bind (wpAny_pure ?_)
      try dsimp only
      refine star_turn hu hD h3 I2 mk2 rr gz hdict hg fun s3 H3 ι3 I3 mk3 => ?_
      refine wpAny_pure ?_
      try dsimp only
      refine wpAny_pure ?_
      try dsimp only
      refine wpAny_bind ?_
      simp only [List.isEmpty_nil, if_true]
      refine wpAny_pure ?_
      try dsimp only
      exact wpAny_pure ⟨.ref s.heap.objs.size, H3, I3, rfl, mk3.fin (Ext.refl _ _) hD rs q⟩
    · cases gp
  · cases gp1
end
end TZ

set_option Elab.async false
set_option linter.all false
set_option maxRecDepth 100000
set_option maxHeartbeats 1000000
/-! B5: enumerate, zip, items. -/
namespace TZ
open PySem PySem.Spec L2 StX PyProof.Rows

/-! ### enumerate(tuple) -/
theorem newEnumT (l : Addr) (its : Array Value) (n : Nat) (dct : Option Addr) (sl : Array (Option Value)) :
    Meets (Builtin.«enumerate.__new__» ⟨[.type "enumerate", .ref l], []⟩) (fun _ R s => s.heap.get? l = some { cls := .type "tuple", dict := dct, data := .seq its n, slots := sl } ∧
      R (.ok (.ret (.ref (s.heap.push { cls := .type "tuple_iterator", data := .fields #[.ref l, .int 0 0] }).objs.size)))
        { s with heap := (s.heap.push { cls := .type "tuple_iterator", data := .fields #[.ref l, .int 0 0] }).push { cls := .type "enumerate", data := .fields #[.none, .bool false, .ref s.heap.objs.size, rawInt 0, .none, .none] } }) :=
  .of_wp fun prog w A R s h => by
    obtain ⟨hp, g, d, tk, os⟩ := s
    obtain ⟨hl, h⟩ := h
    have hsub := sub_enumerate
    have hT : Heap.IsTuple (Shared.heap ⟨hp, g, d, tk, os⟩) l its := ⟨_, hl, rfl, n, rfl⟩
    wp_walk using wpAny_loadPart' hl
    refine wpAny_stack_any fun st => wpAny_pure ?_
    split
    · rename_i c _ _ _ _ _
      cases (c == Value.type "enumerate") <;> (wp_walk using wpAny_loadPart' hl, wpAny_pyIter_tuple hT; exact ⟨_, rfl, h⟩)
    · wp_walk using wpAny_loadPart' hl, wpAny_pyIter_tuple hT
      exact ⟨_, rfl, h⟩
section
variable {prog : Program} {w : World} {A : Around} {E : Value → Shared → Prop} {s : Shared}
theorem call_enumT {l : Addr} {its : Array Value} {Q : Value → Shared → Prop} (hL : s.heap.IsTuple l its)
    (h : ∀ h', IsEnum h' (s.heap.objs.size + 1) s.heap.objs.size 0 .none → h'.IsTupleIter s.heap.objs.size l 0 → (∀ b o, s.heap.get? b = some o → h'.get? b = some o) → Q (.ref (s.heap.objs.size + 1)) { s with heap := h' }) :
    wpAny (model prog w) A (call (.type "enumerate") [.ref l]) Q E s := by
  obtain ⟨⟨c, dct, dt, sl⟩, hl, hc, n, hd⟩ := hL
  have hc : c = .type "tuple" := hc
  have hd : dt = .seq its n := hd
  subst hc hd
  refine callType_new F.called_enumerate (by decide) (F.typeCall_enumerate_1 _) (F.newCall_enumerate_1 _) (fun obj => F.args_object_init_2 obj _) F.entry_enumerate_new (newEnumT l its n dct sl) ⟨hl, ?_⟩
  have hz : (s.heap.push { cls := .type "tuple_iterator", data := .fields #[.ref l, .int 0 0] }).objs.size = s.heap.objs.size + 1 := Heap.size_push ..
  show _ ∧ _
  rw [hz]
  have he : IsEnum ((s.heap.push { cls := .type "tuple_iterator", data := .fields #[.ref l, .int 0 0] }).push
      { cls := .type "enumerate", data := .fields #[.none, .bool false, .ref s.heap.objs.size, rawInt 0, .none, .none] }) (s.heap.objs.size + 1) s.heap.objs.size 0 .none := by
    have := Heap.get?_push_size (s.heap.push { cls := .type "tuple_iterator", data := .fields #[.ref l, .int 0 0] }) (o := { cls := .type "enumerate", data := .fields #[.none, .bool false, .ref s.heap.objs.size, rawInt 0, .none, .none] }) rfl
    rw [hz] at this; exact this
  exact ⟨⟨_, he, rfl⟩, h _ he ⟨_, Heap.get?_push_of_some _ (Heap.get?_push_size _ rfl), rfl, rfl⟩ fun b o x => Heap.get?_push_of_some _ (Heap.get?_push_of_some _ x)⟩
end
def IteT (K : PySem.W.Frag) (a : Addr) : It :=
  ⟨fun i H => ∃ (xs : List V) (x : V), SqT K H a xs ∧ xs[i]? = some x, fun i H v H' => ∃ T x, v = .ref T ∧ H T = none ∧ H' = upd H T (.tup [.int (i : Nat), x]) ∧ ∀ xs, SqT K H a xs → xs[i]? = some x, fun i H => ∃ xs : List V, SqT K H a xs ∧ i = xs.length⟩
theorem turn_enumT {P : Program} {w : World} {K : PySem.W.Frag} {elts : List Expr} {kk : Nat} {tpos : Pos} (a e it : Addr) :
    Turn P w K (.Tuple elts kk tpos) (IteT K a) [e, it] e (fun i h => (∃ old, IsEnum h e it ((i : Nat) : Int) old) ∧ h.IsTupleIter it a i ∧ e ≠ it ∧ a ≠ it ∧ e ≠ a) where
  mem := by simp
  obj := fun i h st b hb => by
    obtain ⟨⟨old, he⟩, ⟨o, ho, hc, hd⟩, _⟩ := st
    have e' : b = e ∨ b = it := by simpa using hb
    rcases e' with rfl | rfl
    · exact ⟨_, he, fun v q => nomatch q⟩
    · exact ⟨o, ho, fun v q => by rw [hd] at q; cases q⟩
  keep := fun i h h' st k => by
    obtain ⟨⟨old, he⟩, hi, hne⟩ := st
    exact ⟨⟨old, k e (by simp) _ he⟩, hi.at fun o q => k it (by simp) o q, hne⟩
  item := by
    intro X hP hw hK hc i pins s σ H E I hf st hg
    subst hP hw hK
    obtain ⟨⟨old, he⟩, hit, hne, hna, hea⟩ := st
    obtain ⟨xs, x, hq, hx⟩ := hg
    obtain ⟨its, rv, p, hz⟩ := I.tuple hq
    obtain ⟨u, hu, ru⟩ := rv.get hx
    have hel : e < s.heap.objs.size := Heap.lt_size he
    have hil : it < s.heap.objs.size := by obtain ⟨_, q, _⟩ := hit; exact Heap.lt_size q
    have hlt : i < its.length := (List.getElem?_eq_some_iff.mp hu).1
    have hh : X.A.in1.handled = none := by have := I.ok.hd hc; simpa using this
    refine wpAny_pyNext_enum_itemD (Draws.tuple hh it a hna its.toArray) he ⟨hit, p⟩ (by simpa using hlt) hne (by simp; exact ⟨hne, hea⟩) fun y h' tk hPx ho hst' hT hsz hk => ?_
    have hPx : its.toArray[i]? = some y := hPx
    have hPx : its[i]? = some y := by simpa using hPx
    rw [hu] at hPx; cases hPx
    refine ⟨_, rfl, wpAny_letOwnedTupleGo_enum (s := { s with heap := h', toks := tk + 1 }) ho fun h'' he' sb => ?_⟩
    have hT2 : h''.get? s.heap.objs.size = some { cls := .type "tuple", data := .seq #[.int i tk, u] } := (sb.2 _ (Nat.ne_of_gt hel)).trans hT
    have new : ObjOk X.prog X.w (upd H s.heap.objs.size (.tup [.int (i : Nat), x])) h'' s.heap.objs.size (.tup [.int (i : Nat), x]) :=
      ⟨by show 2 ≤ sizeLine; decide, [.int i tk, u], .cons ⟨_, rfl⟩ (.cons ru .nil), ⟨_, hT2, rfl, _, rfl⟩⟩
    have I1 : Inv X pins σ (upd H s.heap.objs.size (.tup [.int (i : Nat), x])) { s with heap := h'', toks := tk + 1 } :=
      I.turnedNew (ch := [e, it]) (fun b ob hb q => (sb.2 b (fun z => hb (by simp [z]))).trans (hk b ob (fun z => hb (by simp [z])) (fun z => hb (by simp [z])) q)) hf (Nat.le_refl _) new
    refine ⟨.ref s.heap.objs.size, _, I1, rfl, ⟨_, x, rfl, I.hok.fresh (Nat.le_refl _), rfl, fun ys hy => by rw [I.tuple_inj hy hq]; exact hx⟩, ⟨⟨u, ?_⟩, hst'.1.at fun o q => (sb.2 it (Ne.symm hne)).trans q, hne, hna, hea⟩, fun b hb => ?_⟩
    · have e1 : ((i + 1 : Nat) : Int) = (i : Int) + 1 := by omega
      rw [e1]; exact he'
    · have hb' : b < s.heap.objs.size := by
        have e' : b = e ∨ b = it := by simpa using hb
        rcases e' with rfl | rfl
        · exact hel
        · exact hil
      rw [upd_ne (Nat.ne_of_lt hb')]
      exact (hf b hb).1
  done := by
    intro X hP hw hK hc i pins s σ H E I hf st hg
    subst hP hw hK
    obtain ⟨⟨old, he⟩, hit, hne, hna, hea⟩ := st
    obtain ⟨xs, hq, hx⟩ := hg
    obtain ⟨its, rv, p, hz⟩ := I.tuple hq
    obtain ⟨f0, f1, f2, f3, f4, f5⟩ := hf it (by simp)
    have hl := rv.length
    have hh : X.A.in1.handled = none := by have := I.ok.hd hc; simpa using this
    have e0 : i = its.toArray.size := by rw [hx, hl]; simp
    refine wpAny_pyNext_enum_endD (Draws.tuple hh it a hna its.toArray) he ⟨by rw [← e0]; exact hit, p⟩ fun h' eb => ⟨rfl, I.turned (t' := s.toks) (fun b o hb q => eb b o hb q) f0 f1 f3 f4 f5⟩
  self := fun A i s Q E st h => by
    obtain ⟨⟨_, he⟩, _⟩ := st
    exact wpAny_pyIter_enum he h
end TZ

set_option Elab.async false
set_option linter.all false
set_option maxRecDepth 100000
set_option maxHeartbeats 1000000
/-! B6: enumerate, zip, items as walks. -/
namespace TZ
open PySem PySem.Spec L2 StX PyProof.Rows

section
variable {w : World} {K : PySem.W.Frag} {fa : Nat → Option Addr} {H : Hp} {ι : Pls}
theorem enum_at {ws : List W} {i : Nat} {b : W} (h : (ws.zipIdx.map fun q => W.tup [.int (Int.ofNat q.2), q.1])[i]? = some b) : ∃ x, ws[i]? = some x ∧ b = .tup [.int (i : Nat), x] := by
  rw [List.getElem?_map, List.getElem?_zipIdx] at h
  cases hx : ws[i]? with
  | none => rw [hx] at h; cases h
  | some x =>
    rw [hx] at h
    simp at h
    exact ⟨x, rfl, by rw [← h]⟩
theorem pair_new {S : Sto} {p : Addr} {a b : W} {u v : V} (rs : RS w K fa H ι S) (hp : H p = none) (r1 : RV w K fa H ι a u) (r2 : RV w K fa H ι b v) :
    Ext ι H ι (upd H p (.tup [u, v])) ∧ RS w K fa (upd H p (.tup [u, v])) ι S ∧ RV w K fa (upd H p (.tup [u, v])) ι (.tup [a, b]) (.ref p) := by
  obtain ⟨x, rs2, n⟩ := rs.new (o := .tup [u, v]) hp
  exact ⟨x, rs2, rv_tup.mpr ⟨p, [u, v], rfl, .inl ⟨.inl upd_same, n⟩, .cons (r1.mono x) (.cons (r2.mono x) .nil)⟩⟩
theorem wk_enumL {S : Sto} {a : W} {ws : List W} {p : Addr} (rs : RS w K fa H ι S) (h : listOf S a = some ws) (rv : RV w K fa H ι a (.ref p)) : Wk w K fa (Ite K p) (ws.zipIdx.map fun q => W.tup [.int (Int.ofNat q.2), q.1]) (srcOf S a) H ι := by
  obtain ⟨p', e, st⟩ := list_still rs h rv
  cases e
  intro H' ι' S' x rs' hs i
  obtain ⟨vs, hq, r⟩ := st H' ι' S' x rs' hs
  refine ⟨fun e => ⟨vs, hq, by rw [e]; simp [r.length]⟩, fun b hb => ?_⟩
  obtain ⟨y, hy, rfl⟩ := enum_at hb
  obtain ⟨v, hv, rv'⟩ := r.get hy
  refine ⟨⟨vs, v, hq, hv⟩, fun z H'' hz => ?_⟩
  obtain ⟨T, x0, rfl, hT, rfl, hall⟩ := hz
  have := hall vs hq
  rw [hv] at this; cases this
  obtain ⟨x1, rs1, rv1⟩ := pair_new rs' hT (rv_int.mpr rfl : RV w K fa H' ι' (.int (i : Nat)) _) rv'
  exact ⟨ι', x1, rs1, rv1⟩
theorem wk_enumT {ws : List W} {p : Addr} (rv : RV w K fa H ι (.tup ws) (.ref p)) : Wk w K fa (IteT K p) (ws.zipIdx.map fun q => W.tup [.int (Int.ofNat q.2), q.1]) [] H ι := by
  intro H' ι' S' x rs' hs i
  obtain ⟨p', vs, e, hq, r⟩ := rv_tup' (rv.monoH x)
  cases e
  refine ⟨fun e => ⟨vs, hq, by rw [e]; simp [r.length]⟩, fun b hb => ?_⟩
  obtain ⟨y, hy, rfl⟩ := enum_at hb
  obtain ⟨v, hv, rv'⟩ := r.get hy
  refine ⟨⟨vs, v, hq, hv⟩, fun z H'' hz => ?_⟩
  obtain ⟨T, x0, rfl, hT, rfl, hall⟩ := hz
  have := hall vs hq
  rw [hv] at this; cases this
  obtain ⟨x1, rs1, rv1⟩ := pair_new rs' hT (rv_int.mpr rfl : RV w K fa H' ι' (.int (i : Nat)) _) rv'
  exact ⟨ι', x1, rs1, rv1⟩
theorem zip_at {us ws : List W} {i : Nat} {b : W} (h : (List.zipWith (fun u v => W.tup [u, v]) us ws)[i]? = some b) : ∃ x y, us[i]? = some x ∧ ws[i]? = some y ∧ b = .tup [x, y] := by
  rw [List.getElem?_zipWith] at h
  cases hx : us[i]? with
  | none => rw [hx] at h; cases h
  | some x =>
    cases hy : ws[i]? with
    | none => rw [hx, hy] at h; cases h
    | some y => rw [hx, hy] at h; exact ⟨x, y, rfl, rfl, (Option.some.inj h).symm⟩
theorem stands_app {S : Sto} {l m : List (Nat × Ob)} (h : stands S (l ++ m) = true) : stands S l = true ∧ stands S m = true := by
  unfold stands at h ⊢
  rwa [List.all_append, Bool.and_eq_true] at h
theorem wk_zipL {S : Sto} {a b : W} {us ws : List W} {p p2 : Addr} (rs : RS w K fa H ι S) (h : listOf S a = some us) (h2 : listOf S b = some ws) (rv : RV w K fa H ι a (.ref p)) (rv2 : RV w K fa H ι b (.ref p2)) :
    Wk w K fa (Itz K p p2) (List.zipWith (fun u v => W.tup [u, v]) us ws) (srcOf S a ++ srcOf S b) H ι := by
  obtain ⟨p', e, st⟩ := list_still rs h rv
  cases e
  obtain ⟨p2', e, st2⟩ := list_still rs h2 rv2
  cases e
  intro H' ι' S' x rs' hs i
  obtain ⟨hs1, hs2⟩ := stands_app hs
  obtain ⟨vs, hq, r⟩ := st H' ι' S' x rs' hs1
  obtain ⟨vs2, hq2, r2⟩ := st2 H' ι' S' x rs' hs2
  refine ⟨fun e => ⟨vs, vs2, hq, hq2, ?_⟩, fun b hb => ?_⟩
  · rw [List.length_zipWith] at e
    rw [← r.length, ← r2.length]; omega
  · obtain ⟨y, y2, hy, hy2, rfl⟩ := zip_at hb
    obtain ⟨v, hv, rv'⟩ := r.get hy
    obtain ⟨v2, hv2, rv2'⟩ := r2.get hy2
    refine ⟨⟨vs, vs2, v, v2, hq, hq2, hv, hv2⟩, fun z H'' hz => ?_⟩
    obtain ⟨T, x0, y0, rfl, hT, rfl, hall, hall2⟩ := hz
    have := hall vs hq
    rw [hv] at this; cases this
    have := hall2 vs2 hq2
    rw [hv2] at this; cases this
    obtain ⟨x1, rs1, rv1⟩ := pair_new rs' hT rv' rv2'
    exact ⟨ι', x1, rs1, rv1⟩
theorem wk_zipT {us ws : List W} {p p2 : Addr} (rv : RV w K fa H ι (.tup us) (.ref p)) (rv2 : RV w K fa H ι (.tup ws) (.ref p2)) :
    Wk w K fa (RZ.ItzT K p p2) (List.zipWith (fun u v => W.tup [u, v]) us ws) [] H ι := by
  intro H' ι' S' x rs' hs i
  obtain ⟨p', vs, e, hq, r⟩ := rv_tup' (rv.monoH x)
  cases e
  obtain ⟨p2', vs2, e, hq2, r2⟩ := rv_tup' (rv2.monoH x)
  cases e
  refine ⟨fun e => ⟨vs, vs2, hq, hq2, ?_⟩, fun b hb => ?_⟩
  · rw [List.length_zipWith] at e
    rw [← r.length, ← r2.length]; omega
  · obtain ⟨y, y2, hy, hy2, rfl⟩ := zip_at hb
    obtain ⟨v, hv, rv'⟩ := r.get hy
    obtain ⟨v2, hv2, rv2'⟩ := r2.get hy2
    refine ⟨⟨vs, vs2, v, v2, hq, hq2, hv, hv2⟩, fun z H'' hz => ?_⟩
    obtain ⟨T, x0, y0, rfl, hT, rfl, hall, hall2⟩ := hz
    have := hall vs hq
    rw [hv] at this; cases this
    have := hall2 vs2 hq2
    rw [hv2] at this; cases this
    obtain ⟨x1, rs1, rv1⟩ := pair_new rs' hT rv' rv2'
    exact ⟨ι', x1, rs1, rv1⟩
end
section
variable {X : Cx} {fa : Nat → Option Addr}
theorem i_enum {elts : List Expr} {kk : Nat} {tpos p pos : Pos} {e : Expr} {m : Rho → M W} (hg : Gl X "enumerate") (hm : X.mg "enumerate" = none) (hst : isStar e = false) (he : PE X e (rV X.w X.K fa m)) :
    PI X (.Tuple elts kk tpos) (.Call (.Name "enumerate" p) [e] [] pos) (rI X.w X.K fa fun ρ => do let x ← m ρ; wEnum x) := by
  have hs : starEach [e] X.env = [(false, eval e X.env)] := star_no hst
  refine ⟨fun pins s σ H R I ⟨ι, ρ, S, xs, src, S', rs, rr, hm0, q⟩ => ?_⟩
  obtain ⟨a, S1, h1, hm1⟩ := bindM hm0
  refine Call_ (ld_blt I hg hm boot_enumerate (PyProof.Rows.callWith_type1 (thn ((ev_cons he ev_nil hs).run pos pins s σ H (fun vs H1 => ∃ v ι1, vs = [v] ∧ Ext ι H ι1 H1 ∧ RS X.w X.K fa H1 ι1 S1 ∧ RV X.w X.K fa H1 ι1 a v) I
    ⟨ι, ρ, S, [a], S1, rs, rr, by show (m ρ >>= fun a => (M.ret [] >>= fun as => pure (a :: as) : M (List W))) S = _; rw [bind_some h1]; rfl, fun vs H1 ι1 x1 rs1 ras => by obtain ⟨v, vs', rfl, r, r2⟩ := ras.cons_inv; obtain rfl := r2.nil_inv; exact ⟨v, ι1, rfl, x1, rs1, r⟩⟩) fun us s1 ⟨vs, H1, I1, r1, v, ι1, ev, x1, rs1, rv1⟩ => ?_) hs rfl))
  subst ev
  obtain ⟨u, rfl, rx⟩ := r1.one
  unfold wEnum at hm1
  split at hm1
  · rename_i ws hw
    cases hm1
    cases hl : listOf S' a with
    | some ws' =>
      have e0 := listOf_seq hl
      rw [hw] at e0; cases e0
      obtain ⟨p', vs, rfl, hq, r⟩ := listOf_rv rs1 hl rv1
      obtain rfl : u = Value.ref p' := rx
      obtain ⟨its, rv, pl, hz⟩ := I1.list hq
      have qq := q _ H1 ι1 x1 rs1 (by simp; rw [r.length]; exact hz) (wk_enumL rs1 hl rv1)
      refine call_enumerate_list pl.isList fun h' he' hit hsz hk => wpAny_pyIter_enum he' ?_
      have I2 : Inv X pins σ H1 { s1 with heap := h' } := I1.kept (t' := s1.toks) hk
      refine ⟨s1.heap.objs.size + 1, [s1.heap.objs.size + 1, s1.heap.objs.size], _, _, H1, rfl, I2, turn_enum p' (s1.heap.objs.size + 1) s1.heap.objs.size, ⟨⟨.none, he'⟩, hit, Nat.succ_ne_self _⟩, fun b hb => ?_, qq⟩
      have hle : s1.heap.objs.size ≤ b := by
        have e' : b = s1.heap.objs.size + 1 ∨ b = s1.heap.objs.size := by simpa using hb
        rcases e' with z | z <;> rw [z]
        · exact Nat.le_add_right _ _
        · exact Nat.le_refl _
      exact I1.fpOk hle (I1.hok.fresh hle)
    | none =>
      cases a with
      | tup ws' =>
        cases hw
        obtain ⟨p', vs, rfl, hq, r⟩ := rv_tup' rv1
        obtain rfl : u = Value.ref p' := rx
        obtain ⟨its, rv, pl, hz⟩ := I1.tuple hq
        have qq := q _ H1 ι1 x1 rs1 (by simp; rw [r.length]; exact hz) (wk_enumT rv1)
        have plt : p' < s1.heap.objs.size := by obtain ⟨o, ho, _⟩ := pl; exact Heap.lt_size ho
        refine call_enumT pl fun h' he' hit hk => wpAny_pyIter_enum he' ?_
        have I2 : Inv X pins σ H1 { s1 with heap := h' } := I1.kept (t' := s1.toks) hk
        refine ⟨s1.heap.objs.size + 1, [s1.heap.objs.size + 1, s1.heap.objs.size], _, _, H1, rfl, I2, turn_enumT p' (s1.heap.objs.size + 1) s1.heap.objs.size, ⟨⟨.none, he'⟩, hit, Nat.succ_ne_self _, Nat.ne_of_lt plt, Nat.ne_of_gt (Nat.lt_succ_of_lt plt)⟩, fun b hb => ?_, qq⟩
        have hle : s1.heap.objs.size ≤ b := by
          have e' : b = s1.heap.objs.size + 1 ∨ b = s1.heap.objs.size := by simpa using hb
          rcases e' with z | z <;> rw [z]
          · exact Nat.le_add_right _ _
          · exact Nat.le_refl _
        exact I1.fpOk hle (I1.hok.fresh hle)
      | lst us => cases hl
      | ref n =>
        have hw : listOf S' (.ref n) = some _ := hw
        rw [hl] at hw; cases hw
      | _ => cases hw
  · cases hm1
theorem i_zip {elts : List Expr} {kk : Nat} {tpos p pos : Pos} {e e2 : Expr} {m m2 : Rho → M W} (hg : Gl X "zip") (hm : X.mg "zip" = none) (hst : isStar e = false) (hst2 : isStar e2 = false) (he : PE X e (rV X.w X.K fa m)) (he2 : PE X e2 (rV X.w X.K fa m2)) :
    PI X (.Tuple elts kk tpos) (.Call (.Name "zip" p) [e, e2] [] pos) (rI X.w X.K fa fun ρ => do let x ← m ρ; let y ← m2 ρ; wZip x y) := by
  have hs : starEach [e, e2] X.env = (false, eval e X.env) :: starEach [e2] X.env := star_no hst
  have hpl : (backTo pos (starEach [e2] X.env)).any (·.1) = false := by rw [back_any]; simp [hst2]
  refine PIimp (RZ.pi_zipA hg hm (ev_cons he (ev_cons he2 ev_nil (star_no hst2)) hs) hs hpl) fun σ H R ⟨ι, ρ, S, xs, src, S', rs, rr, hm0, q⟩ => ?_
  obtain ⟨a, S1, h1, hm1⟩ := bindM hm0
  obtain ⟨b, S2, h2, hm2⟩ := bindM hm1
  refine ⟨ι, ρ, S, [a, b], S2, rs, rr, ?_, fun vs H1 ι1 x1 rs1 ras => ?_⟩
  · show (m ρ >>= fun a => ((m2 ρ >>= fun b => (M.ret [] >>= fun as => pure (b :: as) : M (List W))) >>= fun as => pure (a :: as) : M (List W))) S = _
    rw [bind_some h1, bind_some (show (m2 ρ >>= fun b => (M.ret [] >>= fun as => pure (b :: as) : M (List W))) S1 = some ([b], S2) by rw [bind_some h2]; rfl)]
    rfl
  · obtain ⟨v, vs1, rfl, r, ras⟩ := ras.cons_inv
    obtain ⟨v2, vs2, rfl, r2, ras⟩ := ras.cons_inv
    obtain rfl := ras.nil_inv
    unfold wZip at hm2
    split at hm2
    · split at hm2
      · rename_i hz
        cases hm2
        obtain ⟨p1, vs, rfl, hq, r'⟩ := rv_tup' r
        obtain ⟨p2, vs2, rfl, hq2, r2'⟩ := rv_tup' r2
        exact ⟨p1, p2, vs, vs2, rfl, .inr ⟨hq, hq2, q _ H1 ι1 x1 rs1 (by rw [List.length_zipWith, ← lineN_eq]; omega) (wk_zipT r r2)⟩⟩
      · cases hm2
    · split at hm2
      · rename_i us ws hl1 hl2
        split at hm2
        · rename_i hz
          cases hm2
          obtain ⟨p1, vs, rfl, hq, r'⟩ := listOf_rv rs1 hl1 r
          obtain ⟨p2, vs2, rfl, hq2, r2'⟩ := listOf_rv rs1 hl2 r2
          exact ⟨p1, p2, vs, vs2, rfl, .inl ⟨hq, hq2, q _ H1 ι1 x1 rs1 (by rw [List.length_zipWith, ← lineN_eq]; omega) (wk_zipL rs1 hl1 hl2 r r2)⟩⟩
        · cases hm2
      · cases hm2
end

/-! ### d.items() -/
def Itdi (d : Addr) (n ep : Nat) : It :=
  ⟨fun i H => i < n ∧ (∃ es' ep', H d = some (dOb d es' ep') ∧ (es'.length = n → ep' = ep)) ∧ ∃ es' ep' e x y, H d = some (dOb d es' ep') ∧ es'.length = n ∧ es'[i]? = some e ∧ RelV x e.key ∧ RelV y e.val,
    fun i H v H' => ∃ T x y, v = .ref T ∧ H T = none ∧ H' = upd H T (.tup [x, y]) ∧ ∀ es' ep', H d = some (dOb d es' ep') → ∃ e, es'[i]? = some e ∧ RelV x e.key ∧ RelV y e.val,
    fun i H => n ≤ i ∧ (∃ es' ep', H d = some (dOb d es' ep') ∧ (es'.length = n → ep' = ep)) ∧ ∃ es' ep', H d = some (dOb d es' ep') ∧ es'.length = n⟩
theorem turn_di {P : Program} {w : World} {K : PySem.W.Frag} {elts : List Expr} {kk : Nat} {tpos : Pos} {d : Addr} {n ep : Nat} (it : Addr) : Turn P w K (.Tuple elts kk tpos) (Itdi d n ep) [it] it (fun i h => ∃ ok ov, IsItemIter h it d i n ep ok ov) where
  mem := by simp
  obj := fun i h st b hb => by
    have e : b = it := by simpa using hb
    subst e
    obtain ⟨ok, ov, e⟩ := st
    exact ⟨_, e, fun v z => nomatch z⟩
  keep := fun i h h' st k => by
    obtain ⟨ok, ov, e⟩ := st
    exact ⟨ok, ov, k it (by simp) _ e⟩
  item := by
    intro X hP hw hK hc i pins s σ H E I hf st hg
    subst hP hw hK
    obtain ⟨hi, ⟨es', ep', h1, h2⟩, es2, ep2, en, x, y, h3, h4, h5, h6, h7⟩ := hg
    obtain ⟨rfl, rfl⟩ := dob_inj I h1 h3
    obtain rfl := h2 h4
    obtain ⟨ok, ov, hit⟩ := st
    obtain ⟨_, _, o, ho, hcd, hd⟩ := dob_at I h1
    have hlt : it < s.heap.objs.size := Heap.lt_size hit
    have hsz : es2.toArray.size = n := by simpa using h4
    have hi2 : i < es2.toArray.size := by omega
    have hen : es2.toArray[i] = en := by
      have : es2[i]? = some es2.toArray[i] := by simp
      rw [h5] at this; exact (Option.some.inj this).symm
    rw [← hsz] at hit
    refine wpAny_pyNext_items_item_raw hit ⟨o, ho, hcd, hd⟩ hi2 fun h' b1 b2 b3 b4 => ?_
    rw [hen] at b1 b2
    refine ⟨_, rfl, wpAny_letOwnedTupleGo_items (s := { s with heap := h' }) b1 fun h'' he' sb => ?_⟩
    have hT2 : h''.get? s.heap.objs.size = some { cls := .type "tuple", data := .seq #[en.key, en.val] } := (sb.2 _ (Nat.ne_of_gt hlt)).trans b2
    have new : ObjOk X.prog X.w (upd H s.heap.objs.size (.tup [x, y])) h'' s.heap.objs.size (.tup [x, y]) :=
      ⟨by show 2 ≤ sizeLine; decide, [en.key, en.val], .cons h6 (.cons h7 .nil), ⟨_, hT2, rfl, _, rfl⟩⟩
    have I1 : Inv X pins σ (upd H s.heap.objs.size (.tup [x, y])) { s with heap := h'' } :=
      I.turnedNew (t' := s.toks) (ch := [it]) (fun b ob hb z => (sb.2 b (by simpa using hb)).trans (b4 b ob (by simpa using hb) z)) hf (Nat.le_refl _) new
    refine ⟨.ref s.heap.objs.size, _, I1, rfl, ⟨_, x, y, rfl, I.hok.fresh (Nat.le_refl _), rfl, fun es3 ep3 q => ?_⟩, ⟨_, _, by rw [← hsz]; exact he'⟩, fun b hb => ?_⟩
    · obtain ⟨rfl, _⟩ := dob_inj I h3 q
      exact ⟨en, h5, h6, h7⟩
    · have z : b = it := by simpa using hb
      rw [z, upd_ne (Nat.ne_of_lt hlt)]
      exact (hf it (by simp)).1
  done := by
    intro X hP hw hK hc i pins s σ H E I hf st hg
    subst hP hw hK
    obtain ⟨hi, ⟨es', ep', h1, h2⟩, es2, ep2, h3, h4⟩ := hg
    obtain ⟨rfl, rfl⟩ := dob_inj I h1 h3
    obtain rfl := h2 h4
    obtain ⟨ok, ov, hit⟩ := st
    obtain ⟨f0, f1, f2, f3, f4, f5⟩ := hf it (by simp)
    obtain ⟨_, _, o, ho, hcd, hd⟩ := dob_at I h1
    have hsz : es2.toArray.size = n := by simpa using h4
    rw [← hsz] at hit
    exact wpAny_pyNext_items_end_raw (I.ok.hd hc) hit ⟨o, ho, hcd, hd⟩ (by omega) fun h' eb => ⟨rfl, I.turned (t' := s.toks) (fun b ob hb e => eb b ob hb e) f0 f1 f3 f4 f5⟩
  self := fun A i s Q E st h => by
    obtain ⟨ok, ov, e⟩ := st
    exact wpAny_pyIter_itemiter e h
theorem wk_di {w : World} {K : PySem.W.Frag} {fa : Nat → Option Addr} {H : Hp} {ι : Pls} {S : Sto} {a : W} {ks us : List W} {p : Addr} (rs : RS w K fa H ι S) (h : dictOf S a = some (ks, us)) (rv : RV w K fa H ι a (.ref p)) (hku : ks.length = us.length) :
    ∃ es ep, H p = some (dOb p es ep) ∧ es.length = ks.length ∧ Wk w K fa (Itdi p es.length ep) (List.zipWith (fun u v => W.tup [u, v]) ks us) (srcOf S a) H ι := by
  obtain ⟨p', es, ep, e, h1, hnh, hl, st⟩ := dict_still rs h rv
  cases e
  refine ⟨es, ep, h1, hl, ?_⟩
  intro H' ι' S' x rs' hs i
  obtain ⟨es2, ep2, kvs, uvs, h2, en, r1, r2⟩ := st H' ι' S' x rs' hs
  obtain ⟨es3, ep3, h3, l3, q3⟩ := x.dk p es ep hnh h1
  have hl2 := (ents_len en).1
  refine ⟨fun e => ⟨by rw [e, List.length_zipWith, ← hku, hl]; omega, ⟨es3, ep3, h3, q3⟩, es2, ep2, h2, by rw [← hl2, hl]⟩, fun b hb => ?_⟩
  obtain ⟨k0, u0, hk0, hu0, rfl⟩ := zip_at hb
  have hi : i < ks.length := (List.getElem?_eq_some_iff.mp hk0).1
  have hi2 : i < es2.length := by omega
  obtain ⟨k, kv, uv, e1, e2, e4, e5, e6, e7⟩ := ents_get en (List.getElem?_eq_getElem hi2)
  obtain ⟨v, hv, rv'⟩ := r1.get hk0
  rw [e2] at hv; cases hv
  obtain ⟨v2, hv2, rv2'⟩ := r2.get hu0
  rw [e4] at hv2; cases hv2
  refine ⟨⟨by omega, ⟨es3, ep3, h3, q3⟩, es2, ep2, _, kv, uv, h2, by omega, List.getElem?_eq_getElem hi2, e6, e7⟩, fun z H'' hz => ?_⟩
  obtain ⟨T, x0, y0, rfl, hT, rfl, hall⟩ := hz
  obtain ⟨en', g1, g2, g3⟩ := hall es2 ep2 h2
  rw [List.getElem?_eq_getElem hi2] at g1; cases g1
  obtain rfl : x0 = kv := g2.inj e6
  obtain rfl : y0 = uv := g3.inj e7
  obtain ⟨x1, rs1, rv1⟩ := pair_new rs' hT rv' rv2'
  exact ⟨ι', x1, rs1, rv1⟩
section
variable {X : Cx} {fa : Nat → Option Addr}
theorem i_items {elts : List Expr} {kk : Nat} {tpos apos cpos : Pos} {e : Expr} {m : Rho → M W} (he : PE X e (rV X.w X.K fa m)) (hbase : attributeBase e "items" X.env (eval e X.env) = eval e X.env) (hline : (apos.endLine == cpos.line) = true) :
    PI X (.Tuple elts kk tpos) (.Call (.Attribute e "items" apos) [] [] cpos) (rI X.w X.K fa fun ρ => do let x ← m ρ; itemsD x) := by
  refine ⟨fun pins s σ H R I ⟨ι, ρ, S, xs, src, S', rs, rr, hm0, q⟩ => ?_⟩
  obtain ⟨a, S1, h1, hm1⟩ := bindM hm0
  refine wpAny_Call_method (T := "dict") (id := "dict.items") hbase rfl hline F.plainAttrs_dict F.slot_dict_items F.type_dict_items (thn (he.run pins s σ H (fun v H1 => ∃ ι1, Ext ι H ι1 H1 ∧ RS X.w X.K fa H1 ι1 S1 ∧ RV X.w X.K fa H1 ι1 a v) I
    ⟨ι, ρ, S, a, S1, rs, rr, h1, fun v H' ι' a1 a2 a3 => ⟨ι', a1, a2, a3⟩⟩) fun u s1 ⟨v, H1, I1, rx, ι1, x1, rs1, rv1⟩ => ?_)
  unfold itemsD at hm1
  split at hm1
  · rename_i ks us hd
    cases hm1
    obtain ⟨p, es, ep, kvs, uvs, rfl, hp, en, nd, rk, ru⟩ := dictOf_rv rs1 hd rv1
    obtain rfl : u = Value.ref p := rx
    obtain ⟨q1, q2, q3⟩ := ents_len en
    obtain ⟨es', ep', hp', hl, wk⟩ := wk_di rs1 hd rv1 (by rw [q1, ← q3, ru.length])
    obtain ⟨g1, g2, o, ho, hcd, hdt⟩ := dob_at I1 hp'
    have raw : s1.heap.DictRaw p es'.toArray ep' := ⟨o, ho, hcd, hdt⟩
    refine ⟨raw.typeIs, ?_, ?_⟩
    · intro b e; cases e; exact ⟨o, ho, hcd.2.1⟩
    · have I2 : Inv X pins σ H1 { s1 with heap := s1.heap.push { cls := .type "dict_items", data := .fields #[.ref p] } } := I1.kept (t' := s1.toks) fun b ob q => Heap.get?_push_of_some _ q
      have qq := q _ H1 ι1 x1 rs1 (by rw [List.length_zipWith, ← hl]; omega) wk
      have fin : wpAny (model X.prog X.w) X.A (pyIter (.ref s1.heap.objs.size)) (PIE X pins σ (.Tuple elts kk tpos) R) X.xe { s1 with heap := s1.heap.push { cls := .type "dict_items", data := .fields #[.ref p] } } := by
        refine wpAny_pyIter_items_raw (d := p) (es := es'.toArray) (ep := ep') ⟨_, Heap.get?_push_size _ rfl, rfl, rfl⟩ (raw.at fun o e => Heap.get?_push_of_some _ e) (pi_one (tk := s1.toks) I2 _ (turn_di _) ⟨.none, .none, ?_⟩ qq)
        rw [List.size_toArray]
        exact Heap.get?_push_size _ rfl
      show wpAny _ _ (callWith cpos (.builtin "dict.items") [.ref p] [] []) _ X.xe s1
      exact method_meetsIn F.slot_dict_items F.entry_dict_items rfl (PySem.evalArgs_none ⟨rfl, raw.typeIs, F.args_dict_items_1 _, _, meets_dict_items_raw p g1, ⟨_, _, raw⟩, fin⟩)
  · cases hm1
end
end TZ

set_option Elab.async false
set_option linter.all false
set_option maxRecDepth 100000
set_option maxHeartbeats 1000000
/-! B7: sorted by a key that a def gives. -/
namespace TZ
open PySem PySem.Spec L2 StX PyProof.Rows PySem.W

section
variable {X : Cx} {fa : Nat → Option Addr} {cf : Nat → List W → M W} {pins : List (Addr × Obj)} {σ : L2.St} {l i : Nat} {f : Addr}
/-- a call of the key's def in a deeper place -/
theorem key_call {A2 : Around} (T : Tbl X.prog X.w X.K X.mg X.base fa l cf) (hf : fa i = some f) (hr : Room l A2) (hfr : A2.frames = X.A.frames) {H : Hp} {ι : Pls} {s : Shared} {S : Sto} {a c : W} {v : V} {u : Value} {E : Value → Shared → Prop}
    (I : Inv X pins σ H s) (rs : RS X.w X.K fa H ι S) (r : RV X.w X.K fa H ι a v) (rv : RelV v u) (h : cf i [a] S = some (c, S)) :
    wpAny (model X.prog X.w) A2 (call (.ref f) [u]) (fun u' s' => ∃ v' H' ι', Inv X pins σ H' s' ∧ RelV v' u' ∧ Ext ι H ι' H' ∧ RS X.w X.K fa H' ι' S ∧ RV X.w X.K fa H' ι' c v') E s := by
  obtain ⟨hk, F⟩ := T.fn i f hf
  refine wpAny_call ?_
  have e0 : Env0 X.prog X.w X.K X.mg X.base A2 X.stack s H := by
    have q := I.env0
    exact ⟨by rw [hfr]; exact q.frames, q.mod, q.bs, q.bsz, q.funs, q.frf, q.hok, q.bare⟩
  refine codeAny_mono (F A2 X.stack s H [u] [v] (fun v' H' => ∃ ι', Ext ι H ι' H' ∧ RS X.w X.K fa H' ι' S ∧ RV X.w X.K fa H' ι' c v') E0 hr e0 (.cons rv .nil) ⟨ι, S, [a], c, S, rs, .cons r .nil, h, fun v' H' ι' x rs' rv' => ⟨ι', x, rs', rv'⟩⟩) fun r s' hq => ?_
  cases r with
  | error e => exact hq.elim
  | ok fl =>
    cases fl with
    | ret u' =>
      obtain ⟨v', H', I', r', ι', x', rs', rv'⟩ := I.after hq
      exact ⟨v', H', ι', I', r', x', rs', rv'⟩
    | next => exact False.elim hq
    | brk => exact False.elim hq
    | cont => exact False.elim hq
theorem each_app {α β : Type} {R : α → β → Prop} {x : α} {y : β} (h : R x y) : ∀ {as : List α} {bs : List β}, EachIs R as bs → EachIs R (as ++ [x]) (bs ++ [y])
  | _, _, .nil => .cons h .nil
  | _, _, .cons q t => .cons q (each_app h t)
theorem each_mapW {α β γ : Type} {R : α → γ → Prop} (g : β → γ) : ∀ {as : List α} {bs : List β}, EachIs (fun v b => R v (g b)) as bs → EachIs R as (bs.map g)
  | _, _, .nil => .nil
  | _, _, .cons q t => .cons q (each_mapW g t)
theorem vals_snoc {v : V} {u : Value} (h : RelV v u) : ∀ {vs : List V} {us : List Value}, Vals vs us → Vals (vs ++ [v]) (us ++ [u])
  | _, _, .nil => .cons h .nil
  | _, _, .cons q t => .cons q (vals_snoc h t)
/-- the keys are asked, one after another; then it sorts -/
theorem key_rest {A2 : Around} (T : Tbl X.prog X.w X.K X.mg X.base fa l cf) (hf : fa i = some f) (hr : Room l A2) (hfr : A2.frames = X.A.frames) (hu : A2.units + 60 < cLine) {H : Hp} {ι : Pls} {s : Shared} {S : Sto} {ws ks : List W} {vs : List V} {us : List Value} {a kS e1 : Nat} {E : Value → Shared → Prop} {P : PySem.Fin → Shared → Prop}
    (I : Inv X pins σ H s) (rs : RS X.w X.K fa H ι S) (r : RVs X.w X.K fa H ι ws vs) (rv : Vals vs us) (hks : sortKey cf i ws S = some ks) (hfl : flats 30 ks = true) (hal : wAlike ks = true) (hso : wSorts ks = true) (hz : us.length ≤ sizeLine)
    (fa1 : FpOk X pins H a) (fk1 : FpOk X pins H kS) (hka : kS ≠ a) (na : s.heap.get? a = some (seqObj "list" #[] e1)) (nk : s.heap.get? kS = some (seqObj "list" #[] 0))
    (h : ∀ s' H' ι' xs out c, Inv X pins σ H' s' → Ext ι H ι' H' → RS X.w X.K fa H' ι' S → H' a = none → s'.heap.get? a = some (seqObj "list" (List.toArray out) c) → Vals xs out → out.length = us.length → RVs X.w X.K fa H' ι' (((ks.zip ws).mergeSort fun p q => wLe2 p.1 q.1).map Prod.snd) xs → P (.done (.ret .none)) s') :
    wpAny (model X.prog X.w) A2 (ksk_rest a (.ref f) false us.toArray e1 (.ref kS)) P E s := by
  have keysLen : ∀ {ws ks : List W} {S : Sto}, sortKey cf i ws S = some ks → ks.length = ws.length := by
    intro ws
    induction ws with
    | nil => intro ks S h; simp only [sortKey] at h; cases h; rfl
    | cons w ws ih =>
      intro ks S h
      simp only [sortKey] at h
      split at h
      · split at h
        · split at h
          · rename_i hk; cases h; simp [ih hk]
          · cases h
        · cases h
      · cases h
  have keyAt : ∀ {ws ks : List W} {S : Sto}, sortKey cf i ws S = some ks → ∀ (j : Nat) (x k : W), ws[j]? = some x → ks[j]? = some k → cf i [x] S = some (k, S) := by
    intro ws
    induction ws with
    | nil => intro ks S h j x k e; simp at e
    | cons w ws ih =>
      intro ks S h j x k e e2
      simp only [sortKey] at h
      split at h
      · rename_i k0 S' hcf
        split at h
        · rename_i hS
          split at h
          · rename_i ks' hk
            cases h
            cases j with
            | zero =>
              simp at e e2
              rw [← e, ← e2, hcf, hS]
            | succ j => exact ih hk j x k (by simpa using e) (by simpa using e2)
          · cases h
        · cases h
      · cases h
  have hkl := keysLen hks
  have hwl : ws.length = us.length := r.length.trans rv.length
  unfold ksk_rest
  refine wpAny_bind (wpAny_rule ?_)
  rw [List.forIn_toArray]
  refine wpAny_bind (ksk_fold (fun j s' => ∃ H' ι' kvs kA e, Inv X pins σ H' s' ∧ Ext ι H ι' H' ∧ RS X.w X.K fa H' ι' S ∧ H' a = none ∧ H' kS = none ∧ s'.heap.get? a = some (seqObj "list" #[] e1) ∧ s'.heap.get? kS = some (seqObj "list" kA e) ∧ RVs X.w X.K fa H' ι' (ks.take j) kvs ∧ Vals kvs kA.toList) us 0 s
    ⟨H, ι, [], #[], 0, I, Ext.refl _ _, rs, fa1.1, fk1.1, na, nk, .nil, .nil⟩ ?step ?done)
  case step =>
    rintro j u s' hx ⟨H', ι', kvs, kA, e, I', x', rs', ha', hk', na', nk', rks, vks⟩
    simp only [Nat.zero_add] at rks ⊢
    have hj : j < us.length := (List.getElem?_eq_some_iff.mp hx).1
    have hjw : j < ws.length := by omega
    have hjk : j < ks.length := by omega
    obtain ⟨v, hv, rv1⟩ := (r.mono x').get (List.getElem?_eq_getElem hjw)
    obtain ⟨u', hu', rr⟩ := rv.get hv
    rw [hx] at hu'; cases hu'
    have hc := keyAt hks j _ _ (List.getElem?_eq_getElem hjw) (List.getElem?_eq_getElem hjk)
    have fps : ∀ b ∈ [a, kS], FpOk X pins H' b := fun b hb => by
      have e' : b = a ∨ b = kS := by simpa using hb
      rcases e' with rfl | rfl
      · exact ⟨ha', fa1.2⟩
      · exact ⟨hk', fk1.2⟩
    have I2 := I'.pinned (fp := [a, kS]) fps fun b hb => by
      have e' : b = a ∨ b = kS := by simpa using hb
      rcases e' with rfl | rfl
      · exact ⟨_, na', fun v q => nomatch q⟩
      · exact ⟨_, nk', fun v q => nomatch q⟩
    refine wpAny_bind (wpAny_attempt (wpAny_mono (key_call (E := fun _ _ => False) T hf hr hfr I2 rs' rv1 rr hc) (fun u2 s2 ⟨v2, H2, ι2, I3, r2, x2, rs2, rv2⟩ => ?_) fun _ _ hF => hF.elim))
    try dsimp only
    have pin : ∀ b ∈ [a, kS], ∀ o, s'.heap.get? b = some o → s2.heap.get? b = some o ∧ H2 b = none := fun b hb o e =>
      let z := I3.pin (b, o) (List.mem_append_right _ (List.mem_append_right _ (mem_pinsAt hb e)))
      ⟨z.1, z.2.1⟩
    obtain ⟨na2, ha2⟩ := pin a (by simp) _ na'
    obtain ⟨nk2, hk2⟩ := pin kS (by simp) _ nk'
    have I4 : Inv X pins σ H2 s2 := I3.unpinned
    have kl : kA.size = j := by
      have h1 : kvs.length = kA.size := by have := vks.length; simpa using this
      have h2 := rks.length
      rw [List.length_take] at h2
      omega
    have sb := Heap.SameBut.update s2.heap kS (Obj.mapSeq (·.push u2))
    obtain ⟨c2, hc2⟩ : ∃ c2, (s2.heap.update kS (Obj.mapSeq (·.push u2))).get? kS = some (seqObj "list" (kA.push u2) c2) := ⟨_, get?_update_seq nk2 (·.push u2)⟩
    refine wpAny_bind (listUpdate_at nk2 rfl ?_ (by omega) (by rw [Array.size_push]; omega))
    have I5 : Inv X pins σ H2 { s2 with heap := s2.heap.update kS (Obj.mapSeq (·.push u2)) } := I4.turned (t' := s2.toks) (it := kS) (fun b o hb e => (sb.2 b hb).trans e) hk2 fk1.2.1 fk1.2.2.2.1 fk1.2.2.2.2.1 fk1.2.2.2.2.2
    refine wpAny_pure ⟨rfl, H2, ι2, kvs ++ [v2], kA.push u2, c2, I5, x'.trans x2, rs2, ha2, hk2, (sb.2 a hka.symm).trans na2, hc2, ?_, ?_⟩
    · rw [List.take_add_one, List.getElem?_eq_getElem hjk]
      exact (rks.mono x2).append (.cons rv2 .nil)
    · rw [Array.toList_push]
      exact vals_snoc r2 vks
  case done =>
    rintro s' ⟨H', ι', kvs, kA, e, I', x', rs', ha', hk', na', nk', rks, vks⟩
    rw [Nat.zero_add, List.take_of_length_le (by omega)] at rks
    have ksz : kA.size = us.length := by
      have h1 : kvs.length = kA.size := by have := vks.length; simpa using this
      have h2 := rks.length
      omega
    try dsimp only
    refine wpAny_bind (listItems_at nk' rfl ?_)
    obtain ⟨G, g1, g2⟩ := L2.restrict s'.heap fun b => decide (b ≠ kS)
    have er := each_reads I' hfl rks vks
    have erK : EachIs (fun v d => ∃ as, Reads s'.heap v d as) kA.toList (ks.map W.py) := each_map (R := fun v d => ∃ as, Reads s'.heap v d as) W.py er
    have hu2 : ∀ d, d ∈ ks.map W.py → A2.units + d.depth < cLine := by
      intro d hd
      obtain ⟨b, hb, rfl⟩ := List.mem_map.mp hd
      have := depth_flat b 30 (flats_mem hfl b hb)
      omega
    have gnk : G.get? kS = none := g2 kS (by simp)
    have kp : KeepsBut a G s'.heap := fun b o hb q => by
      by_cases hbk : b = kS
      · rw [hbk, gnk] at q; cases q
      · rw [← g1 b (by simpa using hbk)]; exact q
    refine keyH_end (κ := dataKind s'.heap (ks.map W.py)) (h₁ := G) (vs := us) kp gnk nk' na' hka (SortsAt.data (s := s') erK (alike_w hal) (sorts_w hso) hu2) ksz hz fun h3 tk3 c k3 n3 => ?_
    have keep3 : ∀ b o, b ≠ a → b ≠ kS → s'.heap.get? b = some o → h3.get? b = some o := fun b o hb hbk q => k3 b o hb (by rw [g1 b (by simpa using hbk)]; exact q)
    have I6 : Inv X pins σ H' { s' with heap := h3, toks := tk3 } := I'.turnedL (t' := tk3) (ch := [a, kS]) (fun b o hb q => keep3 b o (fun z => hb (by simp [z])) (fun z => hb (by simp [z])) q) fun b hb => by
      have e' : b = a ∨ b = kS := by simpa using hb
      rcases e' with rfl | rfl
      · exact ⟨ha', fa1.2⟩
      · exact ⟨hk', fk1.2⟩
    have eR : EachIs (fun u (p : W × W) => ∃ x, RV X.w X.K fa H' ι' p.2 x ∧ RelV x u) us (ks.zip ws) := by
      have e1 := each_rv (r.mono x') rv
      have e2 : (ks.zip ws).map Prod.snd = ws := by rw [List.map_snd_zip]; omega
      rw [← e2] at e1
      exact each_of_map Prod.snd e1
    have out := keyedOut_each (rev := false) (k := fun p : W × W => p.1.py) (bs := ks.zip ws) (vs := us) (out := sortVals (dataKind s'.heap (ks.map W.py)) false kA.toList us) ?_ eR
    · have e3 : ((ks.zip ws).mergeSort (dataLe false fun p : W × W => p.1.py)) = (ks.zip ws).mergeSort fun p q => wLe2 p.1 q.1 := rfl
      rw [e3] at out
      have out2 : EachIs (fun u b => ∃ x, RV X.w X.K fa H' ι' b x ∧ RelV x u) (sortVals (dataKind s'.heap (ks.map W.py)) false kA.toList us) (((ks.zip ws).mergeSort fun p q => wLe2 p.1 q.1).map Prod.snd) := each_mapW (R := fun u b => ∃ x, RV X.w X.K fa H' ι' b x ∧ RelV x u) Prod.snd out
      obtain ⟨xs, rx, vx⟩ := rv_each out2
      exact h _ H' ι' xs _ c I6 x' rs' ha' n3 vx (by rw [out.length, List.length_mergeSort, List.length_zip]; omega) rx
    · have e4 : (ks.zip ws).map (fun p : W × W => p.1.py) = ks.map W.py := by
        have : (ks.zip ws).map Prod.fst = ks := by rw [List.map_fst_zip]; omega
        rw [← this, List.map_map]; rw [this]; rfl
      refine ⟨s'.heap, kA.toList, ?_, ?_, ?_⟩
      · rw [e4]; exact alike_w hal
      · rw [e4]
      · rw [e4]; exact erK
/-- an object of ours that stands, tracked from here on -/
theorem track {H : Hp} {s : Shared} {a : Addr} {o : HO} (I : Inv X pins σ H s) (fp : FpOk X pins H a) (new : ObjOk X.prog X.w (upd H a o) s.heap a o) : Inv X pins σ (upd H a o) s := by
  obtain ⟨f0, f1, f2, f3, f4, f5⟩ := fp
  have u : Un (frs X.stack) [a] H (upd H a o) s.heap s.heap := by
    refine ⟨fun b ob e n _ _ => e, fun b ob e n _ _ => ⟨ob.slots, e⟩, fun b ob e n hx => ?_, fun b ob e _ => ⟨ob, e⟩, fun b xs e => ?_, fun b ob v e => ?_, fun b ps e => ⟨#[], ?_⟩⟩
    · rw [upd_ne (by simpa using hx)]; exact n
    · rw [upd_ne (fun z => by rw [z, f0] at e; cases e)]; exact e
    · rw [upd_ne (fun z => by rw [z, f0] at e; cases e)]; exact e
    · rw [upd_ne (fun z => by rw [z, f0] at e; cases e), e]; simp
  have := I.call (g' := s.gens) (t' := s.toks) (d' := s.drawn) (ch := [a]) u (I.hok.laidN (fun b ob e => e) f0 new) I.bare fun b hb => by
    rw [List.mem_singleton.mp hb]
    exact ⟨f3, f1, f4, f5⟩
  exact this
theorem b_skey (T : Tbl X.prog X.w X.K X.mg X.base fa l cf) (hf : fa i = some f) (hr : Room (l + 2) X.A) : CallRK X (.builtin "sorted") [Str.ofString "key"] (fun vs zs H Q => zs = [.ref f] ∧ rCl X.w X.K fa (fun as => match as with | [x] => wSortKey cf i x | _ => .no) vs H Q) := by
  rintro pins s σ H xs zs us zv Q I rxs rzs ⟨rfl, ι, S, as, c, S', rs, ras, hg, q⟩
  obtain ⟨zu, rfl, rz⟩ := rzs.one
  obtain rfl : zu = Value.ref f := rz
  cases as with
  | nil => cases hg
  | cons a0 rest =>
   cases rest with
   | cons b0 rest => cases hg
   | nil =>
    have hg : wSortKey cf i a0 S = some (c, S') := hg
    obtain ⟨v, vs0, rfl, r, r2⟩ := ras.cons_inv
    obtain rfl := r2.nil_inv
    unfold wSortKey at hg
    split at hg
    · rename_i ws hw
      split at hg
      · rename_i ks hks
        split at hg
        · rename_i hcond
          obtain ⟨hfl, hal, hso⟩ := hcond
          have e : some (W.ref S.length, S ++ [Ob.lst (((ks.zip ws).mergeSort fun p q => wLe2 p.1 q.1).map Prod.snd)]) = some (c, S') := hg
          cases e
          obtain ⟨p, vs, rfl, hq, r'⟩ := listOf_rv rs hw r
          obtain ⟨u, rfl, rx⟩ := rxs.one
          obtain rfl : u = Value.ref p := rx
          obtain ⟨its, rv, pl, hsz⟩ := I.list hq
          have hil : its.length = vs.length := rv.length.symm
          refine sorted_of_sort pl.isList (by rw [hil]; exact hsz) (PyProof.Rows.ksk_s1 _ _) (fun _ => PyProof.Rows.ksk_l1 _ _) fun E' => ?_
          show wpAny _ _ (Builtin.«list.sort» ⟨[.ref (s.heap.objs.size + 1)], [(Str.ofString "key", .ref f)]⟩) _ _ _
          rw [ksk_t1]
          have hro : X.A.in1.in1.units + 60 < cLine := by have := hr.un; simp [Around.in1]; omega
          have hr2 : Room l X.A.in1.in1 := hr.in1.in1
          have ho := copyHeap_at s.heap its
          generalize hA : s.heap.objs.size + 1 = a at ho
          have old1 : ∀ b o, s.heap.get? b = some o → (copyHeap s.heap its).get? b = some o := fun b o e => copyHeap_old e
          generalize hc1 : copyHeap s.heap its = h1 at ho old1
          have ha : a < h1.objs.size := Heap.lt_size ho
          obtain ⟨e1, ho1⟩ : ∃ e1, (h1.update a (Obj.mapSeq fun _ => (#[] : Array Value))).get? a = some (seqObj "list" #[] e1) := ⟨_, get?_update_seq ho fun _ => #[]⟩
          have hkS : ((h1.update a (Obj.mapSeq fun _ => (#[] : Array Value))).push (seqObj "tuple" its.toArray 0)).objs.size = h1.objs.size + 1 := by rw [size_push', Heap.size_update]
          unfold ksk_tree
          refine wpAny_bind (listItems_at ho rfl ?_)
          refine wpAny_bind (listUpdate_at ho rfl ?_ (by rw [List.size_toArray, hil]; exact hsz) (Nat.zero_le _))
          refine wpAny_bind (seqEpoch_at ho1 rfl ?_)
          refine wpAny_bind (wpAny_newTuple ?_ (by show its.length ≤ _; rw [hil]; exact hsz))
          refine wpAny_bind (wpAny_newList ?_ (Nat.zero_le _))
          refine wpAny_holding ?_
          have hge : s.heap.objs.size ≤ a := by omega
          have hge2 : s.heap.objs.size ≤ h1.objs.size + 1 := by omega
          have keep : ∀ b o, s.heap.get? b = some o → (((h1.update a (Obj.mapSeq fun _ => (#[] : Array Value))).push (seqObj "tuple" its.toArray 0)).push (seqObj "list" #[] 0)).get? b = some o := fun b o e =>
            Heap.get?_push_of_some _ (Heap.get?_push_of_some _ (((Heap.SameBut.update h1 a _).2 b (Nat.ne_of_lt (Nat.lt_of_lt_of_le (Heap.lt_size e) hge))).trans (old1 b o e)))
          have I1 : Inv X pins σ H { s with heap := ((h1.update a (Obj.mapSeq fun _ => (#[] : Array Value))).push (seqObj "tuple" its.toArray 0)).push (seqObj "list" #[] 0) } := I.kept (t' := s.toks) keep
          have fpa : FpOk X pins H a := I.fpOk hge (I.hok.fresh hge)
          have fpk : FpOk X pins H (h1.objs.size + 1) := I.fpOk hge2 (I.hok.fresh hge2)
          rw [hkS]
          refine key_rest T hf hr2 rfl hro I1 rs r' rv hks hfl hal hso (by rw [hil]; exact hsz) fpa fpk (Nat.ne_of_gt (Nat.lt_succ_of_lt ha)) (Heap.get?_push_of_some _ (Heap.get?_push_of_some _ ho1)) (by rw [← hkS]; exact Heap.get?_push_size _ rfl)
            fun s' H' ι' xs out cc I' x' rs' ha' hget vx hlen rx => ⟨rfl, ?_⟩
          have hn : H a = none := I.hok.fresh hge
          have I2 := track (o := .lst xs) I' ⟨ha', fpa.2⟩ (show ObjOk X.prog X.w _ _ _ (.lst xs) from ⟨by rw [vx.length, hlen, hil]; exact hsz, out, cc, vx, hget⟩)
          exact ⟨.ref a, _, I2, rfl, (q.mono x').push_lst rs' rx ha'⟩
        · cases hg
      · cases hg
    · cases hg
theorem ev_skey {a : Expr} {g : Str} {p gp kp pos : Pos} {m : Rho → M W} (T : Tbl X.prog X.w X.K X.mg X.base fa l cf) (hf : fa i = some f) (hr : Room (l + 2) X.A) (hgS : Gl X "sorted") (hmS : X.mg "sorted" = none) (hgg : Gl X g) (hmg : X.mg g = some (.ref f)) (hdg : (g == ("__debug__" : Str)) = false)
    (ha : PE X a (rV X.w X.K fa m)) (hst : isStar a = false) : PE X (.Call (.Name "sorted" p) [a] [⟨some "key", .Name g gp, kp⟩] pos) (rV X.w X.K fa fun ρ => do let x ← m ρ; wSortKey cf i x) := by
  have hs : starEach [a] X.env = [(false, eval a X.env)] := star_no hst
  refine PEimp (pe_callBK (id := "sorted") (b_skey T hf hr) hgS hmS rfl (ev_cons ha ev_nil hs) (pk_cons (pe_glob hgg hmg (v := .ref f) rfl hdg) pk_nil) (by decide) (by decide) (by rw [hs]; rfl) (by rw [hs]; rfl)) fun σ H Q ⟨ι, ρ, S, c, S', rs, rr, hm, q⟩ => ?_
  obtain ⟨x, S1, h1, hm1⟩ := bindM hm
  refine ⟨ι, ρ, S, [x], S1, rs, rr, ?_, fun vs H1 ι1 x1 rs1 ras => ⟨rfl, ι1, S1, [x], c, S', rs1, ras, hm1, q.mono x1⟩⟩
  show (m ρ >>= fun a => (M.ret [] >>= fun as => pure (a :: as) : M (List W))) S = _
  rw [bind_some h1]; rfl
end
end TZ

set_option Elab.async false
set_option linter.all false
set_option maxRecDepth 100000
/-! A17: expressions, by the fuel of tr. -/
namespace TZ
open PySem L2 StX PyProof.Rows

def okB : Blt → Bool
  | .len | .list | .tuple | .sorted | .all | .any | .max1 | .max2 | .min2 | .int | .bool => true
  | _ => false
def okM : Mth → Bool
  | .append | .pop0 | .pop1 | .insert | .get1 | .get2 => true
  | _ => false
/-- a walk of pairs: it wants a target of several names -/
def pairIt : E → Bool
  | .enum _ | .zip _ _ | .items _ => true
  | _ => false
def P.isTp : P → Bool
  | .tp _ => true
  | _ => false
def pairOk (t : P) (it : E) : Bool := !pairIt it || t.isTp
def isTupE : Expr → Bool
  | .Tuple _ _ _ => true
  | _ => false
/-- the displays with stars that are taken -/
def disp2 : E → Bool
  | .dpair _ _ (.dstar _ .dnil) | .dstar _ (.dstar _ .dnil) => true
  | _ => false
/-- what is shown sound here -/
def okE : E → Bool
  | .var _ | .non | .bl _ | .int _ | .str _ | .gcon _ | .gfn _ | .nil | .dnil => true
  | .cons e es => okE e && okE es
  | .star e es => okE e && okE es
  | .tup es | .lst es => okE es
  | .dpair k v ds => okE k && okE v && okE ds
  | .dstar e ds => okE e && okE ds
  | .dct ds => okE ds && (allPairs ds 15 || disp2 ds)
  | .and a b | .or a b => okE a && okE b
  | .not a => okE a
  | .ifx c a b => okE c && okE a && okE b
  | .cmp _ a b => okE a && okE b
  | .chain _ _ a b c => okE a && okE b && okE c
  | .isn a | .notn a | .isb a _ => okE a
  | .bin _ a b => okE a && okE b
  | .ix a i => okE a && okE i
  | .slc a lo hi => okE a && okE lo && okE hi
  | .rev a => okE a
  | .call _ es | .callv _ es => okE es
  | .blt b es => okB b && okE es
  | .skey a _ => okE a
  | .mth m a es => okM m && okE a && okE es
  | .isi _ a => okE a
  | .lc _ t it c e => okE it && okE c && okE e && pairOk t it
  | .lc2 _ _ t it c t1 it1 c1 e => okE it && okE c && okE it1 && okE c1 && okE e && pairOk t it && pairOk t1 it1
  | .dc _ t it c k v => okE it && okE c && okE k && okE v && pairOk t it
  | .iter a | .rng1 a => okE a
  | .rng2 a b => okE a && okE b
  | .enum a | .items a => okE a
  | .zip a b => okE a && okE b

/-- the scope that a block runs in: a captured name may be the block's own cell -/
structure ScR (sc sc' : Scope) : Prop where
  kd : sc'.kind = sc.kind
  keep : ∀ x k, k ≠ NameKind.free → sc.names.lookup x = some k → sc'.names.lookup x = some k
  free : ∀ x, sc.names.lookup x = some .free → sc'.names.lookup x = some .free ∨ sc'.names.lookup x = some .cell
theorem ScR.refl (sc : Scope) : ScR sc sc := ⟨rfl, fun _ _ _ h => h, fun _ h => .inl h⟩
theorem rel_free {sc : Scope} : ∀ {names : List (Str × NameKind)} {x : Str}, names.lookup x = some .free →
    (names.map fun (n, k) => if (k == NameKind.free && sc.kind == .function && sc.names.lookup n == some .cell) then (n, NameKind.cell) else (n, k)).lookup x = some .free ∨
    (names.map fun (n, k) => if (k == NameKind.free && sc.kind == .function && sc.names.lookup n == some .cell) then (n, NameKind.cell) else (n, k)).lookup x = some .cell
  | [], _, h => by simp at h
  | (n, k₀) :: r, x, h => by
    have ih := @rel_free sc r x
    rw [List.map_cons]
    rw [List.lookup_cons] at h
    by_cases hx : (x == n) = true
    · rw [hx] at h
      simp only [Option.some.injEq] at h
      subst h
      show List.lookup x ((if _ then (n, NameKind.cell) else (n, NameKind.free)) :: _) = _ ∨ List.lookup x ((if _ then (n, NameKind.cell) else (n, NameKind.free)) :: _) = _
      split
      · right; rw [List.lookup_cons, hx]
      · left; rw [List.lookup_cons, hx]
    · have hx : (x == n) = false := by simpa using hx
      rw [hx] at h
      show List.lookup x ((if _ then (n, NameKind.cell) else (n, k₀)) :: _) = _ ∨ List.lookup x ((if _ then (n, NameKind.cell) else (n, k₀)) :: _) = _
      split
      · rw [List.lookup_cons, hx]; exact ih h
      · rw [List.lookup_cons, hx]; exact ih h
theorem ScR.rel (scope sc : Scope) : ScR scope (relS scope sc) := ⟨rfl, fun x k hk h => lookup_relS_keep hk h, fun x h => rel_free h⟩
/-- the context of an expression -/
structure Ct (G : Glob) (N : List Str) (gc : Nat → W) (cf : Nat → List W → M W) (fa : Nat → Option Addr) (X : Cx) (sc : Scope) : Prop where
  eN : X.N = N
  eS : ScR sc X.env.scope
  nd : N.Nodup
  calm : X.calm = true
  lvl : ∃ l, Room (l + 2) X.A ∧ Tbl X.prog X.w X.K X.mg X.base fa l cf
  con : ∀ x g, G.con.lookup x = some g → ∃ u v, X.mg x = some u ∧ RelV v u ∧ ∀ H ι, RV X.w X.K fa H ι (gc g) v
  fns : ∀ x f, G.con.lookup x = none → G.fns.lookup x = some f → ∃ a, X.mg x = some (.ref a) ∧ fa f = some a
  blt : ∀ x ∈ bltNames, X.mg x = none
  fn : ∀ x, sc.names.lookup x = some .cell → X.fn x = true

section
variable {G : Glob} {N : List Str} {gc : Nat → W} {cf : Nat → List W → M W} {fa : Nat → Option Addr} {X : Cx} {sc : Scope}
theorem Ct.hu (c : Ct G N gc cf fa X sc) : X.A.units + 65 < cLine := by
  obtain ⟨l, r, _⟩ := c.lvl
  have := r.un; omega
theorem Ct.slot (c : Ct G N gc cf fa X sc) {x : Str} {i : Nat} (h : slotOf N x = some i) : X.N[i]? = some x := by
  unfold slotOf at h
  split at h
  · rename_i hm
    cases h
    rw [c.eN]
    rw [List.getElem?_eq_getElem (List.idxOf_lt_length_of_mem hm), List.getElem_idxOf]
  · cases h
theorem Ct.vis (c : Ct G N gc cf fa X sc) {x : Str} (h : isVis (sc.names.lookup x) = true) : Vis X.env.scope x := by
  unfold Vis
  cases e : sc.names.lookup x with
  | none => rw [e] at h; cases h
  | some k =>
    rw [e] at h
    cases k <;> first | (cases h; done) | skip
    · exact .inl (c.eS.keep x _ (by decide) e)
    · exact .inr (.inl (c.eS.keep x _ (by decide) e))
    · rcases c.eS.free x e with q | q
      · exact .inr (.inr q)
      · exact .inr (.inl q)
theorem Ct.own (c : Ct G N gc cf fa X sc) {x : Str} (h : isOwn (sc.names.lookup x) = true) : Loc X.env.scope x ∧ (X.fn x = true ∨ X.env.scope.names.lookup x = some .local) := by
  unfold L2.Loc
  cases e : sc.names.lookup x with
  | none => rw [e] at h; cases h
  | some k =>
    rw [e] at h
    cases k <;> first | (cases h; done) | skip
    · have := c.eS.keep x _ (by decide) e
      exact ⟨.inl this, .inr this⟩
    · exact ⟨.inr (c.eS.keep x _ (by decide) e), .inl (c.fn x e)⟩
theorem Ct.gl (c : Ct G N gc cf fa X sc) {x : Str} (h : sc.names.lookup x = some .globalImplicit) : Gl X x := by
  exact c.eS.keep x _ (by decide) h
theorem tp_debug {x : Str} (h : trPos x = true) : (x == ("__debug__" : Str)) = false ∧ (x == ("__classdict__" : Str)) = false := by
  unfold trPos at h
  rw [Bool.and_eq_true, Bool.not_eq_true', Bool.not_eq_true'] at h
  exact h
theorem Ct.bltn (c : Ct G N gc cf fa X sc) {x : Str} (h : isBlt G sc x = true) : Gl X x ∧ X.mg x = none ∧ (x == ("__debug__" : Str)) = false := by
  unfold isBlt at h
  simp only [Bool.and_eq_true] at h
  obtain ⟨⟨⟨⟨h1, h2⟩, h3⟩, _⟩, _⟩ := h
  exact ⟨c.gl (eq_of_beq h3), c.blt x (by simpa using h1), (tp_debug h2).1⟩
theorem Ct.blk (c : Ct G N gc cf fa X sc) (s : Shared) (H : Hp) (scope : Scope) (C : Addr) (cl : List (Str × Addr)) (fp : List Addr) : Ct G N gc cf fa (X.blk s H scope (compEnvC scope cl C X.env) fp) scope :=
  ⟨c.eN, ScR.rel scope X.env.scope, c.nd, c.calm, c.lvl, c.con, c.fns, c.blt, fun x h => by show (scope.names.lookup x == some .cell) = true; rw [h]; rfl⟩
theorem ct_ok (c : Ct G N gc cf fa X sc) {scope : Scope} (h : blkOk sc scope = true) : BlkOk X.N X.env.scope scope (ownOf N scope) := by
  unfold blkOk at h
  simp only [Bool.and_eq_true, List.all_eq_true] at h
  obtain ⟨⟨h1, h2⟩, h3⟩ := h
  rw [c.eN]
  refine ⟨eq_of_beq h1, fun y hy => eq_of_beq (h2 y hy), fun p hp => ?_, fun y hy e => ?_, fun y hy e => ?_⟩
  · unfold ownOf at hp
    obtain ⟨y, hy, e⟩ := List.mem_filterMap.mp hp
    split at e
    · rename_i hc
      cases e
      rw [Bool.and_eq_true] at hc
      have hm : y.1 ∈ N := by simpa using hc.2
      show N[N.idxOf y.1]? = some y.1
      rw [List.getElem?_eq_getElem (List.idxOf_lt_length_of_mem hm), List.getElem_idxOf]
    · cases e
  · have := h3 y hy
    rw [e] at this
    have this : sc.names.lookup y.1 = some .cell ∨ sc.names.lookup y.1 = some .free := by simpa using this
    rcases this with q | q
    · exact .inl (c.eS.keep _ _ (by decide) q)
    · rcases c.eS.free _ q with q | q
      · exact .inr q
      · exact .inl q
  · by_cases hm : y.1 ∈ N
    · left
      refine List.mem_map.mpr ⟨(y.1, N.idxOf y.1), List.mem_filterMap.mpr ⟨y, hy, ?_⟩, rfl⟩
      rw [if_pos]
      rw [Bool.and_eq_true]
      refine ⟨?_, by simpa using hm⟩
      rcases e with e | e <;> rw [e] <;> rfl
    · exact .inr hm

/-! ### the targets of loops -/
theorem p_sound : ∀ (n : Nat) {X : Cx} {sc : Scope} {e : Expr} {p : P}, Ct G N gc cf fa X sc → trP N n sc e = some p → PG X e (rP X.w X.K fa p) ∧ isStar e = false ∧ ∀ i ∈ p.slots, i ∈ (ownOf N sc).map (·.2)
  | 0, X, sc, e, p, c, h => by simp [trP] at h
  | n + 1, X, sc, e, p, c, h => by
    have ps : ∀ (m : Nat), m ≤ n → ∀ (es : List Expr) (p : P), trPs N m sc es = some p → PGs X es (rPs X.w X.K fa p) ∧ es.any isStar = false ∧ es.length = p.size ∧ ∀ i ∈ p.slots, i ∈ (ownOf N sc).map (·.2) := by
      intro m
      induction m with
      | zero =>
        intro _ es p h
        cases es with
        | nil => simp only [trPs] at h; cases h; exact ⟨ps_nil, rfl, rfl, fun i hi => (nomatch hi)⟩
        | cons e es => simp [trPs] at h
      | succ m ih =>
        intro hm es p h
        cases es with
        | nil => simp only [trPs] at h; cases h; exact ⟨ps_nil, rfl, rfl, fun i hi => (nomatch hi)⟩
        | cons e es =>
          simp only [trPs] at h
          split at h
          · rename_i p1 p2 h1 h2
            cases h
            obtain ⟨a1, a2, a3⟩ := p_sound m c h1
            obtain ⟨b1, b2, b3, b4⟩ := ih (by omega) es p2 h2
            refine ⟨ps_cons a2 a1 b1, by rw [List.any_cons, a2, b2]; rfl, by simp [P.size, b3], fun i hi => ?_⟩
            rcases List.mem_append.mp (show i ∈ p1.slots ++ p2.slots from hi) with hi | hi
            · exact a3 i hi
            · exact b4 i hi
          · cases h
    cases e with
    | Name x pos =>
      simp only [trP] at h
      split at h
      · rename_i ho
        obtain ⟨i, hi, rfl⟩ := Option.map_eq_some_iff.mp h
        obtain ⟨l1, l2⟩ := c.own ho
        refine ⟨p_nm (by rw [c.eN]; exact c.nd) (c.slot hi) l1 l2, rfl, fun j hj => ?_⟩
        rw [List.mem_singleton.mp (show j ∈ [i] from hj)]
        unfold slotOf at hi
        split at hi
        · rename_i hm
          cases hi
          cases e : sc.names.lookup x with
          | none => rw [e] at ho; cases ho
          | some k =>
            refine List.mem_map.mpr ⟨(x, N.idxOf x), List.mem_filterMap.mpr ⟨(x, k), PySem.mem_of_lookup e, ?_⟩, rfl⟩
            rw [e] at ho
            rw [if_pos]
            rw [Bool.and_eq_true]
            refine ⟨?_, by simpa using hm⟩
            cases k <;> first | (cases ho; done) | rfl
        · cases hi
      · cases h
    | Tuple es k pos =>
      simp only [trP] at h
      obtain ⟨q, hq, rfl⟩ := Option.map_eq_some_iff.mp h
      obtain ⟨b1, b2, b3, b4⟩ := ps n (Nat.le_refl _) es q hq
      exact ⟨p_tp c.calm b2 b3 b1, rfl, b4⟩
    | _ => simp [trP] at h
theorem p_tup : ∀ {n : Nat} {sc : Scope} {e : Expr} {p : P} {it : E}, trP N n sc e = some p → pairOk p it = true → pairIt it = true → isTupE e = true
  | 0, sc, e, p, it, h, _, _ => by simp [trP] at h
  | n + 1, sc, e, p, it, h, h1, h2 => by
    unfold pairOk at h1
    rw [h2] at h1
    cases e with
    | Name x pos =>
      simp only [trP] at h
      split at h
      · obtain ⟨i, _, rfl⟩ := Option.map_eq_some_iff.mp h
        cases h1
      · cases h
    | Tuple es k pos => rfl
    | _ => simp [trP] at h
end
end TZ

set_option Elab.async false
set_option linter.all false
set_option maxRecDepth 100000
set_option maxHeartbeats 4000000
/-! A18: every expression that tr takes is sound. -/
namespace TZ
open PySem L2 StX PyProof.Rows

section
variable {G : Glob} {N : List Str} {gc : Nat → W} {cf : Nat → List W → M W} {fa : Nat → Option Addr}
abbrev VE (gc : Nat → W) (cf : Nat → List W → M W) (fa : Nat → Option Addr) (X : Cx) (e : Expr) (e' : E) : Prop := PE X e (rV X.w X.K fa (den gc cf e').v)
abbrev VT (gc : Nat → W) (cf : Nat → List W → M W) (fa : Nat → Option Addr) (X : Cx) (e : Expr) (e' : E) : Prop := PT X e (rB X.w X.K fa fun ρ => truth ((den gc cf e').v ρ))
structure Sd (G : Glob) (N : List Str) (gc : Nat → W) (cf : Nat → List W → M W) (fa : Nat → Option Addr) (n : Nat) : Prop where
  e : ∀ {X : Cx} {sc : Scope} {e : Expr} {e' : E}, Ct G N gc cf fa X sc → trE G N n sc e = some e' → okE e' = true → VE gc cf fa X e e' ∧ VT gc cf fa X e e'
  a : ∀ {X : Cx} {sc : Scope} {es : List Expr} {e' : E}, Ct G N gc cf fa X sc → trEs G N n sc es = some e' → okE e' = true → PA X es (rA X.w X.K fa (den gc cf e').a)
  b : ∀ {X : Cx} {sc : Scope} {op : BoolOp} {es : List Expr} {e' : E} {pos : Pos}, Ct G N gc cf fa X sc → trB G N n sc op es = some e' → okE e' = true → VE gc cf fa X (.BoolOp op es pos) e' ∧ PW X (.BoolOp op es pos) (rB X.w X.K fa fun ρ => truth ((den gc cf e').v ρ))
  c : ∀ {X : Cx} {sc : Scope} {f : Str} {args : List Expr} {kws : List Keyword} {e' : E} {p pos : Pos}, Ct G N gc cf fa X sc → trC G N n sc f args kws = some e' → okE e' = true → VE gc cf fa X (.Call (.Name f p) args kws pos) e'
  d : ∀ {X : Cx} {sc : Scope} {ks : List (Option Expr)} {vs : List Expr} {e' : E}, Ct G N gc cf fa X sc → trD G N n sc ks vs = some e' → okE e' = true → allPairs e' 15 = true → PDp X fa gc cf ks vs e' ∧ ks.all (·.isSome) = true ∧ ks.length = vs.length ∧ (∀ m, allPairs e' m = true → ks.length ≤ m) ∧ (ks = [] → e' = .dnil)
  s1 : ∀ {X : Cx} {sc : Scope} {ks : List (Option Expr)} {vs : List Expr} {e' : E}, Ct G N gc cf fa X sc → trD G N n sc ks vs = some (.dstar e' .dnil) → okE e' = true → ∃ e, ks = [none] ∧ vs = [e] ∧ VE gc cf fa X e e'
  d2 : ∀ {X : Cx} {sc : Scope} {ks : List (Option Expr)} {vs : List Expr} {d : E} {pos : Pos}, Ct G N gc cf fa X sc → trD G N n sc ks vs = some d → okE d = true → disp2 d = true → VE gc cf fa X (.Dict ks vs pos) (.dct d)
  o : ∀ {X : Cx} {sc : Scope} {o : Option Expr} {e' : E}, Ct G N gc cf fa X sc → trO G N n sc o = some e' → okE e' = true → PO X o (rPO X.w X.K fa (den gc cf e').v)
  i : ∀ {X : Cx} {sc : Scope} {e tg : Expr} {e' : E}, Ct G N gc cf fa X sc → trI G N n sc e = some e' → okE e' = true → (pairIt e' = true → isTupE tg = true) → PI X tg e (rI X.w X.K fa (den gc cf e').it) ∧ ∀ env x, foldedSetIterable e env x = pure x
  f : ∀ {X : Cx} {sc : Scope} {ifs : List Expr} {e' : E}, Ct G N gc cf fa X sc → trIfs G N n sc ifs = some e' → okE e' = true → PTs X ifs (rB X.w X.K fa fun ρ => truth ((den gc cf e').v ρ))

theorem not_set {n : Nat} {sc : Scope} {e : Expr} {e' : E} (h : trE G N n sc e = some e') : (∀ op, behindInMarks op e = false) ∧ ∀ env x, foldedSetIterable e env x = pure x := by
  cases n with
  | zero => simp [trE] at h
  | succ n =>
    cases e with
    | Set es k p => simp [trE] at h
    | _ => exact ⟨fun op => rfl, fun env x => rfl⟩
theorem not_slice {n : Nat} {sc : Scope} {e : Expr} {e' : E} (h : trE G N n sc e = some e') : isSlice e = false ∧ isStar e = false := by
  cases n with
  | zero => simp [trE] at h
  | succ n =>
    cases e with
    | Slice a b c d => simp [trE] at h
    | Starred a b => simp [trE] at h
    | _ => exact ⟨rfl, rfl⟩
theorem o_cmp {X : Cx} (hu : X.A.units + 65 < cLine) {op : CmpOp} {o : Cop} (h : copOf op = some o) : OpR X (compareOp op) (rO2 X.w X.K fa (bV (wCmp o))) := by
  unfold copOf at h
  cases op <;> first | (simp only [reduceCtorEq] at h; done) | skip
  all_goals (injection h with h; subst h)
  · exact o_eq (by omega)
  · exact o_ne (by omega)
  · exact o_lt
  · exact o_le
  · exact o_gt
  · exact o_ge
  · exact o_in hu
  · exact o_ni hu
theorem o_bop {X : Cx} {op : Operator} {o : Bop} (h : bopOf op = some o) : OpR X (binaryOp op) (rO2 X.w X.K fa (wBin o)) := by
  unfold bopOf at h
  cases op <;> first | (simp only [reduceCtorEq] at h; done) | skip
  all_goals (injection h with h; subst h)
  · exact o_add
  · exact o_sub
  · exact o_mul
  · exact o_mod
  · exact o_pow
  · exact o_fdiv
theorem findB_mem {α : Type} {x : Str} {n : Nat} {b : α} : ∀ {l : List (Str × Nat × α)}, findB x n l = some b → (x, n, b) ∈ l
  | [], h => by cases h
  | (y, m, c) :: r, h => by
    unfold findB at h
    split at h
    · rename_i e
      cases h
      obtain ⟨rfl, rfl⟩ := e
      exact List.mem_cons_self
    · exact List.mem_cons_of_mem _ (findB_mem h)
theorem sl_body {X : Cx} {sc : Scope} {n : Nat} {x : Str} {e' : E} {pos : Pos} (c : Ct G N gc cf fa X sc) (h : trName G N sc x = some e') : VE gc cf fa X (.Name x pos) e' := by
  unfold trName at h
  split at h
  · rename_i hp
    obtain ⟨h1, h2⟩ := tp_debug hp
    split at h
    · rename_i hv
      obtain ⟨i, hi, rfl⟩ := Option.map_eq_some_iff.mp h
      exact ev_var (pe_var (c.slot hi) (c.vis hv) h1 h2)
    · split at h
      · rename_i hg
        split at h
        · rename_i g hc
          cases h
          obtain ⟨u, v, m1, m2, m3⟩ := c.con x g hc
          exact ev_glob (c.gl hg) m1 m2 h1 m3
        · rename_i hc
          obtain ⟨f, hf, rfl⟩ := Option.map_eq_some_iff.mp h
          obtain ⟨a, m1, m2⟩ := c.fns x f hc hf
          refine ev_glob (v := .ref a) (c.gl hg) m1 rfl h1 fun H ι => ?_
          simp only [RV]
          exact ⟨a, m2, rfl⟩
      · cases h
  · cases h

theorem allPairs_succ : ∀ (d : E) (n : Nat), allPairs d n = true → allPairs d (n + 1) = true
  | .dnil, n, h => rfl
  | .dpair k v ds, 0, h => by cases h
  | .dpair k v ds, n + 1, h => allPairs_succ ds n h
theorem allPairs_mono {k v d : E} (h : allPairs (.dpair k v d) 15 = true) : allPairs d 15 = true := allPairs_succ d 14 h
section
variable {n : Nat} (ih : Sd G N gc cf fa n)
include ih
theorem sd_a {X : Cx} {sc : Scope} {es : List Expr} {e' : E} (c : Ct G N gc cf fa X sc) (h : trEs G N (n + 1) sc es = some e') (hk : okE e' = true) : PA X es (rA X.w X.K fa (den gc cf e').a) := by
  cases es with
  | nil => simp only [trEs] at h; cases h; exact ev_nil
  | cons e es =>
    cases hs : isStar e with
    | true =>
      cases e with
      | Starred v p =>
        simp only [trEs] at h
        split at h
        · rename_i a b h1 h2
          cases h
          simp only [okE, Bool.and_eq_true] at hk
          exact ev_star rfl (ih.e c h1 hk.1).1 (ih.a c h2 hk.2)
        · cases h
      | _ => cases hs
    | false =>
      have h : (match trE G N n sc e, trEs G N n sc es with
        | some e', some es' => some (E.cons e' es')
        | _, _ => none) = some e' := by cases e <;> first | exact h | (cases hs; done)
      split at h
      · rename_i a b h1 h2
        cases h
        simp only [okE, Bool.and_eq_true] at hk
        exact ev_cons (ih.e c h1 hk.1).1 (ih.a c h2 hk.2) (star_no hs)
      · cases h
theorem sd_b {X : Cx} {sc : Scope} {op : BoolOp} {es : List Expr} {e' : E} {pos : Pos} (c : Ct G N gc cf fa X sc) (h : trB G N (n + 1) sc op es = some e') (hk : okE e' = true) :
    VE gc cf fa X (.BoolOp op es pos) e' ∧ PW X (.BoolOp op es pos) (rB X.w X.K fa fun ρ => truth ((den gc cf e').v ρ)) := by
  simp only [trB] at h
  split at h
  · cases h
  · obtain ⟨h1, h2⟩ := ih.e c h hk
    refine ⟨pe_one h1, ?_⟩
    cases op with
    | And => exact pw_and1 h2
    | Or => exact pw_or1 h2
  · split at h
    · rename_i a' b' h1 h2
      cases h
      simp only [okE, Bool.and_eq_true] at hk
      obtain ⟨p1, p2⟩ := ih.e c h1 hk.1
      obtain ⟨q1, q2⟩ := ih.b (pos := pos) c h2 hk.2
      exact ⟨ev_and p1 q1, tt_and p2 q2⟩
    · rename_i a' b' h1 h2
      cases h
      simp only [okE, Bool.and_eq_true] at hk
      obtain ⟨p1, p2⟩ := ih.e c h1 hk.1
      obtain ⟨q1, q2⟩ := ih.b (pos := pos) c h2 hk.2
      exact ⟨ev_or p1 q1, tt_or p2 q2⟩
    · cases h
theorem sd_o {X : Cx} {sc : Scope} {o : Option Expr} {e' : E} (c : Ct G N gc cf fa X sc) (h : trO G N (n + 1) sc o = some e') (hk : okE e' = true) : PO X o (rPO X.w X.K fa (den gc cf e').v) := by
  cases o with
  | none => simp only [trO] at h; cases h; exact po_non
  | some e => simp only [trO] at h; exact po_ev (ih.e c h hk).1
theorem sd_f {X : Cx} {sc : Scope} {ifs : List Expr} {e' : E} (c : Ct G N gc cf fa X sc) (h : trIfs G N (n + 1) sc ifs = some e') (hk : okE e' = true) : PTs X ifs (rB X.w X.K fa fun ρ => truth ((den gc cf e').v ρ)) := by
  cases ifs with
  | nil =>
    simp only [trIfs] at h
    cases h
    refine ⟨fun pins s σ H Q I ⟨ι, ρ, S, b, S', rs, rr, hm, q⟩ => pts_nil.run pins s σ H Q I ?_⟩
    have e : some (true, S) = some (b, S') := hm
    cases e
    exact q H ι (Ext.refl _ _) rs
  | cons a r =>
    cases r with
    | nil => simp only [trIfs] at h; exact pts_one (ih.e c h hk).2
    | cons b r => simp [trIfs] at h
theorem sd_d {X : Cx} {sc : Scope} {ks : List (Option Expr)} {vs : List Expr} {e' : E} (c : Ct G N gc cf fa X sc) (h : trD G N (n + 1) sc ks vs = some e') (hk : okE e' = true) (hap : allPairs e' 15 = true) :
    PDp X fa gc cf ks vs e' ∧ ks.all (·.isSome) = true ∧ ks.length = vs.length ∧ (∀ m, allPairs e' m = true → ks.length ≤ m) ∧ (ks = [] → e' = .dnil) := by
  cases ks with
  | nil =>
    cases vs with
    | nil => simp only [trD] at h; cases h; exact ⟨dp_nil, rfl, rfl, fun m _ => Nat.zero_le _, fun _ => rfl⟩
    | cons v vs => simp [trD] at h
  | cons k ks =>
    cases k with
    | none =>
      cases vs with
      | nil => simp [trD] at h
      | cons v vs =>
        simp only [trD] at h
        split at h
        · cases h; cases hap
        · cases h
    | some k =>
      cases vs with
      | nil => simp [trD] at h
      | cons v vs =>
        simp only [trD] at h
        split at h
        · rename_i k' v' d' h1 h2 h3
          cases h
          simp only [okE, Bool.and_eq_true] at hk
          obtain ⟨q1, q2, q3, q4, q5⟩ := ih.d c h3 hk.2 (allPairs_mono hap)
          refine ⟨dp_cons (ih.e c h1 hk.1.1).1 (ih.e c h2 hk.1.2).1 q1, by simp [q2], by simp [q3], fun m hm => ?_, fun e => by cases e⟩
          cases m with
          | zero => cases hm
          | succ m =>
            have := q4 m hm
            simp only [List.length_cons]; omega
        · cases h
theorem sd_i {X : Cx} {sc : Scope} {e tg : Expr} {e' : E} (c : Ct G N gc cf fa X sc) (h : trI G N (n + 1) sc e = some e') (hk : okE e' = true) (ht : pairIt e' = true → isTupE tg = true) : PI X tg e (rI X.w X.K fa (den gc cf e').it) ∧ ∀ env x, foldedSetIterable e env x = pure x := by
  have plain : ∀ {e0 : Expr}, (trE G N n sc e0).map E.iter = some e' → PI X tg e0 (rI X.w X.K fa (den gc cf e').it) ∧ ∀ env x, foldedSetIterable e0 env x = pure x := by
    intro e0 h
    obtain ⟨a, ha, rfl⟩ := Option.map_eq_some_iff.mp h
    exact ⟨i_iter (ih.e c ha hk).1, (not_set ha).2⟩
  unfold trI at h
  split at h
  · split at h
    · rename_i f p a pos hr
      obtain ⟨rfl, hb⟩ := hr
      obtain ⟨a', ha, rfl⟩ := Option.map_eq_some_iff.mp h
      obtain ⟨g1, g2, g3⟩ := c.bltn hb
      exact ⟨i_rng1 g1 g2 (not_slice ha).2 (ih.e c ha hk).1, fun env x => rfl⟩
    · split at h
      · rename_i f p a pos _ hr
        obtain ⟨rfl, hb⟩ := hr
        obtain ⟨a', ha, rfl⟩ := Option.map_eq_some_iff.mp h
        obtain ⟨g1, g2, g3⟩ := c.bltn hb
        have := ht rfl
        cases tg with
        | Tuple es k tp => exact ⟨i_enum g1 g2 (not_slice ha).2 (ih.e c ha hk).1, fun env x => rfl⟩
        | _ => cases this
      · exact plain h
  · split at h
    · rename_i f p a b pos hr
      obtain ⟨rfl, hb⟩ := hr
      split at h
      · rename_i a' b' ha hb'
        cases h
        simp only [okE, Bool.and_eq_true] at hk
        obtain ⟨g1, g2, g3⟩ := c.bltn hb
        exact ⟨i_rng2 g1 g2 (not_slice ha).2 (not_slice hb').2 (ih.e c ha hk.1).1 (ih.e c hb' hk.2).1, fun env x => rfl⟩
      · cases h
    · split at h
      · rename_i f p a b pos _ hr
        obtain ⟨rfl, hb⟩ := hr
        split at h
        · rename_i a' b' ha hb'
          cases h
          simp only [okE, Bool.and_eq_true] at hk
          obtain ⟨g1, g2, g3⟩ := c.bltn hb
          have := ht rfl
          cases tg with
          | Tuple es k tp => exact ⟨i_zip g1 g2 (not_slice ha).2 (not_slice hb').2 (ih.e c ha hk.1).1 (ih.e c hb' hk.2).1, fun env x => rfl⟩
          | _ => cases this
        · cases h
      · exact plain h
  · split at h
    · rename_i o m apos pos hr
      subst hr
      split at h
      · rename_i hc
        obtain ⟨a', ha, rfl⟩ := Option.map_eq_some_iff.mp h
        have := ht rfl
        cases tg with
        | Tuple es k tp => exact ⟨i_items (ih.e c ha hk).1 (base_plain hc.2) hc.1, fun env x => rfl⟩
        | _ => cases this
      · cases h
    · exact plain h
  · exact plain h
end
end
end TZ

set_option Elab.async false
set_option linter.all false
set_option maxRecDepth 100000
set_option maxHeartbeats 4000000
/-! A19: expressions, the rest. -/
namespace TZ
open PySem L2 StX PyProof.Rows

section
variable {G : Glob} {N : List Str} {gc : Nat → W} {cf : Nat → List W → M W} {fa : Nat → Option Addr}
theorem blt_rule {X : Cx} (hu : X.A.units + 65 < cLine) (hc : X.calm = true) {f : Str} {k : Nat} {b : Blt} (h : (f, k, b) ∈ bltOf) (hb : okB b = true) : f ≠ "__name__" ∧
    ((∃ id, bootBuiltins f = some (.builtin id) ∧ CallR X (.builtin id) (rCl X.w X.K fa (wBlt b))) ∨ ∃ id, bootBuiltins f = some (.type id) ∧ CallR X (.type id) (rCl X.w X.K fa (wBlt b))) := by
  unfold bltOf at h
  simp only [List.mem_cons, List.not_mem_nil, or_false, Prod.mk.injEq] at h
  rcases h with ⟨rfl, rfl, rfl⟩ | ⟨rfl, rfl, rfl⟩ | ⟨rfl, rfl, rfl⟩ | ⟨rfl, rfl, rfl⟩ | ⟨rfl, rfl, rfl⟩ | ⟨rfl, rfl, rfl⟩ | ⟨rfl, rfl, rfl⟩ | ⟨rfl, rfl, rfl⟩ | ⟨rfl, rfl, rfl⟩ | ⟨rfl, rfl, rfl⟩ | ⟨rfl, rfl, rfl⟩ | ⟨rfl, rfl, rfl⟩ | ⟨rfl, rfl, rfl⟩ <;>
    first | (cases hb; done) | refine ⟨by decide, ?_⟩
  · exact .inl ⟨_, by decide +kernel, b_len⟩
  · exact .inr ⟨_, by decide +kernel, b_list⟩
  · exact .inr ⟨_, by decide +kernel, b_tuple⟩
  · exact .inl ⟨_, by decide +kernel, b_sorted hu hc⟩
  · exact .inl ⟨_, by decide +kernel, b_all hc⟩
  · exact .inl ⟨_, by decide +kernel, b_any hc⟩
  · exact .inl ⟨_, by decide +kernel, b_max1 hc⟩
  · exact .inl ⟨_, by decide +kernel, b_max2 hc⟩
  · exact .inl ⟨_, by decide +kernel, b_min2 hc⟩
  · exact .inr ⟨_, by decide +kernel, b_int⟩
  · exact .inr ⟨_, by decide +kernel, b_bool⟩
theorem ev_b {X : Cx} {sc : Scope} {f : Str} {k : Nat} {b : Blt} {e : Expr} {es : List Expr} {es' : E} {p pos : Pos} (c : Ct G N gc cf fa X sc) (hf : isBlt G sc f = true) (h : findB f k bltOf = some b) (hb : okB b = true)
    (ha : PA X (e :: es) (rA X.w X.K fa (den gc cf es').a)) (hs : isStar e = false) (hst : es.any isStar = false) : VE gc cf fa X (.Call (.Name f p) (e :: es) [] pos) (.blt b es') := by
  obtain ⟨g1, g2, g3⟩ := c.bltn hf
  obtain ⟨h1, h2⟩ := blt_rule (fa := fa) c.hu c.calm (findB_mem h) hb
  rcases h2 with ⟨id, q1, q2⟩ | ⟨id, q1, q2⟩
  · exact ev_blt q2 g1 g2 q1 h1 g3 ha hs hst
  · exact ev_ty q2 g1 g2 q1 h1 g3 ha hs hst
variable {n : Nat} (ih : Sd G N gc cf fa n)
include ih
theorem pa_1 {X : Cx} {sc : Scope} {a : Expr} {a' : E} (c : Ct G N gc cf fa X sc) (h : trE G N n sc a = some a') (hk : okE a' = true) : PA X [a] (rA X.w X.K fa (den gc cf (.cons a' .nil)).a) :=
  ev_cons (ih.e c h hk).1 ev_nil (star_no (not_slice h).2)
theorem pa_2 {X : Cx} {sc : Scope} {a b : Expr} {a' b' : E} (c : Ct G N gc cf fa X sc) (h : trE G N n sc a = some a') (hk : okE a' = true) (h2 : trE G N n sc b = some b') (hk2 : okE b' = true) : PA X [a, b] (rA X.w X.K fa (den gc cf (.cons a' (.cons b' .nil))).a) :=
  ev_cons (ih.e c h hk).1 (pa_1 ih c h2 hk2) (star_no (not_slice h).2)
theorem ev_bl1 {X : Cx} {sc : Scope} {f : Str} {a : Expr} {e' : E} {p pos : Pos} (c : Ct G N gc cf fa X sc) (hf : isBlt G sc f = true) (h : (match findB f 1 bltOf, trE G N n sc a with
      | some b, some a' => some (E.blt b (.cons a' .nil))
      | _, _ => none) = some e') (hk : okE e' = true) : VE gc cf fa X (.Call (.Name f p) [a] [] pos) e' := by
  split at h
  · rename_i b a' h1 h2
    cases h
    simp only [okE, Bool.and_eq_true] at hk
    exact ev_b c hf h1 hk.1 (pa_1 ih c h2 hk.2.1) (not_slice h2).2 rfl
  · cases h
theorem sd_c {X : Cx} {sc : Scope} {f : Str} {args : List Expr} {kws : List Keyword} {e' : E} {p pos : Pos} (c : Ct G N gc cf fa X sc) (h : trC G N (n + 1) sc f args kws = some e') (hk : okE e' = true) : VE gc cf fa X (.Call (.Name f p) args kws pos) e' := by
  obtain ⟨l, hr2, T⟩ := c.lvl
  have hr := hr2.mono (Nat.le_add_right l 2)
  simp only [trC] at h
  split at h
  · rename_i hv
    split at h
    · rename_i i es' hp hi hes
      cases h
      obtain ⟨h1, h2⟩ := tp_debug hp
      obtain ⟨v1, v2, v3⟩ := hv
      cases args with
      | nil => cases v2
      | cons a r =>
        rw [List.any_cons, Bool.or_eq_false_iff] at v3
        exact ev_callv T hr (ev_var (pe_var (c.slot hi) (c.vis v1) h1 h2)) (ih.a c hes hk) v3.1 v3.2
    · cases h
  · split at h
    · rename_i hf
      obtain ⟨w1, w2, w3⟩ := hf
      split at h
      · rename_i i v q hp hg hi _
        obtain ⟨v', hv', rfl⟩ := Option.map_eq_some_iff.mp h
        obtain ⟨h1, h2⟩ := tp_debug hp
        obtain ⟨a, m1, m2⟩ := c.fns f i (by simpa using w2) hi
        simp only [okE, Bool.and_eq_true] at hk
        exact ev_callS T m2 hr (c.gl hg) m1 h1 (ih.e c hv' hk.1).1
      · rename_i args _ _ _ _ _ i hp hg hi hno _
        obtain ⟨es', hes, rfl⟩ := Option.map_eq_some_iff.mp h
        obtain ⟨h1, h2⟩ := tp_debug hp
        obtain ⟨a, m1, m2⟩ := c.fns f i (by simpa using w2) hi
        have pa := ih.a c hes hk
        cases args with
        | nil =>
          have e0 : es' = .nil := by
            cases n with
            | zero => simpa [trEs] using hes.symm
            | succ n => simpa [trEs] using hes.symm
          subst e0
          exact ev_call0 T m2 hr (c.gl hg) m1 h1
        | cons x r =>
          cases hs : isStar x with
          | false => exact ev_call T m2 hr (c.gl hg) m1 h1 pa hs
          | true =>
            cases x with
            | Starred v q =>
              cases r with
              | nil => exact absurd rfl (hno v q)
              | cons y r => cases w3
            | _ => cases hs
      · cases h
    · split at h
      · rename_i hb
        split at h
        · split at h
          · split at h
            · obtain ⟨x', _, rfl⟩ := Option.map_eq_some_iff.mp h
              cases hk
            · split at h
              · obtain ⟨x', _, rfl⟩ := Option.map_eq_some_iff.mp h
                cases hk
              · exact ev_bl1 ih c hb h hk
          · exact ev_bl1 ih c hb h hk
        · rename_i a b _ _
          split at h
          · rename_i hi
            rw [hi] at hb ⊢
            obtain ⟨g1, g2, g3⟩ := c.bltn hb
            split at h
            · rename_i a' k h1 h2
              cases h
              have pa := (ih.e c h1 hk).1
              cases b with
              | Name x px =>
                simp only [trKinds] at h2
                split at h2
                · rename_i hx
                  obtain ⟨x1, x2, x3⟩ := c.bltn hx
                  exact ev_isi1 g1 g2 pa (not_slice h1).2 h2 x1 x2 x3
                · cases h2
              | Tuple es kk pt =>
                simp only [trKinds] at h2
                split at h2
                · rename_i hl
                  exact ev_isiT (fun x hx => c.bltn hx) g1 g2 pa (not_slice h1).2 h2 hl
                · cases h2
              | _ => simp [trKinds] at h2
            · cases h
          · split at h
            · rename_i b0 a' b' h1 h2 h3
              cases h
              simp only [okE, Bool.and_eq_true] at hk
              exact ev_b c hb h1 hk.1 (pa_2 ih c h2 hk.2.1 h3 hk.2.2.1) (not_slice h2).2 (by rw [List.any_cons, (not_slice h3).2]; rfl)
            · cases h
        · rename_i key g gp kp a hno1 hno2
          split at h
          · rename_i hsk
            obtain ⟨rfl, rfl⟩ := hsk
            obtain ⟨g1, g2, g3⟩ := c.bltn hb
            split at h
            · rename_i i a' h1 h2
              cases h
              unfold trName at h1
              split at h1
              · rename_i hp
                obtain ⟨d1, d2⟩ := tp_debug hp
                split at h1
                · obtain ⟨j, _, e1⟩ := Option.map_eq_some_iff.mp h1
                  cases e1
                · split at h1
                  · rename_i hgl
                    split at h1
                    · cases h1
                    · rename_i hcon
                      obtain ⟨f', hf', e1⟩ := Option.map_eq_some_iff.mp h1
                      cases e1
                      obtain ⟨ad, m1, m2⟩ := c.fns g i hcon hf'
                      exact ev_skey T m2 hr2 g1 g2 (c.gl hgl) m1 d1 (ih.e c h2 hk).1 (not_slice h2).2
                  · cases h1
              · cases h1
            · cases h
          · cases h
        · cases h
      · cases h
theorem ev_m {X : Cx} {sc : Scope} {o : Expr} {name : Str} {args : List Expr} {apos cpos : Pos} {m : Mth} {o' es' : E} (c : Ct G N gc cf fa X sc) (hm : findB name args.length mthOf = some m) (hk : okM m = true) (ho : VE gc cf fa X o o') (ha : PA X args (rA X.w X.K fa (den gc cf es').a)) (hnil : args = [] → es' = .nil)
    (hb : plainBase o = true) (hl : (apos.endLine == cpos.line) = true) (hs : args.any isStar = false) : VE gc cf fa X (.Call (.Attribute o name apos) args [] cpos) (.mth m o' es') := by
  have h := findB_mem hm
  have hu := c.hu
  have hbase : attributeBase o name X.env (eval o X.env) = eval o X.env := base_plain hb
  unfold mthOf at h
  simp only [List.mem_cons, List.not_mem_nil, or_false, Prod.mk.injEq] at h
  have cons1 : ∀ k, args.length = k + 1 → ∃ e es, args = e :: es ∧ isStar e = false ∧ es.any isStar = false := by
    intro k hk
    cases args with
    | nil => cases hk
    | cons e es =>
      rw [List.any_cons, Bool.or_eq_false_iff] at hs
      exact ⟨e, es, rfl, hs.1, hs.2⟩
  rcases h with ⟨rfl, hn, rfl⟩ | ⟨rfl, hn, rfl⟩ | ⟨rfl, hn, rfl⟩ | ⟨rfl, hn, rfl⟩ | ⟨rfl, hn, rfl⟩ | ⟨rfl, hn, rfl⟩ | ⟨rfl, hn, rfl⟩ | ⟨rfl, hn, rfl⟩ | ⟨rfl, hn, rfl⟩ <;> first | (cases hk; done) | skip
  · obtain ⟨e, es, rfl, s1, s2⟩ := cons1 0 hn
    exact ev_mth (m := .append) (g := mAppend) F.plainAttrs_list F.slot_list_append F.type_list_append m_append (fun pins s σ H x v I r t => tyV_is I r t) (recv_lst (.inl rfl)) ho ha hbase (by rw [hn]; decide) hl s1 s2
  · have e0 : args = [] := List.eq_nil_of_length_eq_zero hn
    have e1 := hnil e0
    subst e0; subst e1
    exact ev_mth0 (m := .pop0) (g := mPop0) F.plainAttrs_list F.slot_list_pop F.type_list_pop m_pop0 (recv_lst (.inr (.inl rfl))) ho hbase hl
  · obtain ⟨e, es, rfl, s1, s2⟩ := cons1 0 hn
    exact ev_mth (m := .pop1) (g := mPop1) F.plainAttrs_list F.slot_list_pop F.type_list_pop m_pop1 (fun pins s σ H x v I r t => tyV_is I r t) (recv_lst (.inr (.inr (.inl rfl)))) ho ha hbase (by rw [hn]; decide) hl s1 s2
  · obtain ⟨e, es, rfl, s1, s2⟩ := cons1 1 hn
    exact ev_mth (m := .insert) (g := mInsert) F.plainAttrs_list F.slot_list_insert F.type_list_insert m_insert (fun pins s σ H x v I r t => tyV_is I r t) (recv_lst (.inr (.inr (.inr rfl)))) ho ha hbase (by rw [hn]; decide) hl s1 s2
  · obtain ⟨e, es, rfl, s1, s2⟩ := cons1 0 hn
    exact ev_mth (m := .get1) (g := mGet1) F.plainAttrs_dict F.slot_dict_get F.type_dict_get (m_get1 hu) (fun pins s σ H x v I r t => isDct_is I r t) (recv_dct (.inl rfl)) ho ha hbase (by rw [hn]; decide) hl s1 s2
  · obtain ⟨e, es, rfl, s1, s2⟩ := cons1 1 hn
    exact ev_mth (m := .get2) (g := mGet2) F.plainAttrs_dict F.slot_dict_get F.type_dict_get (m_get2 hu) (fun pins s σ H x v I r t => isDct_is I r t) (recv_dct (.inr rfl)) ho ha hbase (by rw [hn]; decide) hl s1 s2
end
end TZ

set_option Elab.async false
set_option linter.all false
set_option maxRecDepth 100000
set_option maxHeartbeats 4000000
/-! A20: every expression. -/
namespace TZ
open PySem L2 StX PyProof.Rows

theorem p_slots {N : List Str} : ∀ (n : Nat) {sc : Scope} {e : Expr} {p : P}, trP N n sc e = some p → ∀ i ∈ p.slots, i ∈ (ownOf N sc).map (·.2)
  | 0, sc, e, p, h => by simp [trP] at h
  | n + 1, sc, e, p, h => by
    have ps : ∀ (m : Nat), m ≤ n → ∀ (es : List Expr) (p : P), trPs N m sc es = some p → ∀ i ∈ p.slots, i ∈ (ownOf N sc).map (·.2) := by
      intro m
      induction m with
      | zero =>
        intro _ es p h
        cases es with
        | nil => simp only [trPs] at h; cases h; exact fun i hi => (nomatch hi)
        | cons e es => simp [trPs] at h
      | succ m ih =>
        intro hm es p h
        cases es with
        | nil => simp only [trPs] at h; cases h; exact fun i hi => (nomatch hi)
        | cons e es =>
          simp only [trPs] at h
          split at h
          · rename_i p1 p2 h1 h2
            cases h
            intro i hi
            rcases List.mem_append.mp (show i ∈ p1.slots ++ p2.slots from hi) with hi | hi
            · exact p_slots m h1 i hi
            · exact ih (by omega) es p2 h2 i hi
          · cases h
    cases e with
    | Name x pos =>
      simp only [trP] at h
      split at h
      · rename_i ho
        obtain ⟨i, hi, rfl⟩ := Option.map_eq_some_iff.mp h
        intro j hj
        rw [List.mem_singleton.mp (show j ∈ [i] from hj)]
        unfold slotOf at hi
        split at hi
        · rename_i hm
          cases hi
          cases e : sc.names.lookup x with
          | none => rw [e] at ho; cases ho
          | some k =>
            refine List.mem_map.mpr ⟨(x, N.idxOf x), List.mem_filterMap.mpr ⟨(x, k), PySem.mem_of_lookup e, ?_⟩, rfl⟩
            rw [e] at ho
            rw [if_pos]
            rw [Bool.and_eq_true]
            refine ⟨?_, by simpa using hm⟩
            cases k <;> first | (cases ho; done) | rfl
        · cases hi
      · cases h
    | Tuple es k pos =>
      simp only [trP] at h
      obtain ⟨q, hq, rfl⟩ := Option.map_eq_some_iff.mp h
      exact ps n (Nat.le_refl _) es q hq
    | _ => simp [trP] at h
section
variable {G : Glob} {N : List Str} {gc : Nat → W} {cf : Nat → List W → M W} {fa : Nat → Option Addr}
theorem trI_set {n : Nat} {sc : Scope} {e : Expr} {e' : E} (h : trI G N n sc e = some e') (env : Env) (x : Value) : foldedSetIterable e env x = pure x := by
  cases n with
  | zero => simp [trI] at h
  | succ n =>
    cases e with
    | Set es k p =>
      simp only [trI] at h
      obtain ⟨a, ha, _⟩ := Option.map_eq_some_iff.mp h
      cases n <;> simp [trE] at ha
    | _ => rfl
/-- a value whose test is asked plainly -/
theorem both {X : Cx} {e : Expr} {e' : E} (h : VE gc cf fa X e e') (he : ∀ whole, isTrue e X.env whole = (do let v ← whole; standAt e.pos; holding [v] (truthy v))) : VE gc cf fa X e e' ∧ VT gc cf fa X e e' := ⟨h, tt_plain h he⟩
theorem ev_dct0 {X : Cx} {pos : Pos} : VE gc cf fa X (.Dict [] [] pos) (.dct .dnil) := by
  refine ⟨fun pins s σ H Q I ⟨ι, ρ, S, a, S', rs, rr, hm, q⟩ => ?_⟩
  have e : some (W.ref S.length, S ++ [Ob.dct [] []]) = some (a, S') := hm
  cases e
  have hD : H s.heap.objs.size = none := I.fresh
  have mk0 := Mkd.start (w := X.w) (K := X.K) (fa := fa) rs hD
  have I0 : Inv X pins σ (upd H s.heap.objs.size (dOb s.heap.objs.size [] 0)) { s with heap := s.heap.push { cls := .type "dict", data := .dict #[] } } :=
    I.laid (t' := s.toks) (fun b o e => Heap.get?_push_of_some _ e) (Nat.le_refl _) (dob_ok (beq_eq_false_iff_ne.mpr (Ne.symm (Nat.ne_of_lt I.big))) (Nat.zero_le _) (Heap.get?_push_size _ rfl) ⟨rfl, rfl, rfl⟩ rfl)
  exact wpAny_Dict_empty ⟨.ref s.heap.objs.size, _, I0, rfl, mk0.fin (Ext.refl _ _) hD rs q⟩
variable {n : Nat} (ih : Sd G N gc cf fa n)
include ih
/-- what a list comprehension's parts are -/
structure LcP (G : Glob) (N : List Str) (gc : Nat → W) (cf : Nat → List W → M W) (fa : Nat → Option Addr) (X : Cx) (sc scope : Scope) (elt tg iter : Expr) (ifs : List Expr) (t : P) (it cc e' : E) : Prop where
  i : PI X tg iter (rI X.w X.K fa (den gc cf it).it)
  s : ∀ x, foldedSetIterable iter X.env x = pure x
  sub : ∀ i ∈ t.slots, i ∈ (ownOf N scope).map (·.2)
  ok : BlkOk X.N X.env.scope scope (ownOf N scope)
  g : ∀ (s : Shared) (H : Hp) (C : Addr) (cl : List (Str × Addr)) (fp : List Addr), PG (X.blk s H scope (compEnvC scope cl C X.env) fp) tg (rP X.w X.K fa t)
  t : ∀ (s : Shared) (H : Hp) (C : Addr) (cl : List (Str × Addr)) (fp : List Addr), PTs (X.blk s H scope (compEnvC scope cl C X.env) fp) ifs (rB X.w X.K fa fun ρ => truth ((den gc cf cc).v ρ))
  e : ∀ (s : Shared) (H : Hp) (C : Addr) (cl : List (Str × Addr)) (fp : List Addr), PE (X.blk s H scope (compEnvC scope cl C X.env) fp) elt (rV X.w X.K fa (den gc cf e').v)
theorem lcP {X : Cx} {sc scope : Scope} {elt tg iter : Expr} {ifs : List Expr} {t : P} {it cc e' : E} (c : Ct G N gc cf fa X sc) (hb : blkOk sc scope = true) (h1 : trP N n scope tg = some t) (h2 : trI G N n sc iter = some it) (h3 : trIfs G N n scope ifs = some cc) (h4 : trE G N n scope elt = some e')
    (k2 : okE it = true) (k3 : okE cc = true) (k4 : okE e' = true) (k5 : pairOk t it = true) : LcP G N gc cf fa X sc scope elt tg iter ifs t it cc e' := by
  obtain ⟨i1, i2⟩ := ih.i (tg := tg) c h2 k2 (p_tup h1 k5)
  exact ⟨i1, fun x => i2 _ x, p_slots n h1, ct_ok c hb, fun s H C cl fp => (p_sound n (c.blk s H scope C cl fp) h1).1, fun s H C cl fp => ih.f (c.blk s H scope C cl fp) h3 k3, fun s H C cl fp => (ih.e (c.blk s H scope C cl fp) h4 k4).1⟩
theorem sd_cmp {X : Cx} {sc : Scope} {a : Expr} {ops : List CmpOp} {cs : List Expr} {pos : Pos} {e' : E} (c : Ct G N gc cf fa X sc) (h : trE G N (n + 1) sc (.Compare a ops cs pos) = some e') (hk : okE e' = true) : VE gc cf fa X (.Compare a ops cs pos) e' ∧ VT gc cf fa X (.Compare a ops cs pos) e' := by
  have hu := c.hu
  have one : ∀ {o : CmpOp} {b : Expr}, (match copOf o, trE G N n sc a, trE G N n sc b with
      | some o', some a', some b' => some (E.cmp o' a' b')
      | _, _, _ => none) = some e' → VE gc cf fa X (.Compare a [o] [b] pos) e' ∧ VT gc cf fa X (.Compare a [o] [b] pos) e' := by
    intro o b h
    split at h
    · rename_i o' a' b' h1 h2 h3
      cases h
      simp only [okE, Bool.and_eq_true] at hk
      exact ⟨ev_cmp (o_cmp hu h1) (ih.e c h2 hk.1).1 (ih.e c h3 hk.2).1 ((not_set h3).1 o), tt_cmp1 (o_cmp hu h1) (ih.e c h2 hk.1).1 (ih.e c h3 hk.2).1 ((not_set h3).1 o)⟩
    · cases h
  simp only [trE] at h
  split at h <;> try contradiction
  · rename_i heq
    cases heq
    obtain ⟨a', ha, rfl⟩ := Option.map_eq_some_iff.mp h
    have p := (ih.e c ha hk).1
    exact ⟨ev_isn p, tB_rV (pt_cmp (pc_isN p) (by rfl)) fun σ H Q q => by
      obtain ⟨ι, ρ, S, b, S', rs, rr, hm, q⟩ := q
      obtain ⟨x, S1, h1, hm1⟩ := bindM hm
      obtain ⟨rfl, rfl⟩ := retM hm1
      refine ⟨ι, ρ, S, x, _, rs, rr, h1, fun v H1 ι1 x1 rs1 rv1 => ?_⟩
      show Q (.bl (decide (v = .non))) H1
      rw [non_iff rv1]; exact (q.mono x1).here rs1 bl_to⟩
  · rename_i heq
    cases heq
    obtain ⟨a', ha, rfl⟩ := Option.map_eq_some_iff.mp h
    have p := (ih.e c ha hk).1
    exact ⟨ev_notn p, tB_rV (pt_cmp (pc_notN p) (by rfl)) fun σ H Q q => by
      obtain ⟨ι, ρ, S, b, S', rs, rr, hm, q⟩ := q
      obtain ⟨x, S1, h1, hm1⟩ := bindM hm
      obtain ⟨rfl, rfl⟩ := retM hm1
      refine ⟨ι, ρ, S, x, _, rs, rr, h1, fun v H1 ι1 x1 rs1 rv1 => ?_⟩
      show Q (.bl (!decide (v = .non))) H1
      rw [non_iff rv1]; exact (q.mono x1).here rs1 bl_to⟩
  · rename_i heq
    cases heq
    obtain ⟨a', ha, rfl⟩ := Option.map_eq_some_iff.mp h
    have p := (ih.e c ha hk).1
    exact ⟨ev_isb p, tt_isb p⟩
  · rename_i heq
    cases heq
    exact one h
  · rename_i heq
    cases heq
    split at h
    · rename_i o' p' a' b' c' h1 h2 h3 h4 h5
      cases h
      simp only [okE, Bool.and_eq_true] at hk
      have q1 := (ih.e c h3 hk.1.1).1
      have q2 := (ih.e c h4 hk.1.2).1
      have q3 := (ih.e c h5 hk.2).1
      have hl : ∀ (o o2 : CmpOp) (x y : Expr), behindInMarks o2 y = false → lastMarks [o, o2] [x, y] = false := fun o o2 x y hy => hy
      exact ⟨PEimp (pe_chain (o_cmp hu h1) (o_cmp hu h2) q1 q2 q3 (hl _ _ _ _ ((not_set h5).1 _))) fun σ H Q q => rV_chain σ H Q q,
        tt_cmp (r := rO2 X.w X.K fa (bV (wCmp p'))) (pt_chain (o_cmp hu h1) (o_cmp hu h2) q1 q2 q3 (hl _ _ _ _ ((not_set h5).1 _))) fun σ H Q q => rV_chain σ H Q q⟩
    · cases h
theorem sd_sub {X : Cx} {sc : Scope} {a i : Expr} {pos : Pos} {e' : E} (c : Ct G N gc cf fa X sc) (h : trE G N (n + 1) sc (.Subscript a i pos) = some e') (hk : okE e' = true) : VE gc cf fa X (.Subscript a i pos) e' := by
  simp only [trE] at h
  split at h <;> try contradiction
  · rename_i heq
    cases heq
    obtain ⟨a', ha, rfl⟩ := Option.map_eq_some_iff.mp h
    exact ev_rev (ih.e c ha hk).1
  · rename_i heq
    cases heq
    split at h
    · rename_i a' l' h' h1 h2 h3
      cases h
      simp only [okE, Bool.and_eq_true] at hk
      exact ev_slc (ih.e c h1 hk.1.1).1 (ih.o c h2 hk.1.2) (ih.o c h3 hk.2)
    · cases h
  · rename_i heq
    cases heq
    split at h
    · rename_i a' i' h1 h2
      cases h
      simp only [okE, Bool.and_eq_true] at hk
      exact ev_ix (i_ix c.hu) (ih.e c h1 hk.1).1 (ih.e c h2 hk.2).1 (not_slice h2).1
    · cases h
theorem sd_call {X : Cx} {sc : Scope} {f : Expr} {args : List Expr} {kws : List Keyword} {pos : Pos} {e' : E} (c : Ct G N gc cf fa X sc) (h : trE G N (n + 1) sc (.Call f args kws pos) = some e') (hk : okE e' = true) : VE gc cf fa X (.Call f args kws pos) e' := by
  cases f with
  | Name x p =>
    simp only [trE] at h
    exact ih.c c h hk
  | Attribute o m apos =>
    cases kws with
    | nil =>
      simp only [trE] at h
      split at h
      · rename_i hc
        obtain ⟨w1, w2, w3⟩ := hc
        split at h
        · rename_i m' o' es' h1 h2 h3
          cases h
          simp only [okE, Bool.and_eq_true] at hk
          refine ev_m ih c h1 hk.1.1 (ih.e c h2 hk.1.2).1 (ih.a c h3 hk.2) (fun e0 => ?_) w3 w1 w2
          subst e0
          cases n with
          | zero => simpa [trEs] using h3.symm
          | succ n => simpa [trEs] using h3.symm
        · cases h
      · cases h
    | cons k ks => simp [trE] at h
  | _ => simp [trE] at h
theorem sd_dc {X : Cx} {sc scope : Scope} {k v : Expr} {gens : List Comprehension} {pos : Pos} {e' : E} (c : Ct G N gc cf fa X sc) (h : trE G N (n + 1) sc (.DictComp k v gens scope pos) = some e') (hk : okE e' = true) : VE gc cf fa X (.DictComp k v gens scope pos) e' := by
  simp only [trE] at h
  split at h <;> try contradiction
  rename_i heq
  cases heq
  split at h
  · rename_i hb
    split at h
    · rename_i t it cc k' v' h1 h2 h3 h4 h5
      cases h
      simp only [okE, Bool.and_eq_true] at hk
      obtain ⟨⟨⟨⟨k1, k2⟩, k3⟩, k4⟩, k5⟩ := hk
      have p := lcP ih c hb h1 h2 h3 h4 k1 k2 k3 k5
      have p2 := lcP ih c hb h1 h2 h3 h5 k1 k2 k4 k5
      exact ev_dc c.hu c.calm (by rw [c.eN]; exact c.nd) p.i p.ok p.sub p.s p.g p.t p.e p2.e
    · cases h
  · cases h
theorem trD_nil : ∀ {n : Nat} {sc : Scope} {ks : List (Option Expr)} {vs : List Expr}, trD G N n sc ks vs = some .dnil → ks = [] ∧ vs = []
  | 0, sc, ks, vs, h => by
    cases ks <;> cases vs <;> simp [trD] at h
    exact ⟨rfl, rfl⟩
  | n + 1, sc, [], [], h => ⟨rfl, rfl⟩
  | n + 1, sc, [], v :: vs, h => by simp [trD] at h
  | n + 1, sc, k :: ks, [], h => by cases k <;> simp [trD] at h
  | n + 1, sc, some k :: ks, v :: vs, h => by
    simp only [trD] at h
    split at h <;> cases h
  | n + 1, sc, none :: ks, v :: vs, h => by
    simp only [trD] at h
    split at h <;> cases h
theorem sd_s1 {X : Cx} {sc : Scope} {ks : List (Option Expr)} {vs : List Expr} {e' : E} (c : Ct G N gc cf fa X sc) (h : trD G N (n + 1) sc ks vs = some (.dstar e' .dnil)) (hk : okE e' = true) : ∃ e, ks = [none] ∧ vs = [e] ∧ VE gc cf fa X e e' := by
  cases ks with
  | nil => cases vs <;> simp [trD] at h
  | cons k0 ks =>
    cases vs with
    | nil => cases k0 <;> simp [trD] at h
    | cons v0 vs =>
      cases k0 with
      | some k0 =>
        simp only [trD] at h
        split at h <;> cases h
      | none =>
        simp only [trD] at h
        split at h
        · rename_i a' d' h3 h5
          cases h
          obtain ⟨rfl, rfl⟩ := trD_nil ih h5
          exact ⟨v0, rfl, rfl, (ih.e c h3 hk).1⟩
        · cases h
/-- the displays with stars -/
theorem sd_d2 {X : Cx} {sc : Scope} {ks : List (Option Expr)} {vs : List Expr} {pos : Pos} {d : E} (c : Ct G N gc cf fa X sc) (h : trD G N (n + 1) sc ks vs = some d) (hk : okE d = true) (h2 : disp2 d = true) : VE gc cf fa X (.Dict ks vs pos) (.dct d) := by
  have hu := c.hu
  cases ks with
  | nil =>
    cases vs <;> simp [trD] at h
    subst h; cases h2
  | cons k0 ks =>
    cases vs with
    | nil => cases k0 <;> simp [trD] at h
    | cons v0 vs =>
      cases k0 with
      | some k0 =>
        simp only [trD] at h
        split at h
        · rename_i k' v' d' h3 h4 h5
          cases h
          simp only [okE, Bool.and_eq_true] at hk
          unfold disp2 at h2
          split at h2
          · rename_i heq
            cases heq
            have k6 := hk.2
            simp only [okE, Bool.and_eq_true] at k6
            obtain ⟨e, rfl, rfl, h6⟩ := ih.s1 c h5 k6.1
            exact ev_dst1 hu (ih.e c h3 hk.1.1).1 (ih.e c h4 hk.1.2).1 h6
          · rename_i heq; cases heq
          · cases h2
        · cases h
      | none =>
        simp only [trD] at h
        split at h
        · rename_i a' d' h3 h5
          cases h
          simp only [okE, Bool.and_eq_true] at hk
          unfold disp2 at h2
          split at h2
          · rename_i heq; cases heq
          · rename_i heq
            cases heq
            have k6 := hk.2
            simp only [okE, Bool.and_eq_true] at k6
            obtain ⟨e, rfl, rfl, h6⟩ := ih.s1 c h5 k6.1
            exact ev_dst2 hu (ih.e c h3 hk.1).1 h6
          · cases h2
        · cases h
theorem sd_lc {X : Cx} {sc scope : Scope} {elt : Expr} {gens : List Comprehension} {pos : Pos} {e' : E} (c : Ct G N gc cf fa X sc) (h : trE G N (n + 1) sc (.ListComp elt gens scope pos) = some e') (hk : okE e' = true) : VE gc cf fa X (.ListComp elt gens scope pos) e' := by
  simp only [trE] at h
  split at h <;> try contradiction
  · rename_i heq
    cases heq
    split at h
    · rename_i hb
      split at h
      · rename_i t i cc e1 h1 h2 h3 h4
        cases h
        simp only [okE, Bool.and_eq_true] at hk
        have p := lcP ih c hb h1 h2 h3 h4 hk.1.1.1 hk.1.1.2 hk.1.2 hk.2
        exact PEimp (pe_lc c.calm (by rw [c.eN]; exact c.nd) p.i p.ok p.g p.t p.e p.s) fun σ H Q q => lc_read p.sub σ H Q q
      · cases h
    · cases h
  · rename_i heq
    cases heq
    split at h
    · rename_i hb
      split at h
      · rename_i t i cc t1 i1 cc1 e1 h1 h2 h3 h4 h5 h6 h7
        cases h
        simp only [okE, Bool.and_eq_true] at hk
        have p := lcP ih c hb h1 h2 h3 h7 hk.1.1.1.1.1.1 hk.1.1.1.1.1.2 hk.1.1.2 hk.1.2
        have s1 := p_slots n h4
        refine PEimp (pe_lc2 (vs1 := t1.slots) c.calm (by rw [c.eN]; exact c.nd) p.i p.ok s1 p.g p.t (fun s H C cl fp => (ih.i (c.blk s H _ C cl fp) h5 hk.1.1.1.1.2 (p_tup h4 hk.2)).1) (fun s H C cl fp => (p_sound n (c.blk s H _ C cl fp) h4).1) (fun s H C cl fp => ih.f (c.blk s H _ C cl fp) h6 hk.1.1.1.2) p.e p.s (fun env x => ?_)) fun σ H Q q => lc2_read p.sub (fun i hi => hi) σ H Q q
        exact trI_set h5 env x
      · cases h
    · cases h
theorem sd_e {X : Cx} {sc : Scope} {e : Expr} {e' : E} (c : Ct G N gc cf fa X sc) (h : trE G N (n + 1) sc e = some e') (hk : okE e' = true) : VE gc cf fa X e e' ∧ VT gc cf fa X e e' := by
  have hu := c.hu
  cases e with
  | Name x pos =>
    simp only [trE] at h
    exact both (sl_body (n := 0) c h) fun _ => rfl
  | Constant k j pos =>
    simp only [trE] at h
    split at h
    · cases h; exact both (ev_const pe_non fun H ι => rv_non.mpr rfl) fun _ => rfl
    · cases h; exact both (ev_const pe_bl fun H ι => rv_bl.mpr rfl) fun _ => rfl
    · cases h; exact both (ev_const pe_int fun H ι => rv_int.mpr rfl) fun _ => rfl
    · split at h
      · rename_i hl
        cases h
        exact both (ev_const pe_str fun H ι => rv_str.mpr ⟨rfl, hl⟩) fun _ => rfl
      · cases h
    · cases h
  | Tuple es j pos =>
    simp only [trE] at h
    obtain ⟨a, ha, rfl⟩ := Option.map_eq_some_iff.mp h
    exact both (ev_tup (ih.a c ha hk)) fun _ => rfl
  | List es pos =>
    simp only [trE] at h
    obtain ⟨a, ha, rfl⟩ := Option.map_eq_some_iff.mp h
    exact both (ev_lst (ih.a c ha hk)) fun _ => rfl
  | Dict ks vs pos =>
    simp only [trE] at h
    obtain ⟨d, hd, rfl⟩ := Option.map_eq_some_iff.mp h
    simp only [okE, Bool.and_eq_true] at hk
    refine both ?_ fun _ => rfl
    cases hap : allPairs d 15 with
    | false => exact ih.d2 c hd hk.1 (by rw [hap] at hk; simpa using hk.2)
    | true =>
    obtain ⟨q1, q2, q3, q4, q5⟩ := ih.d c hd hk.1 hap
    cases ks with
    | nil =>
      cases vs with
      | nil => rw [q5 rfl]; exact ev_dct0
      | cons v vs => cases q3
    | cons k ks => exact ev_dct hu q2 q3 (by simp) (q4 15 hap) hap q1
  | BoolOp op es pos =>
    simp only [trE] at h
    obtain ⟨p1, p2⟩ := ih.b (pos := pos) c h hk
    exact ⟨p1, p2.pt⟩
  | UnaryOp op a pos =>
    cases op with
    | Not =>
      simp only [trE] at h
      obtain ⟨a', ha, rfl⟩ := Option.map_eq_some_iff.mp h
      obtain ⟨p1, p2⟩ := ih.e c ha hk
      exact ⟨ev_not p1, tt_not p2⟩
    | USub =>
      cases a with
      | Constant k j p =>
        cases k with
        | int i => simp only [trE] at h; cases h; exact both ev_neg fun _ => rfl
        | _ => simp [trE] at h
      | _ => simp [trE] at h
    | _ => simp [trE] at h
  | IfExp t a b pos =>
    simp only [trE] at h
    split at h
    · rename_i c' a' b' h1 h2 h3
      cases h
      simp only [okE, Bool.and_eq_true] at hk
      obtain ⟨p1, p2⟩ := ih.e c h1 hk.1.1
      obtain ⟨q1, q2⟩ := ih.e c h2 hk.1.2
      obtain ⟨r1, r2⟩ := ih.e c h3 hk.2
      exact ⟨ev_ifx p2 q1 r1, tt_ifx p2 q2 r2⟩
    · cases h
  | Compare a ops cs pos => exact sd_cmp ih c h hk
  | BinOp a o b pos =>
    simp only [trE] at h
    split at h
    · rename_i o' a' b' h1 h2 h3
      cases h
      simp only [okE, Bool.and_eq_true] at hk
      exact both (ev_bin (o_bop h1) (ih.e c h2 hk.1).1 (ih.e c h3 hk.2).1) fun _ => rfl
    · cases h
  | Subscript a i pos => exact both (sd_sub ih c h hk) fun _ => rfl
  | Call f args kws pos => exact both (sd_call ih c h hk) fun _ => rfl
  | ListComp elt gens scope pos => exact both (sd_lc ih c h hk) fun _ => rfl
  | DictComp k v gens scope pos => exact both (sd_dc ih c h hk) fun _ => rfl
  | _ => simp [trE] at h
omit ih
theorem sd_zero : Sd G N gc cf fa 0 where
  e := fun c h _ => by simp [trE] at h
  a := fun {X sc es e'} c h hk => by
    cases es with
    | nil => simp only [trEs] at h; cases h; exact ev_nil
    | cons e es => simp [trEs] at h
  b := fun c h _ => by simp [trB] at h
  c := fun c h _ => by simp [trC] at h
  s1 := fun {X sc ks vs e'} c h hk => by
    cases ks with
    | nil => cases vs <;> simp [trD] at h
    | cons k ks => cases k <;> cases vs <;> simp [trD] at h
  d2 := fun {X sc ks vs d pos} c h hk h2 => by
    cases ks with
    | nil =>
      cases vs <;> simp [trD] at h
      subst h; cases h2
    | cons k ks => cases k <;> cases vs <;> simp [trD] at h
  d := fun {X sc ks vs e'} c h hk hap => by
    cases ks with
    | nil =>
      cases vs with
      | nil => simp only [trD] at h; cases h; exact ⟨dp_nil, rfl, rfl, fun m _ => Nat.zero_le _, fun _ => rfl⟩
      | cons v vs => simp [trD] at h
    | cons k ks => cases k <;> cases vs <;> simp [trD] at h
  o := fun {X sc o e'} c h hk => by
    cases o with
    | none => simp only [trO] at h; cases h; exact po_non
    | some e => simp [trO] at h
  i := fun c h _ => by simp [trI] at h
  f := fun {X sc ifs e'} c h hk => by
    cases ifs with
    | nil =>
      simp only [trIfs] at h
      cases h
      refine ⟨fun pins s σ H Q I ⟨ι, ρ, S, b, S', rs, rr, hm, q⟩ => pts_nil.run pins s σ H Q I ?_⟩
      have e : some (true, S) = some (b, S') := hm
      cases e
      exact q H ι (Ext.refl _ _) rs
    | cons a r => cases r <;> simp [trIfs] at h
theorem sd : ∀ n : Nat, Sd G N gc cf fa n
  | 0 => sd_zero
  | n + 1 =>
    have ih := sd n
    { e := fun c h hk => sd_e ih c h hk
      a := fun c h hk => sd_a ih c h hk
      b := fun c h hk => sd_b ih c h hk
      c := fun c h hk => sd_c ih c h hk
      d := fun c h hk hap => sd_d ih c h hk hap
      s1 := fun c h hk => sd_s1 ih c h hk
      d2 := fun c h hk h2 => sd_d2 ih c h hk h2
      o := fun c h hk => sd_o ih c h hk
      i := fun c h hk ht => sd_i ih c h hk ht
      f := fun c h hk => sd_f ih c h hk }
end
end TZ

set_option Elab.async false
set_option linter.all false
set_option maxRecDepth 100000
set_option maxHeartbeats 4000000
/-! A21: statements that tr takes are sound. -/
namespace TZ
open PySem L2 StX PyProof.Rows

/-! ### stores of several names -/
def tgF (env : Env) (l : Nat) : Expr → Option Str
  | .Name id pos => if (env.kindOf id == some NameKind.local && pos.line == l) = true then some id else none
  | _ => none
def tgNames (ts : List Expr) (env : Env) : List Str := ts.filterMap (tgF env ((ts.head?.map (·.pos.line)).getD 0))
theorem sw_tup {ts vs : List Expr} {k k2 : Nat} {p1 p2 : Pos} {env : Env} (hok : vs.all (constantsAlone 8) = true → vs.all (foldedForSure 8) = true) :
    swappedStores [.Tuple ts k p1] (.Tuple vs k2 p2) env = pure none ∨
    (swappedStores [.Tuple ts k p1] (.Tuple vs k2 p2) env = pure (some (tgNames ts env)) ∧ (ts.length = 2 ∨ ts.length = 3) ∧ vs.length = ts.length ∧ (tgNames ts env).length = ts.length ∧ (tgNames ts env).eraseDups.length = (tgNames ts env).length) := by
  unfold swappedStores
  dsimp only
  split
  · exact .inl rfl
  · rename_i h1
    split
    · exact .inl rfl
    · split
      · exact .inl rfl
      · rename_i h2 h3
        split
        · exact .inl rfl
        · rename_i h4
          split
          · rename_i h5
            exact absurd (hok h5) h4
          · right
            refine ⟨rfl, ?_, ?_, ?_, ?_⟩
            · simp only [Bool.or_eq_true, Bool.not_eq_true', bne_iff_ne, not_or, ne_eq, Decidable.not_not] at h1
              have := h1.1.1
              simp only [Bool.not_eq_false, Bool.or_eq_true, beq_iff_eq] at this
              exact this
            · simp only [Bool.or_eq_true, Bool.not_eq_true', bne_iff_ne, not_or, ne_eq, Decidable.not_not] at h1
              exact h1.1.2
            · simp only [Bool.or_eq_true, bne_iff_ne, not_or, ne_eq, Decidable.not_not] at h3
              exact h3.1
            · simp only [Bool.or_eq_true, bne_iff_ne, not_or, ne_eq, Decidable.not_not] at h3
              exact h3.2
theorem tg_one {t : Expr} {ts : List Expr} {env : Env} (l : Nat) (h : ((t :: ts).filterMap (tgF env l)).length = ts.length + 1) : ∃ x p, t = .Name x p ∧ env.kindOf x = some .local ∧ (t :: ts).filterMap (tgF env l) = x :: ts.filterMap (tgF env l) ∧ (ts.filterMap (tgF env l)).length = ts.length := by
  have hle := List.length_filterMap_le (tgF env l) ts
  cases e : tgF env l t with
  | none => rw [List.filterMap_cons_none e] at h; omega
  | some y =>
    rw [List.filterMap_cons_some e] at h ⊢
    cases t with
    | Name x p =>
      simp only [tgF] at e
      split at e
      · rename_i hc
        rw [Bool.and_eq_true] at hc
        have e2 : x = y := Option.some.inj e
        subst e2
        exact ⟨_, p, rfl, eq_of_beq hc.1, rfl, by simpa using h⟩
      · exact absurd e (by simp)
    | _ => simp [tgF] at e

/-! ### targets -/
def okT : T → Bool
  | .nm _ | .nil => true
  | .cons p ps => okT p && okT ps
  | .tp ps => okT ps
  | .sub o i => okE o && okE i
section
variable {G : Glob} {N : List Str} {gc : Nat → W} {cf : Nat → List W → M W} {fa : Nat → Option Addr}
theorem t_sound : ∀ (n : Nat) {X : Cx} {sc : Scope} {e : Expr} {p : T}, Ct G N gc cf fa X sc → trT G N n sc e = some p → okT p = true → PG X e (rT X.w X.K fa (T.put gc cf p)) ∧ isStar e = false
  | 0, X, sc, e, p, c, h, hk => by simp [trT] at h
  | n + 1, X, sc, e, p, c, h, hk => by
    have ps : ∀ (m : Nat), m ≤ n → ∀ (es : List Expr) (p : T), trTs G N m sc es = some p → okT p = true → PGs X es (rTs X.w X.K fa (T.puts gc cf p)) ∧ es.any isStar = false ∧ es.length = p.size := by
      intro m
      induction m with
      | zero =>
        intro _ es p h hk
        cases es with
        | nil => simp only [trTs] at h; cases h; exact ⟨ts_nil, rfl, rfl⟩
        | cons e es => simp [trTs] at h
      | succ m ih =>
        intro hm es p h hk
        cases es with
        | nil => simp only [trTs] at h; cases h; exact ⟨ts_nil, rfl, rfl⟩
        | cons e es =>
          simp only [trTs] at h
          split at h
          · rename_i p1 p2 h1 h2
            cases h
            simp only [okT, Bool.and_eq_true] at hk
            obtain ⟨a1, a2⟩ := t_sound m c h1 hk.1
            obtain ⟨b1, b2, b3⟩ := ih (by omega) es p2 h2 hk.2
            exact ⟨ts_cons a2 a1 b1, by rw [List.any_cons, a2, b2]; rfl, by simp [T.size, b3]⟩
          · cases h
    cases e with
    | Name x pos =>
      simp only [trT] at h
      split at h
      · rename_i ho
        obtain ⟨i, hi, rfl⟩ := Option.map_eq_some_iff.mp h
        obtain ⟨l1, l2⟩ := c.own ho
        exact ⟨t_nm (by rw [c.eN]; exact c.nd) (c.slot hi) l1 l2, rfl⟩
      · cases h
    | Tuple es k pos =>
      simp only [trT] at h
      obtain ⟨q, hq, rfl⟩ := Option.map_eq_some_iff.mp h
      obtain ⟨b1, b2, b3⟩ := ps n (Nat.le_refl _) es q hq hk
      exact ⟨t_tp c.calm b2 b3 b1, rfl⟩
    | Subscript o i pos =>
      simp only [trT] at h
      split at h
      · cases h
      · split at h
        · rename_i o' i' h1 h2
          cases h
          simp only [okT, Bool.and_eq_true] at hk
          exact ⟨t_sub c.hu (not_slice h2).1 ((sd n).e c h1 hk.1).1 ((sd n).e c h2 hk.2).1, rfl⟩
        · cases h
    | _ => simp [trT] at h

/-! ### statements -/
def okC : C → Bool
  | .skip | .brk | .cont => true
  | .seq a b => okC a && okC b
  | .expr e => okE e
  | .asg t e => okT t && okE e
  | .aug _ _ _ => false
  | .ite c a b => okE c && okC a && okC b
  | .whl c b => okE c && okC b
  | .for_ t it b => okE it && okC b && pairOk t it
  | .ret e => okE e
theorem sw_else {tg e : Expr} {env : Env} (h : tupOk tg e = true) (hn : ∀ ts vs k k2 p1 p2, tg = .Tuple ts k p1 → e = .Tuple vs k2 p2 → False) : swappedStores [tg] e env = pure none := by
  cases tg with
  | Tuple ts k p1 =>
    cases e with
    | Tuple vs k2 p2 => exact (hn _ _ _ _ _ _ rfl rfl).elim
    | _ => rfl
  | List ts p1 =>
    cases e <;> first | rfl | cases h
  | _ => rfl
end
end TZ

set_option Elab.async false
set_option linter.all false
set_option maxRecDepth 100000
set_option maxHeartbeats 4000000
/-! A22: every statement. -/
namespace TZ
open PySem L2 StX PyProof.Rows

section
variable {G : Glob} {N : List Str} {gc : Nat → W} {cf : Nat → List W → M W} {fa : Nat → Option Addr}
structure Cs (G : Glob) (N : List Str) (gc : Nat → W) (cf : Nat → List W → M W) (fa : Nat → Option Addr) (X : Cx) (sc : Scope) : Prop extends Ct G N gc cf fa X sc where
  hsc : X.env.scope = sc
  pass : PassesOwn (model X.prog X.w) X.A X.env X.xe
abbrev VS (gc : Nat → W) (cf : Nat → List W → M W) (fa : Nat → Option Addr) (X : Cx) (s : Stmt) (c : C) : Prop := PS X s (rC X.w X.K fa (run gc cf c))
theorem nodup_two {x y : Str} (h : [x, y].eraseDups.length = [x, y].length) : x ≠ y := by
  intro e
  subst e
  simp [List.eraseDups_cons] at h
theorem nodup_three {x y z : Str} (h : [x, y, z].eraseDups.length = [x, y, z].length) : x ≠ y ∧ x ≠ z ∧ y ≠ z := by
  refine ⟨fun e => ?_, fun e => ?_, fun e => ?_⟩
  · subst e
    by_cases hz : z = x
    · subst hz; simp [List.eraseDups_cons, List.filter_cons] at h
    · simp [List.eraseDups_cons, List.filter_cons, hz] at h
  · subst e
    by_cases hz : y = x
    · subst hz; simp [List.eraseDups_cons, List.filter_cons] at h
    · simp [List.eraseDups_cons, List.filter_cons, hz] at h
  · subst e
    by_cases hz : y = x
    · subst hz; simp [List.eraseDups_cons, List.filter_cons] at h
    · simp [List.eraseDups_cons, List.filter_cons, hz] at h
theorem slot_ne {X : Cx} {i j : Nat} {x y : Str} (hi : X.N[i]? = some x) (hj : X.N[j]? = some y) (h : x ≠ y) : i ≠ j := by
  intro e
  subst e
  rw [hi] at hj
  exact h (Option.some.inj hj)
/-- name = {k: v ..} on one line -/
theorem c_setDc {X : Cx} {sc : Scope} {n : Nat} {k v : Expr} {gens : List Comprehension} {scope : Scope} {pos spos py : Pos} {x : Str} {i : Nat} {e' : E} (c : Cs G N gc cf fa X sc) (hi : X.N[i]? = some x) (h : trE G N (n + 1) sc (.DictComp k v gens scope pos) = some e') (hk : okE e' = true)
    (hl : X.env.scope.names.lookup x = some .local) (hsw : swapsWith (.DictComp k v gens scope pos) (some (.Name x py)) spos.line X.env = pure true) : VS gc cf fa X (.Assign [.Name x py] (.DictComp k v gens scope pos) spos) (.asg (.nm i) e') := by
  have ih := sd (G := G) (N := N) (gc := gc) (cf := cf) (fa := fa) n
  have c0 := c.toCt
  simp only [trE] at h
  split at h <;> try contradiction
  rename_i heq
  cases heq
  split at h
  · rename_i hb
    split at h
    · rename_i t it cc k' v' h1 h2 h3 h4 h5
      cases h
      simp only [okE, Bool.and_eq_true] at hk
      obtain ⟨⟨⟨⟨k1, k2⟩, k3⟩, k4⟩, k5⟩ := hk
      have p := lcP ih c0 hb h1 h2 h3 h4 k1 k2 k3 k5
      have p2 := lcP ih c0 hb h1 h2 h3 h5 k1 k2 k4 k5
      exact PSimp (ps_setDc c0.hu c.calm (by rw [c.eN]; exact c.nd) hi hl hsw p.i p.ok p.sub p.s p.g p.t p.e p2.e) fun D σ H q => asg_name (fun σ H Q q => q) D σ H q
    · cases h
  · cases h
/-- name = [..] on one line -/
theorem c_setLc {X : Cx} {sc : Scope} {n : Nat} {elt : Expr} {gens : List Comprehension} {scope : Scope} {pos spos py : Pos} {x : Str} {i : Nat} {e' : E} (c : Cs G N gc cf fa X sc) (hi : X.N[i]? = some x) (h : trE G N (n + 1) sc (.ListComp elt gens scope pos) = some e') (hk : okE e' = true)
    (hl : X.env.scope.names.lookup x = some .local) (hsw : swapsWith (.ListComp elt gens scope pos) (some (.Name x py)) spos.line X.env = pure true) : VS gc cf fa X (.Assign [.Name x py] (.ListComp elt gens scope pos) spos) (.asg (.nm i) e') := by
  have ih := sd (G := G) (N := N) (gc := gc) (cf := cf) (fa := fa) n
  have c0 := c.toCt
  simp only [trE] at h
  split at h <;> try contradiction
  · rename_i heq
    cases heq
    split at h
    · rename_i hb
      split at h
      · rename_i t it cc e1 h1 h2 h3 h4
        cases h
        simp only [okE, Bool.and_eq_true] at hk
        have p := lcP ih c0 hb h1 h2 h3 h4 hk.1.1.1 hk.1.1.2 hk.1.2 hk.2
        exact PSimp (ps_setLc c.calm (by rw [c.eN]; exact c.nd) hi hl hsw p.i p.ok p.g p.t p.e p.s) fun D σ H q => asg_name (fun σ H Q q => lc_read p.sub σ H Q q) D σ H q
      · cases h
    · cases h
  · rename_i heq
    cases heq
    split at h
    · rename_i hb
      split at h
      · rename_i t it cc t1 i1 cc1 e1 h1 h2 h3 h4 h5 h6 h7
        cases h
        simp only [okE, Bool.and_eq_true] at hk
        have p := lcP ih c0 hb h1 h2 h3 h7 hk.1.1.1.1.1.1 hk.1.1.1.1.1.2 hk.1.1.2 hk.1.2
        have s1 := p_slots n h4
        exact PSimp (ps_setLc2 (vs1 := t1.slots) c.calm (by rw [c.eN]; exact c.nd) hi hl hsw p.i p.ok s1 p.g p.t (fun s H C cl fp => (ih.i (c0.blk s H _ C cl fp) h5 hk.1.1.1.1.2 (p_tup h4 hk.2)).1) (fun s H C cl fp => (p_sound n (c0.blk s H _ C cl fp) h4).1) (fun s H C cl fp => ih.f (c0.blk s H _ C cl fp) h6 hk.1.1.1.2) p.e p.s (fun env x => trI_set h5 env x)) fun D σ H q => asg_name (fun σ H Q q => lc2_read p.sub (fun i hi => hi) σ H Q q) D σ H q
      · cases h
    · cases h
theorem c_asgn {X : Cx} {sc : Scope} {n : Nat} {t e : Expr} {t' : T} {e' : E} {pos : Pos} (c : Cs G N gc cf fa X sc) (hok : tupOk t e = true) (h1 : trT G N n sc t = some t') (h2 : trE G N n sc e = some e') (k1 : okT t' = true) (k2 : okE e' = true) : VS gc cf fa X (.Assign [t] e pos) (.asg t' e') := by
  obtain ⟨g1, g2⟩ := t_sound n c.toCt h1 k1
  have ve := ((sd n).e c.toCt h2 k2).1
  -- the plain road
  have plain : swapsWithSole [t] e pos.line X.env = pure false → swappedStores [t] e X.env = pure none → VS gc cf fa X (.Assign [t] e pos) (.asg t' e') := fun a b => c_asg ve g1 g2 a b
  cases t with
  | Tuple ts k p1 =>
    have hf : swapsWithSole [.Tuple ts k p1] e pos.line X.env = pure false := by cases e <;> rfl
    cases e with
    | Tuple vs k2 p2 =>
      have hv : vs.all (constantsAlone 8) = true → vs.all (foldedForSure 8) = true := by
        intro hv
        have : (!vs.all (constantsAlone 8) || vs.all (foldedForSure 8)) = true := hok
        rw [hv] at this
        simpa using this
      rcases sw_tup (ts := ts) (k := k) (k2 := k2) (p1 := p1) (p2 := p2) (env := X.env) hv with hs | ⟨hs, hl, hvl, hn, hd⟩
      · exact plain hf hs
      · cases n with
        | zero => simp [trT] at h1
        | succ n =>
          simp only [trE] at h2
          obtain ⟨es', hes, rfl⟩ := Option.map_eq_some_iff.mp h2
          have pa := (sd n).a c.toCt hes k2
          simp only [trT] at h1
          obtain ⟨q, hq, rfl⟩ := Option.map_eq_some_iff.mp h1
          rcases hl with hl | hl
          · match ts, vs, hl, hvl, hn, hd, hs, hq, hes, pa with
            | [t1, t2], [v1, v2], _, _, hn, hd, hs, hq, hes, pa =>
              unfold tgNames at hn hd hs
              obtain ⟨x, px, rfl, kx, ex, lx⟩ := tg_one _ hn
              obtain ⟨y, py, rfl, ky, ey, ly⟩ := tg_one _ lx
              rw [ex, ey] at hd hs
              have hxy : x ≠ y := nodup_two hd
              cases n with
              | zero => simp [trTs] at hq
              | succ n =>
                simp only [trTs] at hq
                split at hq
                · rename_i q1 q2 a1 a2
                  cases hq
                  cases n with
                  | zero => simp [trT] at a1
                  | succ n =>
                    simp only [trT] at a1
                    split at a1
                    · obtain ⟨i, hi, rfl⟩ := Option.map_eq_some_iff.mp a1
                      simp only [trTs] at a2
                      split at a2
                      · rename_i q3 q4 b1 b2
                        cases a2
                        cases b2
                        cases n with
                        | zero => simp [trT] at b1
                        | succ n =>
                          simp only [trT] at b1
                          split at b1
                          · obtain ⟨j, hj, rfl⟩ := Option.map_eq_some_iff.mp b1
                            have si := c.toCt.slot hi
                            have sj := c.toCt.slot hj
                            exact PSimp (ps_par c.calm (by rw [c.eN]; exact c.nd) si sj (slot_ne si sj hxy) kx ky pa hs hf) fun D σ H q => par_read2 D σ H q
                          · cases b1
                      · cases a2
                    · cases a1
                · cases hq
          · match ts, vs, hl, hvl, hn, hd, hs, hq, hes, pa with
            | [t1, t2, t3], [v1, v2, v3], _, _, hn, hd, hs, hq, hes, pa =>
              unfold tgNames at hn hd hs
              obtain ⟨x, px, rfl, kx, ex, lx⟩ := tg_one _ hn
              obtain ⟨y, py, rfl, ky, ey, ly⟩ := tg_one _ lx
              obtain ⟨z, pz, rfl, kz, ez, lz⟩ := tg_one _ ly
              rw [ex, ey, ez] at hd hs
              obtain ⟨hxy, hxz, hyz⟩ := nodup_three hd
              cases n with
              | zero => simp [trTs] at hq
              | succ n =>
                simp only [trTs] at hq
                split at hq
                · rename_i q1 q2 a1 a2
                  cases hq
                  cases n with
                  | zero => simp [trT] at a1
                  | succ n =>
                    simp only [trT] at a1
                    split at a1
                    · obtain ⟨i, hi, rfl⟩ := Option.map_eq_some_iff.mp a1
                      simp only [trTs] at a2
                      split at a2
                      · rename_i q3 q4 b1 b2
                        cases a2
                        cases n with
                        | zero => simp [trT] at b1
                        | succ n =>
                          simp only [trT] at b1
                          split at b1
                          · obtain ⟨j, hj, rfl⟩ := Option.map_eq_some_iff.mp b1
                            simp only [trTs] at b2
                            split at b2
                            · rename_i q5 q6 d1 d2
                              cases b2
                              cases d2
                              cases n with
                              | zero => simp [trT] at d1
                              | succ n =>
                                simp only [trT] at d1
                                split at d1
                                · obtain ⟨k, hk, rfl⟩ := Option.map_eq_some_iff.mp d1
                                  have si := c.toCt.slot hi
                                  have sj := c.toCt.slot hj
                                  have sk := c.toCt.slot hk
                                  exact PSimp (ps_par3 c.calm (by rw [c.eN]; exact c.nd) si sj sk (slot_ne si sj hxy) (slot_ne si sk hxz) (slot_ne sj sk hyz) kx ky kz pa hs hf) fun D σ H q => par_read3 D σ H q
                                · cases d1
                            · cases b2
                          · cases b1
                      · cases a2
                    · cases a1
                · cases hq
    | _ => exact plain hf (sw_else hok fun _ _ _ _ _ _ _ e2 => by cases e2)
  | Name x p =>
    have hs : swappedStores [.Name x p] e X.env = pure none := sw_else hok fun _ _ _ _ _ _ e1 _ => by cases e1
    cases e with
    | ListComp elt gens scope lp =>
      obtain ⟨B, hB, hloc⟩ : ∃ B, swapsWith (.ListComp elt gens scope lp) (some (.Name x p)) pos.line X.env = pure B ∧ (B = true → X.env.kindOf x = some .local) :=
        ⟨_, rfl, fun h => by
          simp only [Bool.and_eq_true] at h
          exact eq_of_beq h.1.1.2⟩
      cases B with
      | false => exact plain hB hs
      | true =>
        cases n with
        | zero => simp [trT] at h1
        | succ n =>
          simp only [trT] at h1
          split at h1
          · obtain ⟨i, hi, rfl⟩ := Option.map_eq_some_iff.mp h1
            exact c_setLc c (c.toCt.slot hi) h2 k2 (hloc rfl) hB
          · cases h1
    | DictComp a b gens scope lp =>
      cases n with
      | zero => simp [trT] at h1
      | succ n =>
        obtain ⟨B, hB, hloc⟩ : ∃ B, swapsWith (.DictComp a b gens scope lp) (some (.Name x p)) pos.line X.env = pure B ∧ (B = true → X.env.kindOf x = some .local) :=
          ⟨_, rfl, fun h => by
            simp only [Bool.and_eq_true] at h
            exact eq_of_beq h.1.1.2⟩
        cases B with
        | false => exact plain hB hs
        | true =>
          simp only [trT] at h1
          split at h1
          · obtain ⟨i, hi, rfl⟩ := Option.map_eq_some_iff.mp h1
            exact c_setDc c (c.toCt.slot hi) h2 k2 (hloc rfl) hB
          · cases h1
    | SetComp a b scope lp => cases n <;> simp [trE] at h2
    | _ => exact plain rfl hs
  | Subscript o i p =>
    have hs : swappedStores [.Subscript o i p] e X.env = pure none := sw_else hok fun _ _ _ _ _ _ e1 _ => by cases e1
    exact plain (by cases e <;> rfl) hs
  | _ => cases n <;> simp [trT] at h1
structure Ss (G : Glob) (N : List Str) (gc : Nat → W) (cf : Nat → List W → M W) (fa : Nat → Option Addr) (n : Nat) : Prop where
  s : ∀ {X : Cx} {sc : Scope} {s : Stmt} {c' : C}, Cs G N gc cf fa X sc → trS G N n sc s = some c' → okC c' = true → VS gc cf fa X s c'
  ss : ∀ {X : Cx} {sc : Scope} {ss : List Stmt} {c' : C}, Cs G N gc cf fa X sc → trSs G N n sc ss = some c' → okC c' = true → PSs X ss (rC X.w X.K fa (run gc cf c'))
theorem ss_zero : Ss G N gc cf fa 0 where
  s := fun c h _ => by simp [trS] at h
  ss := fun {X sc ss c'} c h hk => by
    cases ss with
    | nil => simp only [trSs] at h; cases h; exact cs_nil
    | cons s r => simp [trSs] at h
theorem ss_all : ∀ n : Nat, Ss G N gc cf fa n
  | 0 => ss_zero
  | n + 1 => by
    have ih := ss_all n
    refine ⟨fun {X sc s c'} c h hk => ?_, fun {X sc ss c'} c h hk => ?_⟩
    · cases s with
      | Pass p => simp only [trS] at h; cases h; exact c_skip ps_pass
      | Break p => simp only [trS] at h; cases h; exact c_brk
      | Continue p => simp only [trS] at h; cases h; exact c_cont
      | Expr e p =>
        cases e with
        | Call f as ks q =>
          simp only [trS] at h
          obtain ⟨e', he, rfl⟩ := Option.map_eq_some_iff.mp h
          exact c_expr ((sd n).e c.toCt he hk).1 rfl
        | _ => simp [trS] at h
      | Return e p =>
        cases e with
        | none => simp only [trS] at h; cases h; exact c_retN
        | some e =>
          simp only [trS] at h
          obtain ⟨e', he, rfl⟩ := Option.map_eq_some_iff.mp h
          exact c_ret ((sd n).e c.toCt he hk).1
      | Assign ts e p =>
        cases ts with
        | nil => simp [trS] at h
        | cons t r =>
          cases r with
          | nil =>
            simp only [trS] at h
            split at h
            · rename_i hok
              split at h
              · rename_i t' e' h1 h2
                cases h
                simp only [okC, Bool.and_eq_true] at hk
                exact c_asgn c hok h1 h2 hk.1 hk.2
              · cases h
            · cases h
          | cons u r => simp [trS] at h
      | AugAssign t o e p =>
        cases t with
        | Name x q =>
          simp only [trS] at h
          split at h
          · split at h
            · cases h; cases hk
            · cases h
          · cases h
        | _ => simp [trS] at h
      | If t a b p =>
        simp only [trS] at h
        split at h
        · rename_i c1 a1 b1 h1 h2 h3
          cases h
          simp only [okC, Bool.and_eq_true] at hk
          exact c_ite ((sd n).e c.toCt h1 hk.1.1).2 (ih.ss c h2 hk.1.2) (ih.ss c h3 hk.2)
        · cases h
      | While t a r p =>
        cases r with
        | nil =>
          simp only [trS] at h
          split at h
          · rename_i c1 a1 h1 h2
            cases h
            simp only [okC, Bool.and_eq_true] at hk
            exact c_whl c.pass ((sd n).e c.toCt h1 hk.1).2 (ih.ss c h2 hk.2)
          · cases h
        | cons u r => simp [trS] at h
      | For t it b r p =>
        cases r with
        | nil =>
          simp only [trS] at h
          split at h
          · rename_i t1 i1 b1 h1 h2 h3
            cases h
            simp only [okC, Bool.and_eq_true] at hk
            obtain ⟨q1, q2⟩ := (sd n).i (tg := t) c.toCt h2 hk.1.1 (p_tup h1 hk.2)
            exact c_for c.pass c.calm q1 (p_sound n c.toCt h1).1 (ih.ss c h3 hk.1.2) fun x => q2 _ x
          · cases h
        | cons u r => simp [trS] at h
      | _ => simp [trS] at h
    · cases ss with
      | nil => simp only [trSs] at h; cases h; exact cs_nil
      | cons s r =>
        cases r with
        | nil =>
          simp only [trSs] at h
          exact PSsimp (pss_one (ih.s c h hk)) fun D σ H q => q
        | cons s2 r =>
          simp only [trSs] at h
          split at h
          · rename_i a b h1 h2
            cases h
            simp only [okC, Bool.and_eq_true] at hk
            exact c_seq (ih.s c h1 hk.1) (ih.ss c h2 hk.2)
          · cases h
end
end TZ

set_option Elab.async false
set_option linter.all false
set_option maxRecDepth 100000
set_option maxHeartbeats 4000000
/-! A23: what a call leaves; defs. -/
namespace TZ
open PySem L2 StX PyProof.Rows

/-! ### the store cut back -/
section
variable {w : World} {K : PySem.W.Frag} {fa : Nat → Option Addr} {H : Hp} {ι ι' : Pls}
mutual
theorem RV.lower {n₀ : Nat} {κ : List Addr} (e : ι'.pl = ι.pl ++ κ) (eh : ι'.hd = ι.hd) (hn : ι.pl.length = n₀) : ∀ (a : W) (v : V), a.under n₀ = true → RV w K fa H ι' a v → RV w K fa H ι a v
  | .non, v, _, h => by simpa only [RV] using h
  | .bl b, v, _, h => by simpa only [RV] using h
  | .int i, v, _, h => by simpa only [RV] using h
  | .str s, v, _, h => by simpa only [RV] using h
  | .fn f, v, _, h => by simpa only [RV] using h
  | .ref n, v, u, h => by
    simp only [RV] at h ⊢
    obtain ⟨a, h1, h2⟩ := h
    have hu : n < n₀ := of_decide_eq_true (by simpa only [W.under] using u)
    rw [e, List.getElem?_append_left (by omega)] at h1
    exact ⟨a, h1, h2⟩
  | .tup ws, v, u, h => by
    simp only [RV] at h ⊢
    simp only [W.under] at u
    obtain ⟨a, vs, h1, t, r⟩ := h
    refine ⟨a, vs, h1, ?_, RVs.lower e eh hn ws vs u r⟩
    rcases t with ⟨t, n⟩ | t
    · refine .inl ⟨t, ?_⟩
      rw [Pls.nmem, e, eh] at n
      exact Pls.nmem.mpr ⟨fun m => n.1 (List.mem_append_left _ m), n.2⟩
    · exact .inr t
  | .lst ws, v, u, h => by
    simp only [RV] at h ⊢
    simp only [W.under] at u
    obtain ⟨a, vs, h1, t, r⟩ := h
    refine ⟨a, vs, h1, ?_, RVs.lower e eh hn ws vs u r⟩
    rcases t with ⟨t, n⟩ | t
    · refine .inl ⟨t, ?_⟩
      rw [Pls.nmem, e, eh] at n
      exact Pls.nmem.mpr ⟨fun m => n.1 (List.mem_append_left _ m), n.2⟩
    · exact .inr t
  | .dct ks us, v, u, h => by
    simp only [RV] at h ⊢
    simp only [W.under, Bool.and_eq_true] at u
    obtain ⟨a, es, ep, kvs, uvs, h1, t, n, en, nd, r1, r2⟩ := h
    rw [Pls.nmem, e, eh] at n
    exact ⟨a, es, ep, kvs, uvs, h1, t, Pls.nmem.mpr ⟨fun m => n.1 (List.mem_append_left _ m), n.2⟩, en, nd, RVs.lower e eh hn ks kvs u.1 r1, RVs.lower e eh hn us uvs u.2 r2⟩
theorem RVs.lower {n₀ : Nat} {κ : List Addr} (e : ι'.pl = ι.pl ++ κ) (eh : ι'.hd = ι.hd) (hn : ι.pl.length = n₀) : ∀ (as : List W) (vs : List V), unders n₀ as = true → RVs w K fa H ι' as vs → RVs w K fa H ι as vs
  | [], vs, _, h => by simpa only [RVs] using h
  | a :: as, vs, u, h => by
    simp only [RVs] at h ⊢
    simp only [unders, Bool.and_eq_true] at u
    obtain ⟨v, vs', h1, r, rs⟩ := h
    exact ⟨v, vs', h1, RV.lower e eh hn a v u.1 r, RVs.lower e eh hn as vs' u.2 rs⟩
end
mutual
/-- freezing keeps what a key is -/
theorem nkey_mapR {g : Nat → Option W} (hg : ∀ r a, g r = some a → a.nkey = .none) : ∀ (a b : W), a.mapR g = some b → b.nkey = a.nkey
  | .non, b, h => by simp only [W.mapR] at h; cases h; rfl
  | .bl _, b, h => by simp only [W.mapR] at h; cases h; rfl
  | .int _, b, h => by simp only [W.mapR] at h; cases h; rfl
  | .str _, b, h => by simp only [W.mapR] at h; cases h; rfl
  | .fn _, b, h => by simp only [W.mapR] at h; cases h; rfl
  | .ref r, b, h => by simp only [W.mapR] at h; rw [hg r b h]; rfl
  | .tup ws, b, h => by
    simp only [W.mapR] at h
    obtain ⟨ws', e1, rfl⟩ := Option.map_eq_some_iff.mp h
    simp only [W.nkey]
    rw [nkeys_mapR hg ws ws' e1]
  | .lst ws, b, h => by
    simp only [W.mapR] at h
    obtain ⟨ws', e1, rfl⟩ := Option.map_eq_some_iff.mp h
    rfl
  | .dct ks us, b, h => by
    simp only [W.mapR] at h
    split at h
    · cases h; rfl
    · cases h
theorem nkeys_mapR {g : Nat → Option W} (hg : ∀ r a, g r = some a → a.nkey = .none) : ∀ (as bs : List W), mapRs g as = some bs → nkeys bs = nkeys as
  | [], bs, h => by simp only [mapRs] at h; cases h; rfl
  | a :: as, bs, h => by
    simp only [mapRs] at h
    split at h
    · rename_i a' as' h1 h2
      cases h
      simp only [nkeys]
      rw [nkey_mapR hg a a' h1, nkeys_mapR hg as as' h2]
    · cases h
end
theorem thaw_key {n₀ : Nat} {S : Sto} : ∀ (k r : Nat) (a : W), thaw n₀ S k r = some a → a.nkey = .none
  | 0, r, a, h => by
    simp only [thaw] at h
    split at h
    · cases h; rfl
    · cases h
  | k + 1, r, a, h => by
    simp only [thaw] at h
    split at h
    · cases h; rfl
    · split at h
      · obtain ⟨ws, _, rfl⟩ := Option.map_eq_some_iff.mp h; rfl
      · split at h
        · cases h; rfl
        · cases h
      · cases h
theorem map_nkey {g : Nat → Option W} (hg : ∀ r a, g r = some a → a.nkey = .none) : ∀ (as bs : List W), mapRs g as = some bs → bs.map W.nkey = as.map W.nkey
  | [], bs, h => by simp only [mapRs] at h; cases h; rfl
  | a :: as, bs, h => by
    simp only [mapRs] at h
    split at h
    · rename_i a' as' h1 h2
      cases h
      rw [List.map_cons, List.map_cons, nkey_mapR hg a a' h1, map_nkey hg as as' h2]
    · cases h
theorem ents_map {g : Nat → Option W} (hg : ∀ r a, g r = some a → a.nkey = .none) : ∀ {ks ks' : List W} {kvs uvs : List V} {es : List DictEntry}, Ents w ks kvs uvs es → mapRs g ks = some ks' → Ents w ks' kvs uvs es
  | _, _, _, _, _, .nil, h => by simp only [mapRs] at h; cases h; exact .nil
  | _, _, _, _, _, .cons (k := k) a b c t, h => by
    simp only [mapRs] at h
    split at h
    · rename_i k' ks' h1 h2
      cases h
      exact .cons (by rw [nkey_mapR hg k k' h1]; exact a) b c (ents_map hg t h2)
    · cases h
end
section
variable {w : World} {K : PySem.W.Frag} {fa : Nat → Option Addr} {H : Hp} {ι ι' : Pls}
mutual
theorem RV.fz {g : Nat → Option W} (hk : ∀ r a, g r = some a → a.nkey = .none) (hg : ∀ r a v, g r = some a → RV w K fa H ι' (.ref r) v → RV w K fa H ι a v) (hi : ∀ a, a ∉ ι' → a ∉ ι) : ∀ (a b : W) (v : V), a.mapR g = some b → RV w K fa H ι' a v → RV w K fa H ι b v
  | .non, b, v, e, h => by simp only [W.mapR] at e; cases e; simpa only [RV] using h
  | .bl _, b, v, e, h => by simp only [W.mapR] at e; cases e; simpa only [RV] using h
  | .int _, b, v, e, h => by simp only [W.mapR] at e; cases e; simpa only [RV] using h
  | .str _, b, v, e, h => by simp only [W.mapR] at e; cases e; simpa only [RV] using h
  | .fn _, b, v, e, h => by simp only [W.mapR] at e; cases e; simpa only [RV] using h
  | .ref r, b, v, e, h => by simp only [W.mapR] at e; exact hg r b v e h
  | .tup ws, b, v, e, h => by
    simp only [W.mapR] at e
    obtain ⟨ws', e1, rfl⟩ := Option.map_eq_some_iff.mp e
    simp only [RV] at h ⊢
    obtain ⟨a, vs, h1, t, r⟩ := h
    refine ⟨a, vs, h1, ?_, RVs.fz hk hg hi ws ws' vs e1 r⟩
    rcases t with ⟨t, n⟩ | t
    · exact .inl ⟨t, hi a n⟩
    · exact .inr t
  | .lst ws, b, v, e, h => by
    simp only [W.mapR] at e
    obtain ⟨ws', e1, rfl⟩ := Option.map_eq_some_iff.mp e
    simp only [RV] at h ⊢
    obtain ⟨a, vs, h1, t, r⟩ := h
    refine ⟨a, vs, h1, ?_, RVs.fz hk hg hi ws ws' vs e1 r⟩
    rcases t with ⟨t, n⟩ | t
    · exact .inl ⟨t, hi a n⟩
    · exact .inr t
  | .dct ks us, b, v, e, h => by
    simp only [W.mapR] at e
    split at e
    · rename_i ks' us' e1 e2
      cases e
      simp only [RV] at h ⊢
      obtain ⟨a, es, ep, kvs, uvs, h1, t, n, en, nd, r1, r2⟩ := h
      exact ⟨a, es, ep, kvs, uvs, h1, t, hi a n, ents_map hk en e1, by rw [map_nkey hk ks ks' e1]; exact nd, RVs.fz hk hg hi ks ks' kvs e1 r1, RVs.fz hk hg hi us us' uvs e2 r2⟩
    · cases e
theorem RVs.fz {g : Nat → Option W} (hk : ∀ r a, g r = some a → a.nkey = .none) (hg : ∀ r a v, g r = some a → RV w K fa H ι' (.ref r) v → RV w K fa H ι a v) (hi : ∀ a, a ∉ ι' → a ∉ ι) : ∀ (as bs : List W) (vs : List V), mapRs g as = some bs → RVs w K fa H ι' as vs → RVs w K fa H ι bs vs
  | [], bs, vs, e, h => by simp only [mapRs] at e; cases e; simpa only [RVs] using h
  | a :: as, bs, vs, e, h => by
    simp only [mapRs] at e
    split at e
    · rename_i a' as' e1 e2
      cases e
      simp only [RVs] at h ⊢
      obtain ⟨v, vs', h1, r, rs⟩ := h
      exact ⟨v, vs', h1, RV.fz hk hg hi a a' v e1 r, RVs.fz hk hg hi as as' vs' e2 rs⟩
    · cases e
end
theorem RV.thaw {S : Sto} {κ : List Addr} {n₀ : Nat} (rs : RS w K fa H ι' S) (e : ι'.pl = ι.pl ++ κ) (eh : ι'.hd = ι.hd) (hn : ι.pl.length = n₀) : ∀ (k r : Nat) (a : W) (v : V), thaw n₀ S k r = some a → RV w K fa H ι' (.ref r) v → RV w K fa H ι a v := by
  have hi : ∀ a, a ∉ ι' → a ∉ ι := fun a n => by
    rw [Pls.nmem, e, eh] at n
    exact Pls.nmem.mpr ⟨fun m => n.1 (List.mem_append_left _ m), n.2⟩
  have low : ∀ (r : Nat) (v : V), r < n₀ → RV w K fa H ι' (.ref r) v → RV w K fa H ι (.ref r) v := fun r v hr h => RV.lower e eh hn (.ref r) v (by simp only [W.under]; exact decide_eq_true hr) h
  have far : ∀ (r : Nat) (p : Addr), ¬ r < n₀ → ι'.pl[r]? = some p → p ∉ ι := by
    intro r p hr hp
    rw [Pls.nmem]
    refine ⟨fun m => ?_, fun m => rs.dj p (by rw [eh]; exact m) (List.mem_of_getElem? hp)⟩
    obtain ⟨j, hj⟩ := List.mem_iff_getElem?.mp m
    have hj2 : ι'.pl[j]? = some p := by
      rw [e, List.getElem?_append_left (List.getElem?_eq_some_iff.mp hj).1]; exact hj
    obtain ⟨l1, e1⟩ := List.getElem?_eq_some_iff.mp hp
    obtain ⟨l2, e2⟩ := List.getElem?_eq_some_iff.mp hj2
    have := (List.getElem_inj rs.nd).mp (e1.trans e2.symm)
    have l3 := (List.getElem?_eq_some_iff.mp hj).1
    omega
  intro k
  induction k with
  | zero =>
    intro r a v h hr
    simp only [TZ.thaw] at h
    split at h
    · rename_i hlt
      cases h
      exact low r v hlt hr
    · cases h
  | succ k ih =>
    intro r a v h hr
    simp only [TZ.thaw] at h
    split at h
    · rename_i hlt
      cases h
      exact low r v hlt hr
    · rename_i hlt
      obtain ⟨p, hp, rfl⟩ := rv_ref.mp hr
      split at h
      · rename_i ws hs
        obtain ⟨ws', e1, rfl⟩ := Option.map_eq_some_iff.mp h
        obtain ⟨vs, h1, h2⟩ := rs.ob r _ p hs hp
        simp only [RV]
        exact ⟨p, vs, rfl, .inl ⟨.inl h1, far r p hlt hp⟩, RVs.fz (fun r a => thaw_key k r a) ih hi ws ws' vs e1 h2⟩
      · rename_i ks us hs
        split at h
        · rename_i ks' us' e1 e2
          cases h
          obtain ⟨es, ep, kvs, uvs, h1, h2, h3, h4, h5⟩ := rs.ob r _ p hs hp
          simp only [RV]
          exact ⟨p, es, ep, kvs, uvs, rfl, h1, far r p hlt hp, ents_map (fun r a => thaw_key k r a) h2 e1, by rw [map_nkey (fun r a => thaw_key k r a) ks ks' e1]; exact h3, RVs.fz (fun r a => thaw_key k r a) ih hi ks ks' kvs e1 h4, RVs.fz (fun r a => thaw_key k r a) ih hi us us' uvs e2 h5⟩
        · cases h
      · cases h
/-- a call's end -/
theorem finish_ok {H0 : Hp} {S S1 S' : Sto} {keep : Bool} {a c : W} {v : V} (rs0 : RS w K fa H0 ι S) (x : Ext ι H0 ι' H) (rs : RS w K fa H ι' S1) (rv : RV w K fa H ι' a v) (h : finish keep S.length a S1 = some (c, S')) : ∃ ι2, Ext ι H0 ι2 H ∧ RS w K fa H ι2 S' ∧ RV w K fa H ι2 c v := by
  unfold finish at h
  split at h
  · cases h
    exact ⟨ι', x, rs, rv⟩
  · split at h
    · rename_i a' ha
      split at h
      · rename_i hc
        cases h
        obtain ⟨κ, e, hk⟩ := x.pre
        have hn : ι.pl.length = S.length := rs0.len
        have hi : ∀ b, b ∉ ι' → b ∉ ι := fun b n => by
          rw [Pls.nmem, e, x.hid] at n
          exact Pls.nmem.mpr ⟨fun m => n.1 (List.mem_append_left _ m), n.2⟩
        refine ⟨ι, ⟨⟨[], by simp, fun _ h => nomatch h⟩, rfl, x.keep, x.there, x.dk⟩, ?_, ?_⟩
        · have hle : S.length ≤ S1.length := by
            have h1 := rs.len
            rw [e, List.length_append] at h1
            omega
          refine ⟨by rw [List.length_take]; omega, rs0.nd, rs0.dj, fun b m => rs.hid b (by rw [x.hid]; exact m), fun n o b h1 h2 => ?_⟩
          have hn' : n < S.length := by rw [← hn]; exact (List.getElem?_eq_some_iff.mp h2).1
          rw [List.getElem?_take_of_lt hn'] at h1
          have ro := rs.ob n o b h1 (by rw [e, List.getElem?_append_left (by omega)]; exact h2)
          have ou : o.under S.length = true := List.all_eq_true.mp hc.2 o (List.mem_of_getElem? (by rw [List.getElem?_take_of_lt hn']; exact h1))
          cases o with
          | lst ws =>
            obtain ⟨vs, r1, r2⟩ := ro
            exact ⟨vs, r1, RVs.lower e x.hid hn ws vs ou r2⟩
          | dct ks us =>
            obtain ⟨es, ep, kvs, uvs, r1, r2, r3, r4, r5⟩ := ro
            have ou : (unders S.length ks && unders S.length us) = true := ou
            rw [Bool.and_eq_true] at ou
            exact ⟨es, ep, kvs, uvs, r1, r2, r3, RVs.lower e x.hid hn ks kvs ou.1 r4, RVs.lower e x.hid hn us uvs ou.2 r5⟩
        · exact RV.fz (fun r a => thaw_key 8 r a) (RV.thaw rs e x.hid hn 8) hi a c v ha rv
      · cases h
    · cases h
end
end TZ

set_option Elab.async false
set_option linter.all false
set_option maxRecDepth 100000
set_option maxHeartbeats 4000000
/-! A24: the defs of a text. -/
namespace TZ
open PySem L2 StX PyProof.Rows

/-- one def of the text: its name, its statement, its slots' names, its number, what tr makes of it -/
structure Fd where
  x : Str
  st : Stmt
  N : List Str
  f : Nat
  d : Def
def scB (N ps : List Str) (sc : Scope) : Bool :=
  sc.kind == .function && !sc.isCoroutine && !sc.isGenerator && decide N.Nodup && decide (N.take ps.length = ps) && ps.all (fun x => sc.names.lookup x == some .local || sc.names.lookup x == some .cell) && sc.names.all (fun y => y.2 != .free)
theorem sc_of {N ps : List Str} {sc : Scope} (h : scB N ps sc = true) : FnScope N ps sc := by
  unfold scB at h
  simp only [Bool.and_eq_true, Bool.not_eq_true', List.all_eq_true, Bool.or_eq_true, beq_iff_eq, bne_iff_ne, decide_eq_true_eq] at h
  obtain ⟨⟨⟨⟨⟨⟨h1, h2⟩, h3⟩, h4⟩, h5⟩, h6⟩, h7⟩ := h
  exact ⟨h1, h2, h3, h4, h5, h6, h7⟩
def fuelN : Nat := 60
/-- what is asked of one def, by computation -/
def Fd.ok (G : Glob) (e : Fd) : Bool := decide (trSs G e.N fuelN (defScope e.st) (defBody e.st) = some e.d.body) && okC e.d.body && scB e.N (e.N.take e.d.ps) (defScope e.st) && decide (e.d.slots = e.N.length) && (!e.d.rest || decide (1 ≤ e.d.ps)) && decide (e.d.ps ≤ e.N.length)
def tbOf (T : List Fd) (f : Nat) : Option Def := match T.find? fun e => e.f == f with
  | some e => some e.d
  | none => none
def faOf (K : PySem.W.Frag) (T : List Fd) (f : Nat) : Option Addr := match T.find? fun e => e.f == f with
  | some e => some (He.fAd K (e.x, none))
  | none => none
section
variable {P : Program} {w : World} {K : PySem.W.Frag} {mg : Str → Option Value} {base : Heap} {G : Glob} {gc : Nat → W} {T : List Fd}
/-- how a def binds that takes the rest -/
def RestB (fd : FuncData) (ps : List Str) (pv : Str) : Prop := ∀ us rest : List Value, us.length = ps.length → bindArgs fd ⟨us ++ rest, []⟩ = (newTuple rest >>= fun t => pure (ps.zip us ++ [(pv, t)]))
/-- the facts of the heap that the defs lean on -/
structure Facts (w : World) (K : PySem.W.Frag) (mg : Str → Option Value) (G : Glob) (gc : Nat → W) (T : List Fd) : Prop where
  def_ : ∀ e ∈ T, ∃ fd, FunD K e.x e.x (defArgs e.st) (defBody e.st) (defScope e.st) [] [] (He.fAd K (e.x, none)) fd ∧ (e.d.rest = false → Binds K fd (e.N.take e.d.ps) []) ∧ (e.d.rest = true → RestB fd (e.N.take (e.d.ps - 1)) (e.N.getD (e.d.ps - 1) Str.empty))
  ok : ∀ e ∈ T, e.ok G = true
  con : ∀ x g, G.con.lookup x = some g → ∃ u v, mg x = some u ∧ RelV v u ∧ ∀ H ι, RV w K (faOf K T) H ι (gc g) v
  fns : ∀ x f, G.con.lookup x = none → G.fns.lookup x = some f → ∃ a, mg x = some (.ref a) ∧ faOf K T f = some a
  blt : ∀ x ∈ bltNames, mg x = none
theorem rr_start {ι : Pls} {H : Hp} {as : List W} {vs : List V} {N : List Str} {d : Def} (h : RVs w K (faOf K T) H ι as vs) (hs : d.slots = N.length) (hl : as.length ≤ N.length) : RR w K (faOf K T) H ι (d.rho as) (L2.start N vs) := by
  have hlen := h.length
  refine ⟨?_, fun i x hx => ?_⟩
  · unfold Def.rho L2.start
    simp [hs, hlen]
  · unfold Def.rho at hx
    unfold L2.start
    by_cases hi : i < as.length
    · rw [List.getElem?_append_left (by simpa using hi), List.getElem?_map] at hx
      obtain ⟨a, ha, e⟩ := Option.map_eq_some_iff.mp hx
      cases e
      obtain ⟨v, hv, rv⟩ := h.get ha
      exact ⟨v, by rw [List.getElem?_append_left (by simp; omega), List.getElem?_map, hv]; rfl, rv⟩
    · rw [List.getElem?_append_right (by simpa using hi)] at hx
      have := List.mem_of_getElem? hx
      rw [List.mem_replicate] at this
      cases this.2
/-- a def's body, its arguments bound -/
theorem body_ok (F : Facts w K mg G gc T) {n : Nat} (ih : Tbl P w K mg base (faOf K T) (3 * n) (callF gc (tbOf T) n)) {e : Fd} (hm : e ∈ T) {cdv : Value} {A : Around} {outer : List Env} {s : Shared} {H : Hp} {vs : List V} {Q : VK} {E : XK} (hr : Room (3 * n + 2) (A.deeper (envOfC e.x (defScope e.st) s.heap.objs.size (He.fAd K (e.x, none)) cdv)))
    {ι : Pls} {S S' : Sto} {as : List W} {c : W} (rs : RS w K (faOf K T) H ι S) (ras : RVs w K (faOf K T) H ι as vs) (hl : as.length = e.d.ps)
    (hc : (match run gc (callF gc (tbOf T) n) e.d.body (e.d.rho as) S with
      | some (.ret w, _, S1) => finish e.d.keep S.length w S1
      | some (.nx, _, S1) => finish e.d.keep S.length .non S1
      | _ => none) = some (c, S')) (q : After w K (faOf K T) ι H c S' Q) :
    ∃ t, PSs (cxOf CX0 P w K mg base e.N e.x (defScope e.st) (He.fAd K (e.x, none)) cdv A outer s H E) (defBody e.st) t ∧ t { nx := fun _ H' => Q .non H', rt := Q } (start e.N vs) H := by
  have ok := F.ok e hm
  unfold Fd.ok at ok
  simp only [Bool.and_eq_true, decide_eq_true_eq] at ok
  obtain ⟨⟨⟨⟨⟨k1, k2⟩, k3⟩, k4⟩, k5⟩, k6⟩ := ok
  have Sc := sc_of k3
  have ct : Ct G e.N gc (callF gc (tbOf T) n) (faOf K T) (cxOf CX0 P w K mg base e.N e.x (defScope e.st) (He.fAd K (e.x, none)) cdv A outer s H E) (defScope e.st) :=
    ⟨rfl, ScR.refl _, Sc.nd, rfl, ⟨3 * n, hr, ih⟩, F.con, F.fns, F.blt, fun _ _ => rfl⟩
  have cs : Cs G e.N gc (callF gc (tbOf T) n) (faOf K T) (cxOf CX0 P w K mg base e.N e.x (defScope e.st) (He.fAd K (e.x, none)) cdv A outer s H E) (defScope e.st) :=
    ⟨ct, rfl, passes_of (K := fun e s'' => CX0 outer H s E e s'') rfl⟩
  refine ⟨_, (ss_all fuelN).ss cs k1 k2, ?_⟩
  have rr := rr_start (N := e.N) (d := e.d) ras k4 (by omega)
  split at hc
  · rename_i a0 ρ1 S1 hrun
    refine ⟨ι, e.d.rho as, S, .ret a0, ρ1, S1, rs, rr, hrun, fun H' ι' σ' x rs' _ v rv => ?_⟩
    obtain ⟨ι2, x2, rs2, rv2⟩ := finish_ok rs x rs' rv hc
    exact q v H' ι2 x2 rs2 rv2
  · rename_i ρ1 S1 hrun
    refine ⟨ι, e.d.rho as, S, .nx, ρ1, S1, rs, rr, hrun, fun H' ι' σ' x rs' _ => ?_⟩
    obtain ⟨ι2, x2, rs2, rv2⟩ := finish_ok (a := .non) rs x rs' (rv_non.mpr rfl) hc
    exact q .non H' ι2 x2 rs2 rv2
  · cases hc
theorem fn_ok (F : Facts w K mg G gc T) {n f : Nat} (ih : Tbl P w K mg base (faOf K T) (3 * n) (callF gc (tbOf T) n)) {e : Fd} (he : T.find? (fun e => e.f == f) = some e) {fd : FuncData} (k5 : e.d.rest = false) (fD : FunD K e.x e.x (defArgs e.st) (defBody e.st) (defScope e.st) [] [] (He.fAd K (e.x, none)) fd) :
    FnOk P w K mg base CX0 (3 * (n + 1)) (He.fAd K (e.x, none)) fd (e.N.take e.d.ps) (spD w K (faOf K T) (callF gc (tbOf T) (n + 1) f)) := by
  have hm := List.mem_of_find?_eq_some he
  have ok := F.ok e hm
  unfold Fd.ok at ok
  simp only [Bool.and_eq_true, decide_eq_true_eq] at ok
  obtain ⟨⟨⟨⟨⟨k1, k2⟩, k3⟩, k4⟩, _⟩, k6⟩ := ok
  have htb : tbOf T f = some e.d := by unfold tbOf; rw [he]
  have hpl : (e.N.take e.d.ps).length = e.d.ps := by rw [List.length_take]; omega
  refine fD.ok (k := 3 * n + 2) (sc_of k3) (fun vs H Q E h => ?_) fun cdv A outer s H vs Q E hr h => ?_
  · obtain ⟨ι, S, as, c, S', _, ras, hc, _⟩ := h
    rw [hpl, ← ras.length]
    simp only [callF, htb] at hc
    unfold Def.bind at hc
    rw [k5, if_neg Bool.false_ne_true] at hc
    split at hc
    · rename_i as' hb
      split at hb
      · assumption
      · cases hb
    · cases hc
  · obtain ⟨ι, S0, as, c, S', rs, ras, hc, q⟩ := h
    simp only [callF, htb] at hc
    unfold Def.bind at hc
    rw [k5, if_neg Bool.false_ne_true] at hc
    split at hc
    · rename_i as' hbind
      split at hbind
      · rename_i hlen
        have e0 : as = as' := Option.some.inj hbind
        subst e0
        exact body_ok F ih hm hr rs ras hlen hc q
      · cases hbind
    · cases hc
/-- .. that takes the rest -/
theorem fn_rest (F : Facts w K mg G gc T) {n f : Nat} (ih : Tbl P w K mg base (faOf K T) (3 * n) (callF gc (tbOf T) n)) {e : Fd} (he : T.find? (fun e => e.f == f) = some e) {fd : FuncData} (k5 : e.d.rest = true) (fD : FunD K e.x e.x (defArgs e.st) (defBody e.st) (defScope e.st) [] [] (He.fAd K (e.x, none)) fd)
    (hb : RestB fd (e.N.take (e.d.ps - 1)) (e.N.getD (e.d.ps - 1) Str.empty)) : FnR P w K mg base CX0 (3 * (n + 1)) (He.fAd K (e.x, none)) (spD w K (faOf K T) (callF gc (tbOf T) (n + 1) f)) := by
  have hm := List.mem_of_find?_eq_some he
  have ok := F.ok e hm
  unfold Fd.ok at ok
  simp only [Bool.and_eq_true, decide_eq_true_eq] at ok
  obtain ⟨⟨⟨⟨⟨k1, k2⟩, k3⟩, k4⟩, k7⟩, k6⟩ := ok
  have hp1 : 1 ≤ e.d.ps := by rw [k5] at k7; simpa using k7
  have htb : tbOf T f = some e.d := by unfold tbOf; rw [he]
  obtain ⟨oc, od, dV, kV, doc, pm, an, cdv, ct, osl, rfl, lk, hcd, _, _⟩ := fD.ex
  have hN : e.N.take (e.d.ps - 1) ++ [e.N.getD (e.d.ps - 1) Str.empty] = e.N.take e.d.ps := by
    have h1 : e.d.ps - 1 < e.N.length := by omega
    have h2 : e.d.ps = e.d.ps - 1 + 1 := by omega
    rw [h2, List.take_add_one, ← h2, List.getElem?_eq_getElem h1, List.getD_eq_getElem?_getD, List.getElem?_eq_getElem h1]
    rfl
  have hpl : (e.N.take (e.d.ps - 1)).length = e.d.ps - 1 := by rw [List.length_take]; omega
  have base0 := fn_star (P := P) (w := w) (mg := mg) (base := base) (CX := CX0) (k := 3 * n + 2) (N := e.N) (ps := e.N.take (e.d.ps - 1)) (pv := e.N.getD (e.d.ps - 1) Str.empty) (sp := fun vs H Q E => ∃ ι S as c S', RS w K (faOf K T) H ι S ∧ RVs w K (faOf K T) H ι as vs ∧ as.length = e.d.ps ∧ (match run gc (callF gc (tbOf T) n) e.d.body (e.d.rho as) S with
      | some (.ret w, _, S1) => finish e.d.keep S.length w S1
      | some (.nx, _, S1) => finish e.d.keep S.length .non S1
      | _ => none) = some (c, S') ∧ After w K (faOf K T) ι H c S' Q) lk hcd (by rw [hN]; exact sc_of k3) (fun _ _ _ _ _ _ _ _ _ _ _ => id) hb fun A outer s H vs Q E hr ⟨ι, S, as, c, S', rs, ras, hl, hc, q⟩ => body_ok F ih hm hr rs ras hl hc q
  refine base0.imp fun vs H Q E h => ?_
  obtain ⟨ι, S0, as, c, S', rs, ras, hc, q⟩ := h
  simp only [callF, htb] at hc
  unfold Def.bind at hc
  rw [k5, if_pos rfl] at hc
  split at hc
  · rename_i as' hbind
    split at hbind
    · rename_i hlen
      obtain ⟨_, hl1, hl2⟩ := hlen
      have e0 : as.take (e.d.ps - 1) ++ [W.tup (as.drop (e.d.ps - 1))] = as' := Option.some.inj hbind
      subst e0
      refine ⟨vs.take (e.d.ps - 1), vs.drop (e.d.ps - 1), (List.take_append_drop _ _).symm, by rw [List.length_take, hpl, ← ras.length]; omega, by rw [List.length_drop, ← ras.length, ← lineN_eq]; omega, fun p hp => ?_⟩
      obtain ⟨x, rs2, np⟩ := rs.new (o := .tup (vs.drop (e.d.ps - 1))) hp
      refine ⟨ι, S0, _, c, S', rs2, (ras.mono x).take _ |>.append (.cons (rv_tup.mpr ⟨p, _, rfl, .inl ⟨.inl upd_same, np⟩, (ras.mono x).drop _⟩) .nil), ?_, hc, q.mono x⟩
      rw [List.length_append, List.length_take, List.length_singleton]; omega
    · cases hbind
  · cases hc
theorem tbl_ok (F : Facts w K mg G gc T) : ∀ n : Nat, Tbl P w K mg base (faOf K T) (3 * n) (callF gc (tbOf T) n)
  | 0 => by
    refine ⟨fun f a hf => ?_⟩
    unfold faOf at hf
    split at hf
    · rename_i e he
      cases hf
      obtain ⟨fd, fD, _⟩ := F.def_ e (List.mem_of_find?_eq_some he)
      refine ⟨fD.kp, fun A outer s H us vs Q E hr e0 r hs => ?_⟩
      obtain ⟨ι, S, as, c, S', _, _, hc, _⟩ := hs
      have hc : (none : Option (W × Sto)) = some (c, S') := hc
      cases hc
    · cases hf
  | n + 1 => by
    have ih := tbl_ok F n
    refine ⟨fun f a hf => ?_⟩
    unfold faOf at hf
    split at hf
    · rename_i e he
      cases hf
      obtain ⟨fd, fD, hb, hb2⟩ := F.def_ e (List.mem_of_find?_eq_some he)
      cases hre : e.d.rest with
      | false => exact ⟨fD.kp, ((fn_ok F ih he hre fD).raw (hb hre) .nil).imp fun vs H Q E h => by rw [List.append_nil]; exact h⟩
      | true => exact ⟨fD.kp, fn_rest F ih he hre fD (hb2 hre)⟩
    · cases hf
/-- THE END: what the law's def computes is True, so it holds -/
theorem law_sp {f : Nat} {n : Nat} {H : Hp} {a : Addr} {ns : List Int} {S' : Sto} (h : callF gc (tbOf T) n f [.lst (ns.map .int)] [] = some (.bl true, S')) (hS : SqL K H a (ns.map V.int)) :
    spD w K (faOf K T) (callF gc (tbOf T) n f) [.ref a] H (fun v _ => v = .bl true) fun _ _ _ => False := by
  refine ⟨⟨[], []⟩, [], [.lst (ns.map .int)], .bl true, S', ⟨rfl, List.nodup_nil, fun a m => (nomatch m), fun a m => (nomatch m), fun n o a h1 _ => (by simp at h1)⟩, .cons ?_ .nil, h, fun v H' ι' _ _ rv => rv_bl.mp rv⟩
  simp only [RV]
  refine ⟨a, ns.map V.int, rfl, ?_, ?_⟩
  · rcases hS with hS | hS
    · refine .inl ⟨hS, fun m => ?_⟩
      rcases Pls.mem.mp m with m | m <;> cases m
    · exact .inr hS
  · clear h hS
    induction ns with
    | nil => exact .nil
    | cons i ns ih => exact .cons (rv_int.mpr rfl) ih
end
end TZ

set_option Elab.async false
set_option linter.all false
set_option maxRecDepth 100000
set_option maxHeartbeats 1000000
/-! B8: the module's constants. -/
namespace TZ
open PySem L2 StX PyProof.Rows He

def gc0 : Nat → W
  | 0 => .str "abcdefghijklmnopqrstuvwxyz"
  | 1 => .int 1000000
  | 2 => .int 8
  | 3 => .int 8
  | 4 => .int 6
  | 5 => .int 2
  | 6 => .int 1
  | 7 => .int 2
  | 8 => .tup [.str "add", .str "unstage", .str "restore"]
  | 9 => .tup [.str "soft", .str "mixed", .str "hard"]
  | 10 => .tup [.str "commit", .str "switch"]
  | 11 => .str "same"
  | _ => .non
def obsT (fs : List Fa) (fn : List DefD) (cs : List (Str × List Str)) (K : PySem.W.Frag) : AlD := (((fs.all fun f => f.ok K) && fn.all fun d => d.ok K) && cs.all fun c => tupB K c.1 (c.2.map Dv.str), fn.map fun d => fnW K d.at_)
def SaysT (fs : List Fa) (fn : List DefD) (cs : List (Str × List Str)) (K : PySem.W.Frag) : Prop := obsT fs fn cs K = valD fn
def obsTG (n : Nat) (fs : List Fa) (fn : List DefD) (cs : List (Str × List Str)) (g : Addr → Option Obj) : AlD := obsT fs fn cs (frG g (asD g n))
def hookT (n : Nat) (fs : List Fa) (fn : List DefD) (cs : List (Str × List Str)) : PySem.W.Hook where
  α := AlD
  obs := fun s => obsTG n fs fn cs s.heap.get?
  val := fun _ => valD fn
  says := fun _ h => ∃ K : PySem.W.Frag, K.In h ∧ SaysT fs fn cs K
  of := fun _ _ e => ⟨_, frG_in, e⟩
  keeps := fun _ _ _ ⟨K, hK, c⟩ k => ⟨K, PySem.W.Frag.In.keeps hK k, c⟩
theorem obsTG_eq {n : Nat} {fs : List Fa} {fn : List DefD} {cs : List (Str × List Str)} {g : Addr → Option Obj} {s : Shared} (h : ∀ a, g a = s.heap.get? a) : obsTG n fs fn cs g = (hookT n fs fn cs).obs s := by
  have e : g = s.heap.get? := funext h
  rw [e]; rfl
theorem SaysT.d {fs : List Fa} {fn : List DefD} {cs : List (Str × List Str)} {K : PySem.W.Frag} (c : SaysT fs fn cs K) : SaysD fs fn K := by
  have c1 := (ba (show (((fs.all fun f => f.ok K) && fn.all fun d => d.ok K) && cs.all fun c => tupB K c.1 (c.2.map Dv.str)) = true from congrArg (fun z : AlD => z.1) c)).1
  have e : fn.map (fun d => fnW K d.at_) = fn.map DefD.val := congrArg (fun z : AlD => z.2) c
  show ((fs.all fun f => f.ok K) && fn.all fun d => d.ok K, fn.map fun d => fnW K d.at_) = (true, fn.map DefD.val)
  rw [c1, e]
theorem SaysT.tup {fs : List Fa} {fn : List DefD} {cs : List (Str × List Str)} {K : PySem.W.Frag} (c : SaysT fs fn cs K) (i : Nat) {x : Str} {zs : List Str} (h : cs[i]? = some (x, zs) := by rfl) : tupB K x (zs.map Dv.str) = true := by
  have c1 := (ba (show (((fs.all fun f => f.ok K) && fn.all fun d => d.ok K) && cs.all fun c => tupB K c.1 (c.2.map Dv.str)) = true from congrArg (fun z : AlD => z.1) c)).2
  exact List.all_eq_true.mp c1 _ (List.mem_of_getElem? h)
section
variable {w : World} {K : PySem.W.Frag} {h : Heap} {mg : Str → Option Value} {fa : Nat → Option Addr} {x : Str}
theorem con_int {i : Int} (X : K.In h) (G : h.Ns mainGlobals mg) (c : (Fa.int x i).ok K = true) : ∃ u v, mg x = some u ∧ RelV v u ∧ ∀ H ι, RV w K fa H ι (.int i) v := by
  obtain ⟨t, e⟩ := int_ok X G c
  exact ⟨_, .int i, e, ⟨t, rfl⟩, fun H ι => rv_int.mpr rfl⟩
theorem con_str {z : Str} (X : K.In h) (G : h.Ns mainGlobals mg) (c : (Fa.str x z).ok K = true) (hz : litOk z = true) : ∃ u v, mg x = some u ∧ RelV v u ∧ ∀ H ι, RV w K fa H ι (.str z) v := by
  obtain ⟨t, e⟩ := str_ok X G c
  exact ⟨_, .str z, e, ⟨t, rfl⟩, fun H ι => rv_str.mpr ⟨rfl, hz⟩⟩
theorem con_tup {zs : List Str} (X : K.In h) (G : h.Ns mainGlobals mg) (c : (Fa.glo x).ok K = true) (c2 : tupB K x (zs.map Dv.str) = true) (hz : zs.all litOk = true) : ∃ u v, mg x = some u ∧ RelV v u ∧ ∀ H ι, RV w K fa H ι (.tup (zs.map .str)) v := by
  refine ⟨_, .ref (ga K x), glo_ok X G c, rfl, fun H ι => ?_⟩
  have ct : CT K (ga K x) ((zs.map Dv.str).map (Dv.v K)) := by
    rcases tupB_ok c2 (fun _ => none) with (h | ⟨o, h⟩) | ⟨o, its, n, h1, h2, h3, h4, h5⟩
    · cases h
    · cases h
    · exact ⟨o, its, n, h1, h2, h3, h4, h5⟩
  refine rv_tup.mpr ⟨_, _, rfl, .inr ct, ?_⟩
  clear c2 ct c
  induction zs with
  | nil => exact .nil
  | cons z zs ih =>
    rw [List.all_cons, Bool.and_eq_true] at hz
    exact .cons (rv_str.mpr ⟨rfl, hz.1⟩) (ih hz.2)
theorem restB_of {qual : Str} {params : Arguments} {body : List Stmt} {scope : Scope} {kws : List (Str × V)} {f : Addr} {fd : FuncData} {ps : List Str} {pv : Str} (F : FunD K x qual params body scope [] kws f fd)
    (h : ∀ (kV doc pm : Value) (an : Option Addr) (cdv ct : Value) (us rest : List Value), us.length = ps.length → bindArgs (PySem.W.fnOf x qual params body scope .none kV doc pm an cdv ct) ⟨us ++ rest, []⟩ = (newTuple rest >>= fun t => pure (ps.zip us ++ [(pv, t)]))) : RestB fd ps pv := by
  obtain ⟨oc, od, dV, kV, doc, pm, an, cdv, ct, osl, rfl, lk, hcd, hD, hK⟩ := F.ex
  rcases hD with ⟨_, rfl⟩ | ⟨e, _⟩
  · exact h kV doc pm an cdv ct
  · exact absurd rfl e
end
end TZ

set_option Elab.async false
set_option linter.all false
set_option maxRecDepth 100000
set_option maxHeartbeats 1000000
/-! A25: garbage put in behind p places changes nothing. -/
namespace TZ
open PySem

def shN (p k n : Nat) : Nat := if n < p then n else n + k
mutual
def W.sh (p k : Nat) : W → W
  | .ref n => .ref (shN p k n)
  | .tup ws => .tup (shs p k ws)
  | .lst ws => .lst (shs p k ws)
  | .dct ks us => .dct (shs p k ks) (shs p k us)
  | .non => .non
  | .bl b => .bl b
  | .int i => .int i
  | .str x => .str x
  | .fn f => .fn f
def shs (p k : Nat) : List W → List W
  | [] => []
  | w :: ws => W.sh p k w :: shs p k ws
end
def Ob.sh (p k : Nat) : Ob → Ob
  | .lst ws => .lst (shs p k ws)
  | .dct ks us => .dct (shs p k ks) (shs p k us)
def shS (p : Nat) (g : List Ob) (S : Sto) : Sto := (S.take p).map (Ob.sh p g.length) ++ (g ++ (S.drop p).map (Ob.sh p g.length))
theorem shs_map (p k : Nat) : ∀ ws, shs p k ws = ws.map (W.sh p k)
  | [] => rfl
  | w :: ws => by simp only [shs, List.map_cons, shs_map p k ws]
theorem sh_inj (p k : Nat) {n m : Nat} (h : shN p k n = shN p k m) : n = m := by
  unfold shN at h
  split at h <;> split at h <;> omega

section
variable {p : Nat} {g : List Ob} {S S' : Sto}
theorem shS_len (hp : p ≤ S.length) : (shS p g S).length = S.length + g.length := by
  unfold shS; simp; omega
theorem shS_get (hp : p ≤ S.length) (n : Nat) : (shS p g S)[shN p g.length n]? = (S[n]?).map (Ob.sh p g.length) := by
  unfold shS shN
  split
  · rename_i h
    rw [List.getElem?_append_left (by simp; omega), List.getElem?_map, List.getElem?_take_of_lt h]
  · rename_i h
    rw [List.getElem?_append_right (by simp; omega), List.getElem?_append_right (by simp; omega), List.getElem?_map, List.getElem?_drop]
    have e : (List.map (Ob.sh p g.length) (List.take p S)).length = p := by simp; omega
    rw [e]
    congr 2
    omega
theorem shS_push (hp : p ≤ S.length) (o : Ob) : shS p g (S ++ [o]) = shS p g S ++ [Ob.sh p g.length o] := by
  unfold shS
  rw [List.take_append_of_le_length hp, List.drop_append_of_le_length hp]
  simp
theorem shS_set (hp : p ≤ S.length) (n : Nat) (o : Ob) : shS p g (S.set n o) = (shS p g S).set (shN p g.length n) (Ob.sh p g.length o) := by
  apply List.ext_getElem?
  intro i
  have hp' : p ≤ (S.set n o).length := by simpa using hp
  by_cases hi : ∃ m, i = shN p g.length m
  · obtain ⟨m, rfl⟩ := hi
    rw [shS_get hp']
    by_cases e : n = m
    · subst e
      by_cases hn : n < S.length
      · rw [List.getElem?_set_self hn, List.getElem?_set_self]
        · rfl
        · have h2 := shS_get (g := g) hp n
          rw [List.getElem?_eq_getElem hn] at h2
          exact (List.getElem?_eq_some_iff.mp h2).1
      · have h2 := shS_get (g := g) hp n
        have h3 : S[n]? = none := List.getElem?_eq_none (by omega)
        have h4 : (S.set n o)[n]? = none := List.getElem?_eq_none (by rw [List.length_set]; omega)
        rw [h3] at h2
        rw [h4]
        have := List.getElem?_eq_none_iff.mp h2
        rw [List.getElem?_eq_none (by rw [List.length_set]; exact this)]
        rfl
    · rw [List.getElem?_set_ne e, List.getElem?_set_ne (fun z => e (sh_inj _ _ z)), shS_get hp]
  · have hr : p ≤ i ∧ i < p + g.length := by
      refine ⟨?_, ?_⟩
      · apply Nat.le_of_not_lt
        intro z
        exact hi ⟨i, by unfold shN; rw [if_pos z]⟩
      · apply Nat.lt_of_not_le
        intro z
        exact hi ⟨i - g.length, by unfold shN; rw [if_neg (by omega)]; omega⟩
    have ne : shN p g.length n ≠ i := fun z => hi ⟨n, z.symm⟩
    rw [List.getElem?_set_ne ne]
    unfold shS
    rw [List.getElem?_append_right (by simp; omega), List.getElem?_append_left (by simp; omega), List.getElem?_append_right (by simp; omega), List.getElem?_append_left (by simp; omega)]
    simp
theorem shN_len (hp : p ≤ S.length) : shN p g.length S.length = (shS p g S).length := by
  rw [shS_len hp]; unfold shN; rw [if_neg (by omega)]
end
mutual
theorem py_sh (p k : Nat) : ∀ a : W, (W.sh p k a).py = a.py
  | .non => rfl
  | .bl _ => rfl
  | .int _ => rfl
  | .str _ => rfl
  | .fn _ => rfl
  | .ref _ => by simp only [W.sh, W.py]
  | .tup ws => by simp only [W.sh, W.py, pys_sh p k ws]
  | .lst ws => by simp only [W.sh, W.py, pys_sh p k ws]
  | .dct ks us => by simp only [W.sh, W.py]
theorem pys_sh (p k : Nat) : ∀ as : List W, pys (shs p k as) = pys as
  | [] => rfl
  | a :: as => by simp only [shs, pys, py_sh p k a, pys_sh p k as]
end
mutual
theorem hk_sh (p k : Nat) : ∀ (a : W) (n : Nat), (W.sh p k a).hk n = a.hk n
  | .non, n => by cases n <;> rfl
  | .bl _, n => by cases n <;> rfl
  | .int _, n => by cases n <;> rfl
  | .str _, n => by cases n <;> rfl
  | .fn _, n => by cases n <;> rfl
  | .ref _, n => by cases n <;> rfl
  | .tup ws, n => by cases n <;> simp only [W.sh, W.hk, hks_sh p k ws]
  | .lst ws, n => by cases n <;> rfl
  | .dct ks us, n => by cases n <;> rfl
theorem hks_sh (p k : Nat) : ∀ (as : List W) (n : Nat), hks n (shs p k as) = hks n as
  | [], n => by cases n <;> rfl
  | a :: as, n => by simp only [shs, hks, hk_sh p k a, hks_sh p k as]
end
theorem leaf_sh (p k : Nat) (a : W) : (W.sh p k a).leaf = a.leaf := by cases a <;> rfl
theorem tkey_sh (p k : Nat) (a : W) : (W.sh p k a).tkey = a.tkey := by
  unfold W.tkey
  rw [hk_sh]
  cases a <;> rfl
theorem eqv_sh (p k : Nat) (a b : W) : W.eqv (W.sh p k a) (W.sh p k b) = W.eqv a b := by unfold W.eqv; rw [py_sh, py_sh]
theorem len_shs (p k : Nat) (ws : List W) : (shs p k ws).length = ws.length := by rw [shs_map]; simp
theorem all_shs (p k : Nat) (f : W → Bool) (hf : ∀ a, f (W.sh p k a) = f a) (ws : List W) : (shs p k ws).all f = ws.all f := by
  rw [shs_map, List.all_map]
  congr 1
  funext a
  exact hf a
theorem keyFor_sh (p k : Nat) (ks : List W) (x : W) : keyFor (shs p k ks) (W.sh p k x) = keyFor ks x := by
  unfold keyFor
  rw [leaf_sh, tkey_sh, all_shs p k _ (leaf_sh p k), all_shs p k _ (tkey_sh p k)]
theorem kIdx_sh (p k : Nat) (ks : List W) (x : W) : kIdx (shs p k ks) (W.sh p k x) = kIdx ks x := by
  unfold kIdx
  rw [shs_map, List.findIdx?_map]
  congr 1
  funext a
  exact eqv_sh p k a x
theorem get_shs (p k : Nat) (ws : List W) (i : Nat) : (shs p k ws)[i]? = (ws[i]?).map (W.sh p k) := by rw [shs_map, List.getElem?_map]
theorem dAt_sh (p k : Nat) (ks us : List W) (x : W) : dAt (shs p k ks) (shs p k us) (W.sh p k x) = (dAt ks us x).map (W.sh p k) := by
  unfold dAt
  rw [kIdx_sh]
  cases kIdx ks x with
  | none => rfl
  | some i => exact get_shs p k us i
theorem dHas_sh (p k : Nat) (ks : List W) (x : W) : dHas (shs p k ks) (W.sh p k x) = dHas ks x := by unfold dHas; rw [kIdx_sh]
theorem app_shs (p k : Nat) (xs ys : List W) : shs p k (xs ++ ys) = shs p k xs ++ shs p k ys := by simp only [shs_map, List.map_append]
theorem set_shs (p k : Nat) (xs : List W) (i : Nat) (v : W) : shs p k (xs.set i v) = (shs p k xs).set i (W.sh p k v) := by simp only [shs_map, List.map_set]
theorem dPut_sh (p k : Nat) (ks us : List W) (x v : W) : dPut (shs p k ks) (shs p k us) (W.sh p k x) (W.sh p k v) = (shs p k (dPut ks us x v).1, shs p k (dPut ks us x v).2) := by
  unfold dPut
  rw [kIdx_sh]
  cases kIdx ks x with
  | none => simp only [app_shs, shs]
  | some i => simp only [set_shs]
end TZ

set_option Elab.async false
set_option linter.all false
set_option maxRecDepth 100000
set_option maxHeartbeats 1000000
/-! A26: the operations under a shift. -/
namespace TZ
open PySem

section
variable {p : Nat} {g : List Ob}
mutual
theorem mapR_sh {k : Nat} {f f' : Nat → Option W} (hf : ∀ r x, f r = some x → f' (shN p k r) = some (W.sh p k x)) : ∀ (a b : W), a.mapR f = some b → (W.sh p k a).mapR f' = some (W.sh p k b)
  | .non, b, h => by simp only [W.mapR] at h; cases h; rfl
  | .bl _, b, h => by simp only [W.mapR] at h; cases h; rfl
  | .int _, b, h => by simp only [W.mapR] at h; cases h; rfl
  | .str _, b, h => by simp only [W.mapR] at h; cases h; rfl
  | .fn _, b, h => by simp only [W.mapR] at h; cases h; rfl
  | .ref r, b, h => by simp only [W.mapR] at h; simp only [W.sh, W.mapR]; exact hf r b h
  | .tup ws, b, h => by
    simp only [W.mapR] at h
    obtain ⟨ws', e, rfl⟩ := Option.map_eq_some_iff.mp h
    simp only [W.sh, W.mapR, mapRs_sh hf ws ws' e]; rfl
  | .lst ws, b, h => by
    simp only [W.mapR] at h
    obtain ⟨ws', e, rfl⟩ := Option.map_eq_some_iff.mp h
    simp only [W.sh, W.mapR, mapRs_sh hf ws ws' e]; rfl
  | .dct ks us, b, h => by
    simp only [W.mapR] at h
    split at h
    · rename_i ks' us' e1 e2
      cases h
      simp only [W.sh, W.mapR, mapRs_sh hf ks ks' e1, mapRs_sh hf us us' e2]
    · cases h
theorem mapRs_sh {k : Nat} {f f' : Nat → Option W} (hf : ∀ r x, f r = some x → f' (shN p k r) = some (W.sh p k x)) : ∀ (as bs : List W), mapRs f as = some bs → mapRs f' (shs p k as) = some (shs p k bs)
  | [], bs, h => by simp only [mapRs] at h; cases h; rfl
  | a :: as, bs, h => by
    simp only [mapRs] at h
    split at h
    · rename_i a' as' e1 e2
      cases h
      simp only [shs, mapRs, mapR_sh hf a a' e1, mapRs_sh hf as as' e2]
    · cases h
end
mutual
theorem flat_sh (k : Nat) : ∀ (a : W) (n : Nat), a.flat n = true → W.sh p k a = a
  | .non, n, _ => rfl
  | .bl _, n, _ => rfl
  | .int _, n, _ => rfl
  | .str _, n, _ => rfl
  | .fn _, n, h => rfl
  | .ref _, n, h => by cases n <;> simp only [W.flat, Bool.false_eq_true] at h
  | .dct _ _, n, h => by cases n <;> simp only [W.flat, Bool.false_eq_true] at h
  | .tup ws, n, h => by
    cases n with
    | zero => simp only [W.flat, Bool.false_eq_true] at h
    | succ n => simp only [W.flat] at h; simp only [W.sh, flats_sh k ws n h]
  | .lst ws, n, h => by
    cases n with
    | zero => simp only [W.flat, Bool.false_eq_true] at h
    | succ n => simp only [W.flat] at h; simp only [W.sh, flats_sh k ws n h]
theorem flats_sh (k : Nat) : ∀ (as : List W) (n : Nat), flats n as = true → shs p k as = as
  | [], _, _ => rfl
  | a :: as, n, h => by
    simp only [flats, Bool.and_eq_true] at h
    simp only [shs, flat_sh k a n h.1, flats_sh k as n h.2]
end
variable {S S1 S' : Sto}
theorem thaw_sh {n₀ n₁ : Nat} (hp : p ≤ S.length) (hn : ∀ r, r < n₀ ↔ shN p g.length r < n₁) : ∀ (k r : Nat) (a : W), thaw n₀ S k r = some a → thaw n₁ (shS p g S) k (shN p g.length r) = some (W.sh p g.length a)
  | 0, r, a, h => by
    simp only [thaw] at h ⊢
    split at h
    · rename_i hl
      cases h
      rw [if_pos ((hn r).mp hl)]; rfl
    · cases h
  | k + 1, r, a, h => by
    simp only [thaw] at h ⊢
    split at h
    · rename_i hl
      cases h
      rw [if_pos ((hn r).mp hl)]; rfl
    · rename_i hl
      rw [if_neg fun z => hl ((hn r).mpr z), shS_get hp]
      split at h
      · rename_i ws e
        obtain ⟨ws', e1, rfl⟩ := Option.map_eq_some_iff.mp h
        rw [e]
        simp only [Option.map_some, Ob.sh, mapRs_sh (thaw_sh hp hn k) ws ws' e1]; rfl
      · rename_i ks us e
        split at h
        · rename_i ks' us' e1 e2
          cases h
          rw [e]
          simp only [Option.map_some, Ob.sh, mapRs_sh (thaw_sh hp hn k) ks ks' e1, mapRs_sh (thaw_sh hp hn k) us us' e2]; rfl
        · cases h
      · cases h
theorem frz_sh {n₀ n₁ : Nat} (hp : p ≤ S.length) (hn : ∀ r, r < n₀ ↔ shN p g.length r < n₁) {a b : W} (h : a.frz n₀ S = some b) : (W.sh p g.length a).frz n₁ (shS p g S) = some (W.sh p g.length b) := mapR_sh (thaw_sh hp hn 8) a b h
theorem asData_sh (hp : p ≤ S.length) {a x : W} (h : asData S a = some x) : asData (shS p g S) (W.sh p g.length a) = some x ∧ W.sh p g.length x = x := by
  unfold asData at h ⊢
  split at h
  · rename_i b e
    split at h
    · rename_i hf
      cases h
      rw [frz_sh (n₁ := 0) hp (fun r => by omega) e, flat_sh g.length x deep hf]
      simp only [hf, if_true]
      exact ⟨trivial, trivial⟩
    · cases h
  · cases h
theorem listOf_sh (hp : p ≤ S.length) {a : W} {ws : List W} (h : listOf S a = some ws) : listOf (shS p g S) (W.sh p g.length a) = some (shs p g.length ws) := by
  cases a with
  | lst us => cases h; rfl
  | ref n =>
    have h : (match S[n]? with | some (Ob.lst ws) => some ws | _ => none) = some ws := h
    show (match (shS p g S)[shN p g.length n]? with | some (Ob.lst ws) => some ws | _ => none) = _
    rw [shS_get hp]
    split at h
    · rename_i us e
      cases h
      rw [e]; rfl
    · cases h
  | _ => cases h
theorem seqOf_sh (hp : p ≤ S.length) {a : W} {ws : List W} (h : seqOf S a = some ws) : seqOf (shS p g S) (W.sh p g.length a) = some (shs p g.length ws) := by
  cases a with
  | tup us => cases h; rfl
  | lst us => exact listOf_sh hp (a := .lst us) h
  | ref n => exact listOf_sh hp (a := .ref n) h
  | _ => cases h
theorem dictOf_sh (hp : p ≤ S.length) {a : W} {ks us : List W} (h : dictOf S a = some (ks, us)) : dictOf (shS p g S) (W.sh p g.length a) = some (shs p g.length ks, shs p g.length us) := by
  cases a with
  | dct ks' us' => cases h; rfl
  | ref n =>
    have h : (match S[n]? with | some (Ob.dct ks us) => some (ks, us) | _ => none) = some (ks, us) := h
    show (match (shS p g S)[shN p g.length n]? with | some (Ob.dct ks us) => some (ks, us) | _ => none) = _
    rw [shS_get hp]
    split at h
    · rename_i us e
      cases h
      rw [e]; rfl
    · cases h
  | _ => cases h
theorem dictOf_no (hp : p ≤ S.length) {a : W} (h : dictOf S a = none) : dictOf (shS p g S) (W.sh p g.length a) = none := by
  cases a with
  | dct ks' us' => cases h
  | ref n =>
    have h : (match S[n]? with | some (Ob.dct ks us) => some (ks, us) | _ => none) = none := h
    show (match (shS p g S)[shN p g.length n]? with | some (Ob.dct ks us) => some (ks, us) | _ => none) = _
    rw [shS_get hp]
    cases e : S[n]? with
    | none => rfl
    | some o =>
      cases o with
      | lst ws => rfl
      | dct ks us => rw [e] at h; cases h
  | _ => rfl

/-- what is computed without the garbage is computed with it -/
def Co {α : Type} (p : Nat) (g : List Ob) (sa : α → α) (m m' : M α) : Prop := ∀ S a S', p ≤ S.length → m S = some (a, S') → m' (shS p g S) = some (sa a, shS p g S') ∧ S.length ≤ S'.length
theorem Co.bind {α β : Type} {sa : α → α} {sb : β → β} {m m' : M α} {f f' : α → M β} (h : Co p g sa m m') (hf : ∀ a, Co p g sb (f a) (f' (sa a))) : Co p g sb (m >>= f) (m' >>= f') := by
  intro S b S2 hp hb
  have hb : (match m S with | some (a, S1) => f a S1 | none => none) = some (b, S2) := hb
  cases e : m S with
  | none => rw [e] at hb; cases hb
  | some q =>
    obtain ⟨a, S1⟩ := q
    rw [e] at hb
    obtain ⟨h1, h2⟩ := h S a S1 hp e
    obtain ⟨h3, h4⟩ := hf a S1 b S2 (by omega) hb
    refine ⟨?_, by omega⟩
    show (match m' (shS p g S) with | some (a, S1) => f' a S1 | none => none) = _
    rw [h1]; exact h3
theorem Co.pure {α : Type} {sa : α → α} (a : α) : Co p g sa (pure a) (pure (sa a)) := by
  intro S b S2 hp hb
  have e : some (a, S) = some (b, S2) := hb
  cases e
  exact ⟨rfl, Nat.le_refl _⟩
theorem Co.ret {α : Type} {sa : α → α} {a b : α} (e : sa a = b) : Co p g sa (M.ret a) (M.ret b) := by subst e; exact Co.pure a
theorem Co.grd {c d : Bool} (h : d = c) : Co p g id (M.grd c) (M.grd d) := by
  subst h
  intro S b S2 hp hb
  unfold M.grd at hb ⊢
  split at hb
  · rename_i hc; cases hb; rw [if_pos hc]; exact ⟨rfl, Nat.le_refl _⟩
  · cases hb
theorem Co.no {α : Type} {sa : α → α} {m' : M α} : Co p g sa (fun _ => none) m' := fun S b S2 hp hb => by cases hb
theorem Co.new (o : Ob) : Co p g (W.sh p g.length) (M.new o) (M.new (Ob.sh p g.length o)) := by
  intro S b S2 hp hb
  have e : some (W.ref S.length, S ++ [o]) = some (b, S2) := hb
  cases e
  refine ⟨?_, by simp⟩
  show some (W.ref (shS p g S).length, shS p g S ++ [Ob.sh p g.length o]) = _
  rw [shS_push hp]
  simp only [W.sh]
  rw [shN_len hp]
theorem Co.truth {m m' : M W} (h : Co p g (W.sh p g.length) m m') : Co p g id (truth m) (truth m') := by
  intro S b S2 hp hb
  unfold TZ.truth at hb ⊢
  split at hb
  · rename_i b' S' e
    cases hb
    obtain ⟨h1, h2⟩ := h S _ _ hp e
    rw [h1]
    exact ⟨rfl, h2⟩
  · cases hb
abbrev sW (p : Nat) (g : List Ob) : W → W := W.sh p g.length

/-! ### operators -/
theorem co_eq (a b : W) : Co p g id (wEq a b) (wEq (sW p g a) (sW p g b)) := by
  intro S c S2 hp h
  unfold wEq at h ⊢
  split at h
  · rename_i x y e1 e2
    cases h
    rw [(asData_sh hp e1).1, (asData_sh hp e2).1]
    exact ⟨rfl, Nat.le_refl _⟩
  · cases h
theorem co_lt (a b : W) : Co p g id (wLt a b) (wLt (sW p g a) (sW p g b)) := by
  intro S c S2 hp h
  unfold wLt at h
  split at h <;> cases h <;> exact ⟨rfl, Nat.le_refl _⟩
theorem co_le (a b : W) : Co p g id (wLe a b) (wLe (sW p g a) (sW p g b)) := by
  intro S c S2 hp h
  unfold wLe at h
  split at h <;> cases h <;> exact ⟨rfl, Nat.le_refl _⟩
theorem co_gt (a b : W) : Co p g id (wGt a b) (wGt (sW p g a) (sW p g b)) := by
  intro S c S2 hp h
  unfold wGt at h
  split at h <;> cases h <;> exact ⟨rfl, Nat.le_refl _⟩
theorem co_ge (a b : W) : Co p g id (wGe a b) (wGe (sW p g a) (sW p g b)) := by
  intro S c S2 hp h
  unfold wGe at h
  split at h <;> cases h <;> exact ⟨rfl, Nat.le_refl _⟩
end
end TZ

set_option Elab.async false
set_option linter.all false
set_option maxRecDepth 100000
set_option maxHeartbeats 1000000
/-! A27: the operations under a shift, the rest. -/
namespace TZ
open PySem

section
variable {p : Nat} {g : List Ob}
theorem sh_str {a : W} {x : Str} (h : sW p g a = .str x) : a = .str x := by
  cases a <;> first | exact h | (simp only [sW, W.sh] at h; cases h)
theorem sh_int {a : W} {x : Int} (h : sW p g a = .int x) : a = .int x := by
  cases a <;> first | exact h | (simp only [sW, W.sh] at h; cases h)
theorem sh_tup {a : W} {ws : List W} (h : sW p g a = .tup ws) : ∃ us, a = .tup us ∧ ws = shs p g.length us := by
  cases a with
  | tup us => simp only [sW, W.sh] at h; cases h; exact ⟨us, rfl, rfl⟩
  | _ => simp only [sW, W.sh] at h; cases h
theorem anyEqv_sh (x : W) (ws : List W) (hx : W.sh p g.length x = x) (hw : shs p g.length ws = ws) : True := trivial
theorem co_in (a b : W) : Co p g id (wIn a b) (wIn (sW p g a) (sW p g b)) := by
  intro S c S2 hp h
  unfold wIn at h
  split at h
  · cases h; exact ⟨rfl, Nat.le_refl _⟩
  · rename_i hno
    have e : wIn (sW p g a) (sW p g b) (shS p g S) = (match dictOf (shS p g S) (sW p g b) with
      | some (ks, _) => if keyFor ks (sW p g a) = true then some (dHas ks (sW p g a), shS p g S) else none
      | none => match asData (shS p g S) (sW p g a), asData (shS p g S) (sW p g b) with
        | some x, some (.lst ws) => some (anyEqv x ws, shS p g S)
        | some x, some (.tup ws) => some (anyEqv x ws, shS p g S)
        | _, _ => none) := by
      unfold wIn
      split
      · rename_i h1 h2
        exact (hno _ _ (sh_str h1) (sh_str h2)).elim
      · rfl
    rw [e]
    split at h
    · rename_i ks us hd
      split at h
      · rename_i hk
        cases h
        rw [dictOf_sh hp hd]
        simp only
        rw [keyFor_sh, if_pos hk, dHas_sh]
        exact ⟨rfl, Nat.le_refl _⟩
      · cases h
    · rename_i hd
      rw [dictOf_no hp hd]
      split at h
      · rename_i x ws e1 e2
        cases h
        rw [(asData_sh hp e1).1, (asData_sh hp e2).1]
        exact ⟨rfl, Nat.le_refl _⟩
      · rename_i x ws e1 e2
        cases h
        rw [(asData_sh hp e1).1, (asData_sh hp e2).1]
        exact ⟨rfl, Nat.le_refl _⟩
      · cases h
theorem co_cmp (o : Cop) (a b : W) : Co p g id (wCmp o a b) (wCmp o (sW p g a) (sW p g b)) := by
  cases o with
  | eq => exact co_eq a b
  | ne => exact (co_eq a b).bind fun c => Co.pure (sa := id) (!c)
  | lt => exact co_lt a b
  | le => exact co_le a b
  | gt => exact co_gt a b
  | ge => exact co_ge a b
  | in_ => exact co_in a b
  | ni => exact (co_in a b).bind fun c => Co.pure (sa := id) (!c)
theorem rep_shs (k n : Nat) (xs : List W) : shs p k (rep n xs) = rep n (shs p k xs) := by
  unfold rep
  simp only [shs_map, List.map_flatten, List.map_replicate]
theorem co_add (a b : W) : Co p g (sW p g) (wAdd a b) (wAdd (sW p g a) (sW p g b)) := by
  intro S c S2 hp h
  unfold wAdd at h
  split at h
  · cases h; exact ⟨rfl, Nat.le_refl _⟩
  · split at h
    · rename_i hz
      cases h
      refine ⟨?_, Nat.le_refl _⟩
      show (if _ then _ else _) = _
      rw [if_pos hz]; rfl
    · cases h
  · split at h
    · rename_i xs ys hz
      cases h
      refine ⟨?_, Nat.le_refl _⟩
      show (if (shs p g.length xs).length + (shs p g.length ys).length ≤ lineN then _ else _) = _
      rw [len_shs, len_shs, if_pos hz]
      simp only [sW, W.sh, app_shs]
    · cases h
  · rename_i n1 n2 n3
    split at h
    · rename_i xs ys e1 e2
      split at h
      · rename_i hz
        cases h
        refine ⟨?_, Nat.le_refl _⟩
        have q1 := listOf_sh (g := g) hp e1
        have q2 := listOf_sh (g := g) hp e2
        unfold wAdd
        split
        · rename_i h1 h2; exact (n1 _ _ (sh_int h1) (sh_int h2)).elim
        · rename_i h1 h2; exact (n2 _ _ (sh_str h1) (sh_str h2)).elim
        · rename_i h1 h2
          obtain ⟨u1, k1, _⟩ := sh_tup h1
          obtain ⟨u2, k2, _⟩ := sh_tup h2
          exact (n3 _ _ k1 k2).elim
        · rw [q1, q2]
          simp only
          rw [len_shs, len_shs, if_pos hz]
          simp only [sW, W.sh, app_shs]
      · cases h
    · cases h
theorem co_mul (a b : W) : Co p g (sW p g) (wMul a b) (wMul (sW p g a) (sW p g b)) := by
  intro S c S2 hp h
  unfold wMul at h
  split at h
  · split at h
    · rename_i hz
      cases h
      refine ⟨?_, Nat.le_refl _⟩
      show (if _ then _ else _) = _
      rw [if_pos hz]; rfl
    · cases h
  · split at h
    · rename_i xs k hz
      cases h
      refine ⟨?_, Nat.le_refl _⟩
      show (if (shs p g.length xs).length ≤ 1000 ∧ shs p g.length xs ≠ [] ∧ 1 ≤ k ∧ k ≤ 1000 then _ else _) = _
      rw [len_shs, if_pos ⟨hz.1, fun e => hz.2.1 (List.eq_nil_of_length_eq_zero (by rw [← len_shs p g.length, e]; rfl)), hz.2.2⟩]
      simp only [sW, W.sh, rep_shs]
    · cases h
  · split at h
    · rename_i n k _ xs e
      split at h
      · rename_i hz
        cases h
        refine ⟨?_, Nat.le_refl _⟩
        show (match (shS p g S)[shN p g.length n]? with
          | some (.lst xs) => if xs.length * k.toNat ≤ lineN ∧ -1000 ≤ k ∧ k ≤ 1000 then some (W.lst (rep k.toNat xs), shS p g S) else none
          | _ => none) = _
        rw [shS_get hp, e]
        simp only [Option.map_some, Ob.sh]
        rw [len_shs, if_pos hz]
        simp only [sW, W.sh, rep_shs]
      · cases h
    · cases h
  · cases h
theorem co_bin (o : Bop) (a b : W) : Co p g (sW p g) (wBin o a b) (wBin o (sW p g a) (sW p g b)) := by
  cases o with
  | add => exact co_add a b
  | mul => exact co_mul a b
  | sub =>
    intro S c S2 hp h
    simp only [wBin] at h
    unfold wSub at h
    split at h <;> cases h
    exact ⟨rfl, Nat.le_refl _⟩
  | mod =>
    intro S c S2 hp h
    simp only [wBin] at h
    unfold wMod at h
    split at h
    · split at h
      · rename_i hz
        cases h
        refine ⟨?_, Nat.le_refl _⟩
        show (if _ then _ else _) = _
        rw [if_pos hz]; rfl
      · cases h
    · cases h
  | fdiv =>
    intro S c S2 hp h
    simp only [wBin] at h
    unfold wFdiv at h
    split at h
    · split at h
      · rename_i hz
        cases h
        refine ⟨?_, Nat.le_refl _⟩
        show (if _ then _ else _) = _
        rw [if_pos hz]; rfl
      · cases h
    · cases h
  | pow =>
    intro S c S2 hp h
    simp only [wBin] at h
    unfold wPow at h
    split at h
    · split at h
      · rename_i hz
        cases h
        refine ⟨?_, Nat.le_refl _⟩
        show (if _ then _ else _) = _
        rw [if_pos hz]; rfl
      · cases h
    · cases h
theorem atOf_sh (ws : List W) (i : Int) : atOf (shs p g.length ws) i = (atOf ws i).map (sW p g) := by
  unfold atOf
  rw [len_shs]
  cases ixOf ws.length i with
  | none => rfl
  | some j => exact get_shs p g.length ws j
theorem co_ix (a b : W) : Co p g (sW p g) (wIx a b) (wIx (sW p g a) (sW p g b)) := by
  intro S c S2 hp h
  unfold wIx at h
  split at h
  · split at h
    · rename_i e
      cases h
      refine ⟨?_, Nat.le_refl _⟩
      show (match atOf _ _ with | some c => some (W.str ⟨#[c]⟩, shS p g S) | none => none) = _
      rw [e]; rfl
    · cases h
  · rename_i hno
    have e : wIx (sW p g a) (sW p g b) (shS p g S) = (match dictOf (shS p g S) (sW p g a) with
      | some (ks, us) => if keyFor ks (sW p g b) = true then (match dAt ks us (sW p g b) with
        | some u => some (u, shS p g S)
        | none => none) else none
      | none => match sW p g b, seqOf (shS p g S) (sW p g a) with
        | .int i, some xs => match atOf xs i with
          | some w => some (w, shS p g S)
          | none => none
        | _, _ => none) := by
      unfold wIx
      split
      · rename_i h1 h2
        exact (hno _ _ (sh_str h1) (sh_int h2)).elim
      · rfl
    rw [e]
    split at h
    · rename_i ks us hd
      split at h
      · rename_i hk
        split at h
        · rename_i u hu
          cases h
          rw [dictOf_sh hp hd]
          simp only
          rw [keyFor_sh, if_pos hk, dAt_sh, hu]
          exact ⟨rfl, Nat.le_refl _⟩
        · cases h
      · cases h
    · rename_i hd
      rw [dictOf_no hp hd]
      split at h
      · rename_i _ i xs e2
        split at h
        · rename_i w hw
          cases h
          rw [seqOf_sh hp e2]
          simp only [sW, W.sh]
          rw [show atOf (shs p g.length xs) i = _ from atOf_sh xs i, hw]
          exact ⟨rfl, Nat.le_refl _⟩
        · cases h
      · cases h
theorem cut_shs (k : Nat) (ws : List W) (lo hi : Option Int) : shs p k (cutOf ws lo hi) = cutOf (shs p k ws) lo hi := by
  unfold cutOf
  rw [len_shs]
  simp only [shs_map, List.map_take, List.map_drop]
theorem endOf_sh (a : W) : endOf (sW p g a) = endOf a := by cases a <;> rfl
theorem co_slc (a l h : W) : Co p g (sW p g) (wSlc a l h) (wSlc (sW p g a) (sW p g l) (sW p g h)) := by
  intro S c S2 hp hh
  unfold wSlc at hh ⊢
  rw [endOf_sh, endOf_sh]
  split at hh
  · rename_i lo hi e1 e2
    split at hh
    · cases hh; exact ⟨rfl, Nat.le_refl _⟩
    · rename_i xs
      cases hh
      refine ⟨?_, Nat.le_refl _⟩
      show some (W.tup (cutOf (shs p g.length xs) lo hi), _) = _
      simp only [sW, W.sh, cut_shs]
    · rename_i n1 n2
      split at hh
      · rename_i xs e
        cases hh
        have q := listOf_sh (g := g) hp e
        refine ⟨?_, Nat.le_refl _⟩
        cases a with
        | lst us =>
          cases e
          show some (W.lst (cutOf (shs p g.length xs) lo hi), _) = _
          simp only [sW, W.sh, cut_shs]
        | ref n =>
          have q : listOf (shS p g S) (W.ref (shN p g.length n)) = some (shs p g.length xs) := q
          show (match listOf (shS p g S) (W.ref (shN p g.length n)) with | some xs => some (W.lst (cutOf xs lo hi), shS p g S) | none => none) = _
          rw [q]
          simp only [sW, W.sh, cut_shs]
        | _ => cases e
      · cases hh
  · cases hh
theorem co_rev (a : W) : Co p g (sW p g) (wRev a) (wRev (sW p g a)) := by
  intro S c S2 hp h
  unfold wRev at h ⊢
  split at h
  · rename_i xs e
    have q := Co.new (p := p) (g := g) (.lst xs.reverse) S c S2 hp h
    rw [listOf_sh hp e]
    simp only [Ob.sh] at q
    have e2 : shs p g.length xs.reverse = (shs p g.length xs).reverse := by simp only [shs_map, List.map_reverse]
    rw [e2] at q
    exact q
  · cases h
theorem co_set (o i v : W) : Co p g id (wSet o i v) (wSet (sW p g o) (sW p g i) (sW p g v)) := by
  intro S c S2 hp h
  unfold wSet at h
  split at h
  · rename_i n
    show (match (shS p g S)[shN p g.length n]? with
      | some (.lst xs) => (match sW p g i with
        | .int k => (match ixOf xs.length k with
          | some j => some ((), (shS p g S).set (shN p g.length n) (.lst (xs.set j (sW p g v))))
          | none => none)
        | _ => none)
      | some (.dct ks us) => if keyFor ks (sW p g i) = true ∧ ks.length < lineN then some ((), (shS p g S).set (shN p g.length n) (.dct (dPut ks us (sW p g i) (sW p g v)).1 (dPut ks us (sW p g i) (sW p g v)).2)) else none
      | none => none) = _ ∧ _
    rw [shS_get hp]
    split at h
    · rename_i xs e
      rw [e]
      split at h
      · rename_i k
        split at h
        · rename_i j hj
          cases h
          simp only [Option.map_some, Ob.sh, sW, W.sh]
          rw [len_shs, hj]
          simp only
          rw [shS_set hp]
          refine ⟨?_, by simp⟩
          simp only [Ob.sh, set_shs]
        · cases h
      · cases h
    · rename_i ks us e
      rw [e]
      split at h
      · rename_i hk
        cases h
        simp only [Option.map_some, Ob.sh]
        rw [keyFor_sh, len_shs, if_pos hk, shS_set hp, dPut_sh]
        exact ⟨rfl, by simp⟩
      · cases h
    · cases h
  · cases h
theorem co_isi (k : Kinds) (a : W) : Co p g id (wIsi k a) (wIsi k (sW p g a)) := by
  intro S c S2 hp h
  cases a with
  | lst us => cases h; exact ⟨rfl, Nat.le_refl _⟩
  | ref n =>
    have h : (match listOf S (.ref n) with | some _ => some (k.list, S) | none => none) = some (c, S2) := h
    show (match listOf (shS p g S) (sW p g (.ref n)) with | some _ => some (k.list, shS p g S) | none => none) = _ ∧ _
    split at h
    · rename_i ws e
      cases h
      rw [listOf_sh hp e]
      exact ⟨rfl, Nat.le_refl _⟩
    · cases h
  | dct ks us => cases h
  | fn f => cases h
  | _ => cases h; exact ⟨rfl, Nat.le_refl _⟩
theorem co_isb (a : W) (b : Bool) : Co p g (sW p g) (wIsb a b) (wIsb (sW p g a) b) := by
  cases a with
  | bl c => exact Co.ret rfl
  | _ => exact Co.no
end
end TZ

set_option Elab.async false
set_option linter.all false
set_option maxRecDepth 100000
set_option maxHeartbeats 1000000
/-! A28: built-ins, methods, walks under a shift. -/
namespace TZ
open PySem

section
variable {p : Nat} {g : List Ob}
abbrev sWs (p : Nat) (g : List Ob) : List W → List W := shs p g.length
theorem bls_sh : ∀ {ws : List W} {bs : List Bool}, blsOf ws = some bs → shs p g.length ws = ws
  | [], _, _ => rfl
  | a :: as, bs, h => by
    cases a with
    | bl b =>
      simp only [blsOf] at h
      split at h
      · rename_i bs' e
        simp only [shs, W.sh, bls_sh e]
      · cases h
    | _ => simp [blsOf] at h
theorem ints_sh : ∀ {ws : List W} {bs : List Int}, intsOf ws = some bs → shs p g.length ws = ws
  | [], _, _ => rfl
  | a :: as, bs, h => by
    cases a with
    | int b =>
      simp only [intsOf] at h
      split at h
      · rename_i bs' e
        simp only [shs, W.sh, ints_sh e]
      · cases h
    | _ => simp [intsOf] at h
theorem setable_sh (ws : List W) : setable (shs p g.length ws) = setable ws := by
  unfold setable
  rw [all_shs p g.length _ (leaf_sh p g.length), all_shs p g.length _ (tkey_sh p g.length), len_shs]
theorem dedup_sh : ∀ ws : List W, shs p g.length (wDedup ws) = wDedup (shs p g.length ws)
  | [] => rfl
  | w :: ws => by
    simp only [wDedup, shs]
    rw [← dedup_sh ws]
    congr 1
    simp only [shs_map, List.filter_map]
    congr 1
    apply List.filter_congr
    intro a _
    show (!W.eqv w a) = !W.eqv (W.sh p g.length w) (W.sh p g.length a)
    rw [eqv_sh]
theorem wSort_sh {ws us : List W} (h : wSort ws = some us) : shs p g.length ws = ws ∧ shs p g.length us = us := by
  unfold wSort at h
  split at h
  · rename_i hc
    cases h
    refine ⟨flats_sh g.length ws 30 hc.1, ?_⟩
    have hall : ∀ a ∈ ws, W.sh p g.length a = a := by
      intro a ha
      have e := flats_sh (p := p) g.length ws 30 hc.1
      rw [shs_map] at e
      have := List.map_eq_map_iff.mp (show ws.map (W.sh p g.length) = ws.map id by rw [e]; simp)
      exact this a ha
    rw [shs_map]
    have : ∀ a ∈ ws.mergeSort wLe2, W.sh p g.length a = id a := fun a ha => hall a ((List.mem_mergeSort).mp ha)
    rw [List.map_congr_left this]; simp
  · cases h
theorem co_blt (b : Blt) (as : List W) : Co p g (sW p g) (wBlt b as) (wBlt b (sWs p g as)) := by
  have nw : ∀ (xs : List W) (S : Sto) (c : W) (S2 : Sto), p ≤ S.length → M.new (.lst xs) S = some (c, S2) → M.new (.lst (shs p g.length xs)) (shS p g S) = some (sW p g c, shS p g S2) ∧ S.length ≤ S2.length := fun xs S c S2 hp h => Co.new (p := p) (g := g) (.lst xs) S c S2 hp h
  cases b with
  | len =>
    intro S c S2 hp h
    simp only [wBlt] at h ⊢
    unfold bLen at h
    split at h
    · cases h; exact ⟨rfl, Nat.le_refl _⟩
    · rename_i w hno
      split at h
      · rename_i ws e
        cases h
        refine ⟨?_, Nat.le_refl _⟩
        have q := seqOf_sh (g := g) hp e
        simp only [shs]
        unfold bLen
        split
        · rename_i x hx
          simp only [List.cons.injEq, and_true] at hx
          exact (hno x (sh_str hx)).elim
        · rename_i w' hx
          simp only [List.cons.injEq, and_true] at hx
          subst hx
          rw [q]
          simp only
          rw [len_shs]; rfl
        · rename_i hx; exact (hx _ rfl).elim
      · cases h
    · cases h
  | lenset =>
    intro S c S2 hp h
    simp only [wBlt] at h ⊢
    unfold bLenset at h
    split at h
    · rename_i w
      split at h
      · rename_i ws e
        split at h
        · rename_i hs
          cases h
          refine ⟨?_, Nat.le_refl _⟩
          simp only [shs, bLenset]
          rw [seqOf_sh hp e]
          simp only
          rw [setable_sh, if_pos hs, ← dedup_sh, len_shs]; rfl
        · cases h
      · cases h
    · cases h
  | list =>
    intro S c S2 hp h
    simp only [wBlt] at h ⊢
    unfold bList at h
    split at h
    · rename_i w
      split at h
      · rename_i ws e
        simp only [shs, bList]
        rw [seqOf_sh hp e]
        exact nw ws S c S2 hp h
      · cases h
    · cases h
  | tuple =>
    intro S c S2 hp h
    simp only [wBlt] at h ⊢
    unfold bTuple at h
    split at h
    · rename_i w
      split at h
      · rename_i ws e
        cases h
        simp only [shs, bTuple]
        rw [seqOf_sh hp e]
        exact ⟨rfl, Nat.le_refl _⟩
      · cases h
    · cases h
  | sorted =>
    intro S c S2 hp h
    simp only [wBlt] at h ⊢
    unfold bSorted at h
    split at h
    · rename_i w
      simp only [shs, bSorted]
      split at h
      · rename_i ks us e
        rw [dictOf_sh hp e]
        simp only
        split at h
        · rename_i hl
          rw [all_shs p g.length _ (leaf_sh p g.length), if_pos hl]
          split at h
          · rename_i us' e2
            obtain ⟨q1, q2⟩ := wSort_sh (p := p) (g := g) e2
            rw [q1, e2]
            have := nw us' S c S2 hp h
            rw [q2] at this
            exact this
          · cases h
        · cases h
      · rename_i e
        rw [dictOf_no hp e]
        simp only
        split at h
        · rename_i ws e3
          rw [listOf_sh hp e3]
          simp only
          split at h
          · rename_i us' e2
            obtain ⟨q1, q2⟩ := wSort_sh (p := p) (g := g) e2
            rw [q1, e2]
            have := nw us' S c S2 hp h
            rw [q2] at this
            exact this
          · cases h
        · cases h
    · cases h
  | sortset =>
    intro S c S2 hp h
    simp only [wBlt] at h ⊢
    unfold bSortset at h
    split at h
    · rename_i w
      simp only [shs, bSortset]
      split at h
      · rename_i ws e3
        rw [seqOf_sh hp e3]
        simp only
        split at h
        · rename_i hs
          rw [setable_sh, if_pos hs]
          split at h
          · rename_i us' e2
            obtain ⟨q1, q2⟩ := wSort_sh (p := p) (g := g) e2
            rw [← dedup_sh, q1, e2]
            have := nw us' S c S2 hp h
            rw [q2] at this
            exact this
          · cases h
        · cases h
      · cases h
    · cases h
  | all =>
    intro S c S2 hp h
    simp only [wBlt] at h ⊢
    unfold bAll at h
    split at h
    · rename_i w
      split at h
      · rename_i bs e
        cases h
        obtain ⟨ws, e1, e2⟩ := Option.bind_eq_some_iff.mp e
        simp only [shs, bAll]
        rw [listOf_sh hp e1, Option.bind_some, bls_sh e2, e2]
        exact ⟨rfl, Nat.le_refl _⟩
      · cases h
    · cases h
  | any =>
    intro S c S2 hp h
    simp only [wBlt] at h ⊢
    unfold bAny at h
    split at h
    · rename_i w
      split at h
      · rename_i bs e
        cases h
        obtain ⟨ws, e1, e2⟩ := Option.bind_eq_some_iff.mp e
        simp only [shs, bAny]
        rw [listOf_sh hp e1, Option.bind_some, bls_sh e2, e2]
        exact ⟨rfl, Nat.le_refl _⟩
      · cases h
    · cases h
  | max1 =>
    intro S c S2 hp h
    simp only [wBlt] at h ⊢
    unfold bMax1 at h
    split at h
    · rename_i w
      split at h
      · rename_i bs e
        obtain ⟨ws, e1, e2⟩ := Option.bind_eq_some_iff.mp e
        split at h
        · rename_i m e3
          cases h
          simp only [shs, bMax1]
          rw [listOf_sh hp e1, Option.bind_some, ints_sh e2, e2]
          simp only [e3]
          exact ⟨rfl, Nat.le_refl _⟩
        · cases h
      · cases h
    · cases h
  | max2 =>
    intro S c S2 hp h
    simp only [wBlt] at h ⊢
    unfold bMax2 at h
    split at h <;> cases h
    exact ⟨rfl, Nat.le_refl _⟩
  | min2 =>
    intro S c S2 hp h
    simp only [wBlt] at h ⊢
    unfold bMin2 at h
    split at h <;> cases h
    exact ⟨rfl, Nat.le_refl _⟩
  | int =>
    intro S c S2 hp h
    simp only [wBlt] at h ⊢
    unfold bInt at h
    split at h <;> cases h
    exact ⟨rfl, Nat.le_refl _⟩
  | bool =>
    intro S c S2 hp h
    simp only [wBlt] at h ⊢
    unfold bBool at h
    split at h <;> cases h
    exact ⟨rfl, Nat.le_refl _⟩
  | dict =>
    intro S c S2 hp h
    simp only [wBlt] at h ⊢
    unfold bDict at h
    split at h
    · rename_i w
      split at h
      · rename_i ks us e
        simp only [shs, bDict]
        rw [dictOf_sh hp e]
        exact Co.new (p := p) (g := g) (.dct ks us) S c S2 hp h
      · cases h
    · cases h
  | sortkey => exact Co.no
  | str => exact Co.no
end
end TZ

set_option Elab.async false
set_option linter.all false
set_option maxRecDepth 100000
set_option maxHeartbeats 1000000
/-! A29: methods, walks, comprehensions under a shift. -/
namespace TZ
open PySem

section
variable {p : Nat} {g : List Ob}
theorem lstAt_sh {S : Sto} (hp : p ≤ S.length) {n : Nat} {ws : List W} (h : S[n]? = some (.lst ws)) : (shS p g S)[shN p g.length n]? = some (.lst (shs p g.length ws)) := by
  rw [shS_get hp, h]; rfl
theorem co_recv (m : Mth) (o : W) : Co p g id (wRecv m o) (wRecv m (sW p g o)) := by
  intro S c S2 hp h
  have l : (if (listOf S o).isSome = true then some ((), S) else none) = some (c, S2) → (if (listOf (shS p g S) (sW p g o)).isSome = true then some ((), shS p g S) else none) = some (c, shS p g S2) ∧ S.length ≤ S2.length := by
    intro h
    split at h
    · rename_i e
      cases h
      obtain ⟨ws, hw⟩ := Option.isSome_iff_exists.mp e
      rw [listOf_sh hp hw]
      exact ⟨rfl, Nat.le_refl _⟩
    · cases h
  have d : (if (dictOf S o).isSome = true then some ((), S) else none) = some (c, S2) → (if (dictOf (shS p g S) (sW p g o)).isSome = true then some ((), shS p g S) else none) = some (c, shS p g S2) ∧ S.length ≤ S2.length := by
    intro h
    split at h
    · rename_i e
      cases h
      obtain ⟨⟨ks, us⟩, hw⟩ := Option.isSome_iff_exists.mp e
      rw [dictOf_sh hp hw]
      exact ⟨rfl, Nat.le_refl _⟩
    · cases h
  cases m with
  | append => exact l h
  | pop0 => exact l h
  | pop1 => exact l h
  | insert => exact l h
  | get1 => exact d h
  | get2 => exact d h
  | join =>
    cases o <;> first | (cases h; exact ⟨rfl, Nat.le_refl _⟩) | cases h
  | split =>
    cases o <;> first | (cases h; exact ⟨rfl, Nat.le_refl _⟩) | cases h
  | ljust =>
    cases o <;> first | (cases h; exact ⟨rfl, Nat.le_refl _⟩) | cases h
theorem co_mth (m : Mth) (o : W) (as : List W) : Co p g (sW p g) (wMth m o as) (wMth m (sW p g o) (sWs p g as)) := by
  cases m with
  | append =>
    intro S c S2 hp h
    simp only [wMth] at h ⊢
    unfold mAppend at h
    split at h
    · rename_i n w
      split at h
      · rename_i ws e
        split at h
        · rename_i hz
          cases h
          simp only [shs, sW, W.sh, mAppend]
          rw [lstAt_sh hp e]
          simp only
          rw [len_shs, if_pos hz, shS_set hp]
          refine ⟨?_, by simp⟩
          simp only [Ob.sh, app_shs, shs, W.sh]
        · cases h
      · cases h
    · cases h
  | pop0 =>
    intro S c S2 hp h
    simp only [wMth] at h ⊢
    unfold mPop0 at h
    split at h
    · rename_i n
      split at h
      · rename_i ws e
        split at h
        · rename_i w hw
          cases h
          simp only [shs, sW, W.sh, mPop0]
          rw [lstAt_sh hp e]
          simp only
          rw [len_shs, get_shs, hw, shS_set hp]
          refine ⟨?_, by simp⟩
          simp only [Option.map_some, Ob.sh]
          have : shs p g.length ws.dropLast = (shs p g.length ws).dropLast := by simp only [shs_map, List.map_dropLast]
          rw [this]
        · cases h
      · cases h
    · cases h
  | pop1 =>
    intro S c S2 hp h
    simp only [wMth] at h ⊢
    unfold mPop1 at h
    split at h
    · rename_i n i
      split at h
      · rename_i ws e
        split at h
        · rename_i k hk
          split at h
          · rename_i w hw
            cases h
            simp only [shs, sW, W.sh, mPop1]
            rw [lstAt_sh hp e]
            simp only
            rw [len_shs, hk]
            simp only
            rw [get_shs, hw, shS_set hp]
            refine ⟨?_, by simp⟩
            simp only [Option.map_some, Ob.sh]
            have : shs p g.length (ws.eraseIdx k) = (shs p g.length ws).eraseIdx k := by rw [shs_map, shs_map, List.eraseIdx_eq_take_drop_succ, List.eraseIdx_eq_take_drop_succ]; simp
            rw [this]
          · cases h
        · cases h
      · cases h
    · cases h
  | insert =>
    intro S c S2 hp h
    simp only [wMth] at h ⊢
    unfold mInsert at h
    split at h
    · rename_i n i w
      split at h
      · rename_i ws e
        split at h
        · rename_i hz
          cases h
          simp only [shs, sW, W.sh, mInsert]
          rw [lstAt_sh hp e]
          simp only
          rw [len_shs, if_pos hz, shS_set hp]
          refine ⟨?_, by simp⟩
          simp only [Ob.sh]
          have : shs p g.length (ws.take i.toNat ++ w :: ws.drop i.toNat) = (shs p g.length ws).take i.toNat ++ W.sh p g.length w :: (shs p g.length ws).drop i.toNat := by simp only [shs_map, List.map_append, List.map_take, List.map_drop, List.map_cons]
          rw [this]
        · cases h
      · cases h
    · cases h
  | get1 =>
    intro S c S2 hp h
    simp only [wMth] at h ⊢
    unfold mGet1 at h
    split at h
    · rename_i k
      split at h
      · rename_i ks us e
        split at h
        · rename_i hk
          cases h
          simp only [shs, mGet1]
          rw [dictOf_sh hp e]
          simp only
          rw [keyFor_sh, if_pos hk, dAt_sh]
          refine ⟨?_, Nat.le_refl _⟩
          cases dAt ks us k <;> rfl
        · cases h
      · cases h
    · cases h
  | get2 =>
    intro S c S2 hp h
    simp only [wMth] at h ⊢
    unfold mGet2 at h
    split at h
    · rename_i k d
      split at h
      · rename_i ks us e
        split at h
        · rename_i hk
          cases h
          simp only [shs, mGet2]
          rw [dictOf_sh hp e]
          simp only
          rw [keyFor_sh, if_pos hk, dAt_sh]
          refine ⟨?_, Nat.le_refl _⟩
          cases dAt ks us k <;> rfl
        · cases h
      · cases h
    · cases h
  | join => exact Co.no
  | split => exact Co.no
  | ljust => exact Co.no

/-! ### slots -/
def shR (p : Nat) (g : List Ob) (ρ : Rho) : Rho := ρ.map (Option.map (sW p g))
theorem shR_get (ρ : Rho) (i : Nat) : (shR p g ρ)[i]? = (ρ[i]?).map (Option.map (sW p g)) := by unfold shR; rw [List.getElem?_map]
theorem shR_set (ρ : Rho) (i : Nat) (w : W) : shR p g (ρ.set i (some w)) = (shR p g ρ).set i (some (sW p g w)) := by unfold shR; rw [List.map_set]; rfl
theorem shR_wipe (ρ : Rho) : ∀ vs : List Nat, shR p g (wipeR ρ vs) = wipeR (shR p g ρ) vs
  | [] => rfl
  | v :: vs => by
    simp only [wipeR]
    rw [← shR_wipe ρ vs]
    unfold shR
    rw [List.map_set]; rfl
theorem co_rho (i : Nat) (ρ : Rho) : Co p g (sW p g) (rhoAt i ρ) (rhoAt i (shR p g ρ)) := by
  intro S c S2 hp h
  unfold rhoAt at h ⊢
  split at h
  · rename_i w e
    cases h
    rw [shR_get, e]
    exact ⟨rfl, Nat.le_refl _⟩
  · cases h
theorem co_items (w : W) : Co p g (sWs p g) (itemsOf w) (itemsOf (sW p g w)) := by
  intro S c S2 hp h
  unfold itemsOf at h ⊢
  split at h
  · rename_i ws e
    cases h
    rw [seqOf_sh hp e]
    exact ⟨rfl, Nat.le_refl _⟩
  · cases h
def sPr (p : Nat) (g : List Ob) (q : List W × List W) : List W × List W := (shs p g.length q.1, shs p g.length q.2)
theorem co_pairs (w : W) : Co p g (sPr p g) (pairsOf w) (pairsOf (sW p g w)) := by
  intro S c S2 hp h
  unfold pairsOf at h ⊢
  split at h
  · rename_i q e
    cases h
    obtain ⟨ks, us⟩ := c
    rw [dictOf_sh hp e]
    exact ⟨rfl, Nat.le_refl _⟩
  · cases h
/-! ### walks -/
def shSrc (p : Nat) (g : List Ob) (src : List (Nat × Ob)) : List (Nat × Ob) := src.map fun q => (shN p g.length q.1, Ob.sh p g.length q.2)
def sIt (p : Nat) (g : List Ob) (q : List W × List (Nat × Ob)) : List W × List (Nat × Ob) := (shs p g.length q.1, shSrc p g q.2)
theorem stands_sh {S : Sto} (hp : p ≤ S.length) {src : List (Nat × Ob)} (h : stands S src = true) : stands (shS p g S) (shSrc p g src) = true := by
  unfold stands shSrc at *
  rw [List.all_map, List.all_eq_true] at *
  intro q hq
  have := of_decide_eq_true (h q hq)
  refine decide_eq_true ?_
  show (shS p g S)[shN p g.length q.1]? = some (Ob.sh p g.length q.2)
  rw [shS_get hp, this]; rfl
theorem src_sh {S : Sto} (hp : p ≤ S.length) (a : W) : srcOf (shS p g S) (sW p g a) = shSrc p g (srcOf S a) := by
  cases a with
  | ref n =>
    show (match (shS p g S)[shN p g.length n]? with | some o => [(shN p g.length n, o)] | none => []) = _
    rw [shS_get hp]
    cases e : S[n]? <;> simp [srcOf, shSrc, e]
  | _ => rfl
theorem co_iter (w : W) : Co p g (sIt p g) (wIter w) (wIter (sW p g w)) := by
  intro S c S2 hp h
  unfold wIter at h
  split at h
  · rename_i x
    cases h
    refine ⟨?_, Nat.le_refl _⟩
    show some ((_, _), _) = _
    simp only [sIt, shSrc, List.map_nil, shs_map, List.map_map]
    congr 3
  · rename_i hno
    have e0 : wIter (sW p g w) (shS p g S) = (match dictOf (shS p g S) (sW p g w) with
      | some (ks, _) => some ((ks, srcOf (shS p g S) (sW p g w)), shS p g S)
      | none => match seqOf (shS p g S) (sW p g w) with
        | some ws => some ((ws, srcOf (shS p g S) (sW p g w)), shS p g S)
        | none => none) := by
      unfold wIter
      split
      · rename_i h1; exact (hno _ (sh_str h1)).elim
      · rfl
    rw [e0, src_sh hp]
    split at h
    · rename_i ks us e
      cases h
      rw [dictOf_sh hp e]
      exact ⟨rfl, Nat.le_refl _⟩
    · rename_i e
      rw [dictOf_no hp e]
      split at h
      · rename_i ws e2
        cases h
        rw [seqOf_sh hp e2]
        exact ⟨rfl, Nat.le_refl _⟩
      · cases h
theorem ints_id (f : Nat → Int) (l : List Nat) : shs p g.length (l.map fun i => W.int (f i)) = l.map fun i => W.int (f i) := by
  rw [shs_map, List.map_map]; congr 1
theorem co_rng1 (w : W) : Co p g (sIt p g) (wRng1 w) (wRng1 (sW p g w)) := by
  intro S c S2 hp h
  unfold wRng1 at h
  split at h
  · rename_i n
    split at h
    · rename_i hn
      have e : some (((List.range n.toNat).map fun (i : Nat) => W.int (Int.ofNat i), ([] : List (Nat × Ob))), S) = some (c, S2) := h
      cases e
      refine ⟨?_, Nat.le_refl _⟩
      show (if -4000000 ≤ n ∧ n ≤ 4000000 then M.ret ((List.range n.toNat).map fun (i : Nat) => W.int (Int.ofNat i), ([] : List (Nat × Ob))) else M.no) (shS p g S) = _
      rw [if_pos hn]
      show some ((_, _), _) = some (sIt p g (_, _), _)
      simp only [sIt, shSrc, List.map_nil]
      rw [show shs p g.length ((List.range n.toNat).map fun (i : Nat) => W.int (Int.ofNat i)) = _ from ints_id (fun i => Int.ofNat i) _]
    · cases h
  · cases h
theorem co_rng2 (w v : W) : Co p g (sIt p g) (wRng2 w v) (wRng2 (sW p g w) (sW p g v)) := by
  intro S c S2 hp h
  unfold wRng2 at h
  split at h
  · rename_i i j
    split at h
    · rename_i hn
      have e : some (((List.range (j - i).toNat).map fun (k : Nat) => W.int (i + Int.ofNat k), ([] : List (Nat × Ob))), S) = some (c, S2) := h
      cases e
      refine ⟨?_, Nat.le_refl _⟩
      show (if -4000000 ≤ i ∧ i ≤ 4000000 ∧ -4000000 ≤ j ∧ j ≤ 4000000 then M.ret ((List.range (j - i).toNat).map fun (k : Nat) => W.int (i + Int.ofNat k), ([] : List (Nat × Ob))) else M.no) (shS p g S) = _
      rw [if_pos hn]
      show some ((_, _), _) = some (sIt p g (_, _), _)
      simp only [sIt, shSrc, List.map_nil]
      rw [show shs p g.length ((List.range (j - i).toNat).map fun (k : Nat) => W.int (i + Int.ofNat k)) = _ from ints_id (fun k => i + Int.ofNat k) _]
    · cases h
  · cases h
theorem zw_sh (us ws : List W) : shs p g.length (List.zipWith (fun u v => W.tup [u, v]) us ws) = List.zipWith (fun u v => W.tup [u, v]) (shs p g.length us) (shs p g.length ws) := by
  simp only [shs_map]
  rw [List.map_zipWith, List.zipWith_map]
  congr 1
theorem co_enum (w : W) : Co p g (sIt p g) (wEnum w) (wEnum (sW p g w)) := by
  intro S c S2 hp h
  unfold wEnum at h ⊢
  split at h
  · rename_i ws e
    cases h
    rw [seqOf_sh hp e, src_sh hp]
    refine ⟨?_, Nat.le_refl _⟩
    simp only [sIt]
    congr 3
    simp only [shs_map, List.map_map, List.zipIdx_map]
    congr 1
  · cases h
theorem co_zip (a b : W) : Co p g (sIt p g) (wZip a b) (wZip (sW p g a) (sW p g b)) := by
  intro S c S2 hp h
  unfold wZip at h
  split at h
  · rename_i us ws
    split at h
    · rename_i hz
      cases h
      simp only [sW, W.sh, wZip, len_shs]
      rw [if_pos hz]
      refine ⟨?_, Nat.le_refl _⟩
      simp only [sIt, zw_sh]
      rfl
    · cases h
  · rename_i hno
    split at h
    · rename_i us ws e1 e2
      split at h
      · rename_i hz
        cases h
        have hno2 : ∀ us ws, sW p g a = .tup us → sW p g b = .tup ws → False := fun us ws h1 h2 => by
          cases a <;> simp only [sW, W.sh, reduceCtorEq] at h1
          cases b <;> simp only [sW, W.sh, reduceCtorEq] at h2
          exact hno _ _ rfl rfl
        unfold wZip
        split
        · rename_i h1 h2
          exact (hno2 _ _ h1 h2).elim
        · rw [show listOf (shS p g S) (sW p g a) = _ from listOf_sh hp e1, show listOf (shS p g S) (sW p g b) = _ from listOf_sh hp e2, src_sh hp, src_sh hp]
          simp only [len_shs]
          rw [if_pos hz]
          refine ⟨?_, Nat.le_refl _⟩
          simp only [sIt, zw_sh]
          congr 3
          unfold shSrc
          rw [List.map_append]
      · cases h
    · cases h
theorem co_itemsD (w : W) : Co p g (sIt p g) (itemsD w) (itemsD (sW p g w)) := by
  intro S c S2 hp h
  unfold itemsD at h ⊢
  split at h
  · rename_i ks us e
    cases h
    rw [dictOf_sh hp e, src_sh hp]
    refine ⟨?_, Nat.le_refl _⟩
    simp only [sIt, zw_sh]
  · cases h
/-! ### targets -/
mutual
theorem put_sh : ∀ (t : P) (w : W) (ρ ρ' : Rho), P.put t w ρ = some ρ' → P.put t (sW p g w) (shR p g ρ) = some (shR p g ρ')
  | .nm i, w, ρ, ρ', h => by
    simp only [P.put] at h ⊢
    cases h
    rw [shR_set]
  | .tp ps, .tup ws, ρ, ρ', h => by
    simp only [P.put] at h
    simp only [sW, W.sh, P.put]
    exact puts_sh ps ws ρ ρ' h
  | .tp ps, .non, ρ, ρ', h => by simp [P.put] at h
  | .tp ps, .bl _, ρ, ρ', h => by simp [P.put] at h
  | .tp ps, .int _, ρ, ρ', h => by simp [P.put] at h
  | .tp ps, .str _, ρ, ρ', h => by simp [P.put] at h
  | .tp ps, .lst _, ρ, ρ', h => by simp [P.put] at h
  | .tp ps, .dct _ _, ρ, ρ', h => by simp [P.put] at h
  | .tp ps, .ref _, ρ, ρ', h => by simp [P.put] at h
  | .tp ps, .fn _, ρ, ρ', h => by simp [P.put] at h
  | .nil, w, ρ, ρ', h => by simp [P.put] at h
  | .cons a b, w, ρ, ρ', h => by simp [P.put] at h
theorem puts_sh : ∀ (t : P) (ws : List W) (ρ ρ' : Rho), P.puts t ws ρ = some ρ' → P.puts t (sWs p g ws) (shR p g ρ) = some (shR p g ρ')
  | .nil, [], ρ, ρ', h => by simp only [P.puts] at h; cases h; rfl
  | .cons t ts, w :: ws, ρ, ρ', h => by
    simp only [P.puts] at h
    split at h
    · rename_i ρ1 e
      simp only [sWs, shs, P.puts]
      rw [show P.put t (W.sh p g.length w) (shR p g ρ) = _ from put_sh t w ρ ρ1 e]
      exact puts_sh ts ws ρ1 ρ' h
    · cases h
  | .nil, _ :: _, ρ, ρ', h => by simp [P.puts] at h
  | .cons _ _, [], ρ, ρ', h => by simp [P.puts] at h
  | .nm _, ws, ρ, ρ', h => by cases ws <;> simp [P.puts] at h
  | .tp _, ws, ρ, ρ', h => by cases ws <;> simp [P.puts] at h
end
end
end TZ

set_option Elab.async false
set_option linter.all false
set_option maxRecDepth 100000
set_option maxHeartbeats 2000000
/-! A30: the small terms under a shift. -/
namespace TZ
open PySem

section
variable {p : Nat} {g : List Ob}
theorem co_comp {src : List (Nat × Ob)} {f f' : W → M (List W)} (hf : ∀ x, Co p g (sWs p g) (f x) (f' (sW p g x))) : ∀ xs : List W, Co p g (sWs p g) (compL src f xs) (compL (shSrc p g src) f' (sWs p g xs))
  | [] => by
    intro S c S2 hp h
    simp only [compL] at h
    simp only [sWs, shs, compL]
    split at h
    · rename_i hs
      cases h
      rw [if_pos (stands_sh hp hs)]
      exact ⟨rfl, Nat.le_refl _⟩
    · cases h
  | x :: xs => by
    intro S c S2 hp h
    simp only [compL] at h
    simp only [sWs, shs, compL]
    split at h
    · rename_i hs
      rw [if_pos (stands_sh hp hs)]
      split at h
      · rename_i ys S1 e1
        obtain ⟨q1, q2⟩ := hf x S ys S1 hp e1
        rw [show f' (W.sh p g.length x) (shS p g S) = _ from q1]
        simp only
        split at h
        · rename_i zs S3 e2
          cases h
          obtain ⟨q3, q4⟩ := co_comp hf xs S1 zs _ (by omega) e2
          rw [show compL (shSrc p g src) f' (shs p g.length xs) (shS p g S1) = _ from q3]
          exact ⟨by simp only [sWs, app_shs], by omega⟩
        · cases h
      · cases h
    · cases h
def sKV (p : Nat) (g : List Ob) (o : Option (W × W)) : Option (W × W) := o.map fun q => (sW p g q.1, sW p g q.2)
theorem co_dcl {src : List (Nat × Ob)} {f f' : W → M (Option (W × W))} (hf : ∀ x, Co p g (sKV p g) (f x) (f' (sW p g x))) : ∀ (xs : List W) (q : List W × List W), Co p g (sPr p g) (dcL src f xs q) (dcL (shSrc p g src) f' (sWs p g xs) (sPr p g q))
  | [], q => by
    intro S c S2 hp h
    simp only [dcL] at h
    simp only [sWs, shs, dcL]
    split at h
    · rename_i hs
      cases h
      rw [if_pos (stands_sh hp hs)]
      exact ⟨rfl, Nat.le_refl _⟩
    · cases h
  | x :: xs, q => by
    intro S c S2 hp h
    simp only [dcL] at h
    simp only [sWs, shs, dcL]
    split at h
    · rename_i hs
      rw [if_pos (stands_sh hp hs)]
      split at h
      · rename_i k v S1 e1
        obtain ⟨q1, q2⟩ := hf x S _ S1 hp e1
        rw [show f' (W.sh p g.length x) (shS p g S) = _ from q1]
        simp only [sKV, Option.map_some]
        split at h
        · rename_i hk
          obtain ⟨q3, q4⟩ := co_dcl hf xs _ S1 c S2 (by omega) h
          have hk' : keyFor (sPr p g q).1 (sW p g k) = true := (keyFor_sh _ _ _ _).trans hk
          rw [if_pos hk']
          simp only [sPr] at q3 ⊢
          rw [dPut_sh]
          exact ⟨q3, by omega⟩
        · cases h
      · rename_i S1 e1
        obtain ⟨q1, q2⟩ := hf x S _ S1 hp e1
        rw [show f' (W.sh p g.length x) (shS p g S) = _ from q1]
        simp only [sKV, Option.map_none]
        obtain ⟨q3, q4⟩ := co_dcl hf xs q S1 c S2 (by omega) h
        exact ⟨q3, by omega⟩
      · cases h
    · cases h
/-- a term's meaning under a shift -/
structure DCo (p : Nat) (g : List Ob) (z : Dn) : Prop where
  v : ∀ ρ, Co p g (sW p g) (z.v ρ) (z.v (shR p g ρ))
  a : ∀ ρ, Co p g (sWs p g) (z.a ρ) (z.a (shR p g ρ))
  d : ∀ ρ q, Co p g (sPr p g) (z.d ρ q) (z.d (shR p g ρ) (sPr p g q))
  it : ∀ ρ, Co p g (sIt p g) (z.it ρ) (z.it (shR p g ρ))
theorem DCo.ofV {m : Rho → M W} (h : ∀ ρ, Co p g (sW p g) (m ρ) (m (shR p g ρ))) : DCo p g { v := m } := ⟨h, fun _ => Co.no, fun _ _ => Co.no, fun _ => Co.no⟩
theorem DCo.ofA {m : Rho → M (List W)} (h : ∀ ρ, Co p g (sWs p g) (m ρ) (m (shR p g ρ))) : DCo p g { a := m } := ⟨fun _ => Co.no, h, fun _ _ => Co.no, fun _ => Co.no⟩
theorem DCo.ofD {m : Rho → List W × List W → M (List W × List W)} (h : ∀ ρ q, Co p g (sPr p g) (m ρ q) (m (shR p g ρ) (sPr p g q))) : DCo p g { d := m } := ⟨fun _ => Co.no, fun _ => Co.no, h, fun _ => Co.no⟩
theorem DCo.ofI {m : Rho → M (List W × List (Nat × Ob))} (h : ∀ ρ, Co p g (sIt p g) (m ρ) (m (shR p g ρ))) : DCo p g { it := m } := ⟨fun _ => Co.no, fun _ => Co.no, fun _ _ => Co.no, h⟩
theorem co_turn {t : P} {vs : List Nat} {ρ : Rho} {c e : Dn} (hc : DCo p g c) (he : DCo p g e) (x : W) : Co p g (sWs p g) (turnOf t vs ρ c e x) (turnOf t vs (shR p g ρ) c e (sW p g x)) := by
  intro S r S2 hp h
  unfold turnOf at h ⊢
  rw [← shR_wipe]
  split at h
  · rename_i ρ' e1
    rw [put_sh t x _ ρ' e1]
    simp only
    split at h
    · rename_i S1 e2
      obtain ⟨q1, q2⟩ := (hc.v ρ').truth S _ S1 hp e2
      rw [q1]
      simp only [id]
      split at h
      · rename_i w S3 e3
        cases h
        obtain ⟨q3, q4⟩ := he.v ρ' S1 w _ (by omega) e3
        rw [q3]
        exact ⟨rfl, by omega⟩
      · cases h
    · rename_i S1 e2
      cases h
      obtain ⟨q1, q2⟩ := (hc.v ρ').truth S _ _ hp e2
      rw [q1]
      exact ⟨rfl, q2⟩
    · cases h
  · cases h
theorem co_turnD {t : P} {vs : List Nat} {ρ : Rho} {c k v : Dn} (hc : DCo p g c) (hk : DCo p g k) (hv : DCo p g v) (x : W) : Co p g (sKV p g) (turnD t vs ρ c k v x) (turnD t vs (shR p g ρ) c k v (sW p g x)) := by
  intro S r S2 hp h
  unfold turnD at h ⊢
  rw [← shR_wipe]
  split at h
  · rename_i ρ' e1
    rw [put_sh t x _ ρ' e1]
    simp only
    split at h
    · rename_i S1 e2
      obtain ⟨q1, q2⟩ := (hc.v ρ').truth S _ S1 hp e2
      rw [q1]
      simp only [id]
      split at h
      · rename_i kw S3 e3
        obtain ⟨q3, q4⟩ := hk.v ρ' S1 kw S3 (by omega) e3
        rw [q3]
        simp only
        split at h
        · rename_i w S4 e4
          cases h
          obtain ⟨q5, q6⟩ := hv.v ρ' S3 w _ (by omega) e4
          rw [q5]
          exact ⟨rfl, by omega⟩
        · cases h
      · cases h
    · rename_i S1 e2
      cases h
      obtain ⟨q1, q2⟩ := (hc.v ρ').truth S _ _ hp e2
      rw [q1]
      exact ⟨rfl, q2⟩
    · cases h
  · cases h
theorem co_turn2 {t t1 : P} {vs vs1 : List Nat} {ρ : Rho} {c it1 c1 e : Dn} (hc : DCo p g c) (hi : DCo p g it1) (hc1 : DCo p g c1) (he : DCo p g e) (x : W) : Co p g (sWs p g) (turn2 t vs vs1 ρ c t1 it1 c1 e x) (turn2 t vs vs1 (shR p g ρ) c t1 it1 c1 e (sW p g x)) := by
  intro S r S2 hp h
  unfold turn2 at h ⊢
  rw [← shR_wipe]
  split at h
  · rename_i ρ' e1
    rw [put_sh t x _ ρ' e1]
    simp only
    split at h
    · rename_i S1 e2
      obtain ⟨q1, q2⟩ := (hc.v ρ').truth S _ S1 hp e2
      rw [q1]
      simp only [id]
      split at h
      · rename_i xs src S3 e3
        obtain ⟨q3, q4⟩ := hi.it ρ' S1 _ S3 (by omega) e3
        rw [q3]
        simp only [sIt]
        obtain ⟨q5, q6⟩ := co_comp (src := src) (fun y => co_turn (t := t1) (vs := vs1) (ρ := ρ') hc1 he y) xs S3 r S2 (by omega) h
        exact ⟨q5, by omega⟩
      · cases h
    · rename_i S1 e2
      cases h
      obtain ⟨q1, q2⟩ := (hc.v ρ').truth S _ _ hp e2
      rw [q1]
      exact ⟨rfl, q2⟩
    · cases h
  · cases h
variable {gc : Nat → W} {cf : Nat → List W → M W}
mutual
theorem nh_sh (q k : Nat) : ∀ a : W, (W.sh q k a).nh = a.nh
  | .non => rfl
  | .bl b => rfl
  | .int i => rfl
  | .str x => rfl
  | .fn f => rfl
  | .ref r => rfl
  | .dct ks us => rfl
  | .lst ws => rfl
  | .tup ws => by simp only [W.sh, W.nh, nhs_sh q k ws]
theorem nhs_sh (q k : Nat) : ∀ as : List W, nhs (shs q k as) = nhs as
  | [] => rfl
  | a :: as => by simp only [shs, nhs, nh_sh q k a, nhs_sh q k as]
end
theorem mergeOk_sh (q k : Nat) (a b : List W) : mergeOk (shs q k a) (shs q k b) = mergeOk a b := by
  unfold mergeOk
  rw [nhs_sh, len_shs, len_shs, all_shs q k _ (leaf_sh q k)]
  cases a <;> rfl
theorem merge_sh : ∀ (xs vs ks us : List W), dMerge (shs p g.length ks) (shs p g.length us) (shs p g.length xs) (shs p g.length vs) = sPr p g (dMerge ks us xs vs)
  | [], vs, ks, us => by cases vs <;> rfl
  | x :: xs, [], ks, us => rfl
  | x :: xs, v :: vs, ks, us => by
    simp only [shs, dMerge]
    rw [dPut_sh]
    exact merge_sh xs vs _ _
theorem co_sortKey (hcf : ∀ f ws, Co p g (sW p g) (cf f ws) (cf f (sWs p g ws))) (f : Nat) : ∀ (ws : List W) (S : Sto) (ks : List W), p ≤ S.length → sortKey cf f ws S = some ks → sortKey cf f (sWs p g ws) (shS p g S) = some (sWs p g ks)
  | [], S, ks, hp, h => by simp only [sortKey] at h; cases h; rfl
  | w :: ws, S, ks, hp, h => by
    simp only [sortKey] at h
    split at h
    · rename_i k S1 e
      split at h
      · rename_i hS
        split at h
        · rename_i ks' e2
          cases h
          obtain ⟨q1, q2⟩ := hcf f [w] S k S1 hp e
          simp only [sWs, shs, sortKey]
          rw [show cf f [W.sh p g.length w] (shS p g S) = _ from q1]
          simp only
          rw [hS, if_pos rfl, show sortKey cf f (shs p g.length ws) (shS p g S) = _ from co_sortKey hcf f ws S ks' hp e2]
        · cases h
      · cases h
    · cases h
theorem co_skey (hcf : ∀ f ws, Co p g (sW p g) (cf f ws) (cf f (sWs p g ws))) (f : Nat) (x : W) : Co p g (sW p g) (wSortKey cf f x) (wSortKey cf f (sW p g x)) := by
  intro S c S2 hp h
  unfold wSortKey at h ⊢
  split at h
  · rename_i ws e
    rw [listOf_sh hp e]
    simp only
    split at h
    · rename_i ks e2
      rw [show sortKey cf f (shs p g.length ws) (shS p g S) = _ from co_sortKey hcf f ws S ks hp e2]
      simp only
      split at h
      · rename_i hc
        have hk : sWs p g ks = ks := flats_sh g.length ks 30 hc.1
        rw [hk, if_pos hc]
        have q := Co.new (p := p) (g := g) _ S c S2 hp h
        simp only [Ob.sh] at q
        have e3 : shs p g.length (((ks.zip ws).mergeSort fun p q => wLe2 p.1 q.1).map Prod.snd) = (((ks.zip (shs p g.length ws)).mergeSort fun p q => wLe2 p.1 q.1).map Prod.snd) := by
          have hz : ks.zip (shs p g.length ws) = (ks.zip ws).map fun q => (q.1, sW p g q.2) := by
            rw [shs_map, List.zip_map_right]; rfl
          rw [hz, shs_map, List.map_map]
          have hm := List.map_mergeSort (r := fun (p q : W × W) => wLe2 p.1 q.1) (s := fun (p q : W × W) => wLe2 p.1 q.1) (f := fun q : W × W => (q.1, sW p g q.2)) (l := ks.zip ws) (fun a _ b _ => rfl)
          rw [← hm, List.map_map]; rfl
        rw [e3] at q
        exact q
      · cases h
    · cases h
  · cases h
theorem co_callv (hcf : ∀ f ws, Co p g (sW p g) (cf f ws) (cf f (sWs p g ws))) (x : W) (ws : List W) : Co p g (sW p g) (wCallV cf x ws) (wCallV cf (sW p g x) (sWs p g ws)) := by
  cases x with
  | fn f => exact hcf f ws
  | _ => exact Co.no
theorem den_co (hgc : ∀ i, sW p g (gc i) = gc i) (hcf : ∀ f ws, Co p g (sW p g) (cf f ws) (cf f (sWs p g ws))) : ∀ e : E, DCo p g (den gc cf e) := by
  have pw : ∀ w : W, Co p g (sW p g) (pure w : M W) (pure (sW p g w) : M W) := fun w => Co.pure w
  intro e
  induction e with
  | var i => exact .ofV fun ρ => co_rho i ρ
  | non => exact .ofV fun ρ => Co.ret rfl
  | bl b => exact .ofV fun ρ => Co.ret rfl
  | int b => exact .ofV fun ρ => Co.ret rfl
  | str b => exact .ofV fun ρ => Co.ret rfl
  | gcon i => exact .ofV fun ρ => Co.ret (hgc i)
  | gfn f => exact .ofV fun ρ => Co.ret rfl
  | nil => exact .ofA fun ρ => Co.ret rfl
  | cons e es h1 h2 => exact .ofA fun ρ => (h1.v ρ).bind fun w => (h2.a ρ).bind fun ws => Co.pure (sa := sWs p g) (w :: ws)
  | star e es h1 h2 =>
    exact .ofA fun ρ => (h1.v ρ).bind fun w => (co_items w).bind fun us => (h2.a ρ).bind fun ws => by
      have := Co.pure (p := p) (g := g) (sa := sWs p g) (us ++ ws)
      rw [show sWs p g (us ++ ws) = sWs p g us ++ sWs p g ws from app_shs _ _ _ _] at this
      exact this
  | tup es h => exact .ofV fun ρ => (h.a ρ).bind fun ws => (Co.grd (by rw [len_shs])).bind fun _ => pw (.tup ws)
  | lst es h => exact .ofV fun ρ => (h.a ρ).bind fun ws => (Co.grd (by rw [len_shs])).bind fun _ => Co.new (.lst ws)
  | dnil => exact .ofD fun ρ q => Co.ret rfl
  | dpair k v ds h1 h2 h3 =>
    exact .ofD fun ρ q => (h1.v ρ).bind fun x => (h2.v ρ).bind fun y => (Co.grd (by simp only [sPr]; rw [keyFor_sh])).bind fun _ => by
      have := h3.d ρ (dPut q.1 q.2 x y)
      simp only [sPr] at this ⊢
      rw [dPut_sh]
      exact this
  | dstar e ds h1 h2 =>
    exact .ofD fun ρ q => (h1.v ρ).bind fun x => (co_pairs x).bind fun r => (Co.grd (by
      simp only [sPr]
      rw [mergeOk_sh]
      congr 1
      rw [shs_map, List.all_map]
      congr 1
      funext k
      show (keyFor (shs p g.length q.1) (W.sh p g.length k) && keyFor (r.1.map (W.sh p g.length)) (W.sh p g.length k)) = _
      rw [← shs_map, keyFor_sh, keyFor_sh])).bind fun _ => by
      have := h2.d ρ (dMerge q.1 q.2 r.1 r.2)
      rw [← merge_sh] at this
      exact this
  | dct ds h => exact .ofV fun ρ => (h.d ρ ([], [])).bind fun q => (Co.grd (show decide ((shs p g.length q.1).length ≤ lineN) = decide (q.1.length ≤ lineN) by rw [len_shs])).bind fun _ => Co.new (.dct q.1 q.2)
  | and a b h1 h2 => exact .ofV fun ρ => (h1.v ρ).truth.bind fun c => by cases c; exact pw (.bl false); exact h2.v ρ
  | or a b h1 h2 => exact .ofV fun ρ => (h1.v ρ).truth.bind fun c => by cases c; exact h2.v ρ; exact pw (.bl true)
  | not a h1 => exact .ofV fun ρ => (h1.v ρ).truth.bind fun c => pw (.bl (!c))
  | ifx c a b h1 h2 h3 => exact .ofV fun ρ => (h1.v ρ).truth.bind fun c => by cases c; exact h3.v ρ; exact h2.v ρ
  | cmp o a b h1 h2 => exact .ofV fun ρ => (h1.v ρ).bind fun x => (h2.v ρ).bind fun y => (co_cmp o x y).bind fun c => pw (.bl c)
  | chain o q a b c h1 h2 h3 =>
    exact .ofV fun ρ => (h1.v ρ).bind fun x => (h2.v ρ).bind fun y => (co_cmp o x y).bind fun c1 => by
      cases c1
      · exact pw (.bl false)
      · exact (h3.v ρ).bind fun z => (co_cmp q y z).bind fun c2 => pw (.bl c2)
  | isn a h1 =>
    exact .ofV fun ρ => (h1.v ρ).bind fun x => by
      have := pw (.bl (decide (x = .non)))
      have e : decide (sW p g x = .non) = decide (x = .non) := by cases x <;> first | rfl | (simp only [sW, W.sh]; rfl)
      rw [e]
      exact this
  | notn a h1 =>
    exact .ofV fun ρ => (h1.v ρ).bind fun x => by
      have := pw (.bl (!decide (x = .non)))
      have e : decide (sW p g x = .non) = decide (x = .non) := by cases x <;> first | rfl | (simp only [sW, W.sh]; rfl)
      rw [e]
      exact this
  | isb a b h1 => exact .ofV fun ρ => (h1.v ρ).bind fun x => co_isb x b
  | bin o a b h1 h2 => exact .ofV fun ρ => (h1.v ρ).bind fun x => (h2.v ρ).bind fun y => co_bin o x y
  | ix a i h1 h2 => exact .ofV fun ρ => (h1.v ρ).bind fun x => (h2.v ρ).bind fun y => co_ix x y
  | slc a lo hi h1 h2 h3 => exact .ofV fun ρ => (h1.v ρ).bind fun x => (h2.v ρ).bind fun l => (h3.v ρ).bind fun h => co_slc x l h
  | rev a h1 => exact .ofV fun ρ => (h1.v ρ).bind fun x => co_rev x
  | call f es h1 => exact .ofV fun ρ => (h1.a ρ).bind fun ws => hcf f ws
  | callv i es h1 => exact .ofV fun ρ => (co_rho i ρ).bind fun x => (h1.a ρ).bind fun ws => co_callv hcf x ws
  | blt b es h1 => exact .ofV fun ρ => (h1.a ρ).bind fun ws => co_blt b ws
  | skey a f h1 => exact .ofV fun ρ => (h1.v ρ).bind fun x => co_skey hcf f x
  | mth m a es h1 h2 => exact .ofV fun ρ => (h1.v ρ).bind fun x => (co_recv m x).bind fun _ => (h2.a ρ).bind fun ws => co_mth m x ws
  | isi k a h1 => exact .ofV fun ρ => (h1.v ρ).bind fun x => (co_isi k x).bind fun b => pw (.bl b)
  | lc vs t it c e h1 h2 h3 => exact .ofV fun ρ => (h1.it ρ).bind fun q => (co_comp (src := q.2) (fun y => co_turn (t := t) (vs := vs) (ρ := ρ) h2 h3 y) q.1).bind fun ws => pw (.lst ws)
  | lc2 vs vs1 t it c t1 it1 c1 e h1 h2 h3 h4 h5 => exact .ofV fun ρ => (h1.it ρ).bind fun q => (co_comp (src := q.2) (fun y => co_turn2 (t := t) (t1 := t1) (vs := vs) (vs1 := vs1) (ρ := ρ) h2 h3 h4 h5 y) q.1).bind fun ws => (Co.grd (by rw [len_shs])).bind fun _ => pw (.lst ws)
  | dc vs t it c k v h1 h2 h3 h4 => exact .ofV fun ρ => (h1.it ρ).bind fun q => (co_dcl (src := q.2) (fun y => co_turnD (t := t) (vs := vs) (ρ := ρ) h2 h3 h4 y) q.1 ([], [])).bind fun r => Co.new (.dct r.1 r.2)
  | iter a h1 => exact .ofI fun ρ => (h1.v ρ).bind fun x => co_iter x
  | rng1 a h1 => exact .ofI fun ρ => (h1.v ρ).bind fun x => co_rng1 x
  | rng2 a b h1 h2 => exact .ofI fun ρ => (h1.v ρ).bind fun x => (h2.v ρ).bind fun y => co_rng2 x y
  | enum a h1 => exact .ofI fun ρ => (h1.v ρ).bind fun x => co_enum x
  | zip a b h1 h2 => exact .ofI fun ρ => (h1.v ρ).bind fun x => (h2.v ρ).bind fun y => co_zip x y
  | items a h1 => exact .ofI fun ρ => (h1.v ρ).bind fun x => co_itemsD x
end
end TZ

set_option Elab.async false
set_option linter.all false
set_option maxRecDepth 100000
set_option maxHeartbeats 2000000
/-! A31: statements and calls under a shift; a call at any store. -/
namespace TZ
open PySem

section
variable {p : Nat} {g : List Ob} {gc : Nat → W} {cf : Nat → List W → M W}
def sFl (p : Nat) (g : List Ob) : Fl → Fl
  | .ret w => .ret (sW p g w)
  | f => f
mutual
theorem tput_sh (hgc : ∀ i, sW p g (gc i) = gc i) (hcf : ∀ f ws, Co p g (sW p g) (cf f ws) (cf f (sWs p g ws))) : ∀ (t : T) (w : W) (ρ ρ' : Rho) (S S' : Sto), p ≤ S.length → T.put gc cf t w ρ S = some (ρ', S') → T.put gc cf t (sW p g w) (shR p g ρ) (shS p g S) = some (shR p g ρ', shS p g S') ∧ S.length ≤ S'.length
  | .nm i, w, ρ, ρ', S, S', hp, h => by
    simp only [T.put] at h ⊢
    cases h
    rw [shR_set]
    exact ⟨rfl, Nat.le_refl _⟩
  | .tp ps, w, ρ, ρ', S, S', hp, h => by
    cases w with
    | tup ws =>
      simp only [T.put] at h
      simp only [sW, W.sh, T.put]
      exact tputs_sh hgc hcf ps ws ρ ρ' S S' hp h
    | _ => simp [T.put] at h
  | .sub o i, w, ρ, ρ', S, S', hp, h => by
    simp only [T.put] at h ⊢
    split at h
    · rename_i ow S1 e1
      split at h
      · rename_i iw S2 e2
        split at h
        · rename_i u S3 e3
          cases h
          obtain ⟨q1, q2⟩ := (den_co hgc hcf o).v ρ S ow S1 hp e1
          obtain ⟨q3, q4⟩ := (den_co hgc hcf i).v ρ S1 iw S2 (by omega) e2
          obtain ⟨q5, q6⟩ := co_set (p := p) (g := g) ow iw w S2 u _ (by omega) e3
          rw [q1]; simp only
          rw [q3]; simp only
          rw [q5]
          exact ⟨rfl, by omega⟩
        · cases h
      · cases h
    · cases h
  | .nil, w, ρ, ρ', S, S', hp, h => by simp [T.put] at h
  | .cons a b, w, ρ, ρ', S, S', hp, h => by simp [T.put] at h
theorem tputs_sh (hgc : ∀ i, sW p g (gc i) = gc i) (hcf : ∀ f ws, Co p g (sW p g) (cf f ws) (cf f (sWs p g ws))) : ∀ (t : T) (ws : List W) (ρ ρ' : Rho) (S S' : Sto), p ≤ S.length → T.puts gc cf t ws ρ S = some (ρ', S') → T.puts gc cf t (sWs p g ws) (shR p g ρ) (shS p g S) = some (shR p g ρ', shS p g S') ∧ S.length ≤ S'.length
  | .nil, ws, ρ, ρ', S, S', hp, h => by
    cases ws with
    | nil => simp only [T.puts] at h; cases h; exact ⟨rfl, Nat.le_refl _⟩
    | cons w ws => simp [T.puts] at h
  | .cons t ts, ws, ρ, ρ', S, S', hp, h => by
    cases ws with
    | nil => simp [T.puts] at h
    | cons w ws =>
      simp only [T.puts] at h
      split at h
      · rename_i ρ1 S1 e
        obtain ⟨q1, q2⟩ := tput_sh hgc hcf t w ρ ρ1 S S1 hp e
        obtain ⟨q3, q4⟩ := tputs_sh hgc hcf ts ws ρ1 ρ' S1 S' (by omega) h
        simp only [sWs, shs, T.puts]
        rw [show T.put gc cf t (W.sh p g.length w) (shR p g ρ) (shS p g S) = _ from q1]
        exact ⟨q3, by omega⟩
      · cases h
  | .nm _, ws, ρ, ρ', S, S', hp, h => by cases ws <;> simp [T.puts] at h
  | .tp _, ws, ρ, ρ', S, S', hp, h => by cases ws <;> simp [T.puts] at h
  | .sub _ _, ws, ρ, ρ', S, S', hp, h => by cases ws <;> simp [T.puts] at h
end
/-- a statement under a shift -/
def RCo (p : Nat) (g : List Ob) (f f' : Rho → Sto → Option (Fl × Rho × Sto)) : Prop := ∀ ρ S fl ρ' S', p ≤ S.length → f ρ S = some (fl, ρ', S') → f' (shR p g ρ) (shS p g S) = some (sFl p g fl, shR p g ρ', shS p g S') ∧ S.length ≤ S'.length
theorem forL_sh {src : List (Nat × Ob)} {t : P} {f : Rho → Sto → Option (Fl × Rho × Sto)} (hf : RCo p g f f) : ∀ xs : List W, RCo p g (forL src t f xs) (forL (shSrc p g src) t f (sWs p g xs))
  | [] => by
    intro ρ S fl ρ' S' hp h
    simp only [forL] at h
    simp only [sWs, shs, forL]
    split at h
    · rename_i hs
      cases h
      rw [if_pos (stands_sh hp hs)]
      exact ⟨rfl, Nat.le_refl _⟩
    · cases h
  | x :: xs => by
    intro ρ S fl ρ' S' hp h
    simp only [forL] at h
    simp only [sWs, shs, forL]
    split at h
    · rename_i hs
      rw [if_pos (stands_sh hp hs)]
      split at h
      · rename_i ρ1 e1
        rw [show P.put t (W.sh p g.length x) (shR p g ρ) = _ from put_sh t x ρ ρ1 e1]
        simp only
        split at h
        · rename_i ρ2 S2 e2
          obtain ⟨q1, q2⟩ := hf ρ1 S _ ρ2 S2 hp e2
          rw [q1]
          obtain ⟨q3, q4⟩ := forL_sh hf xs ρ2 S2 fl ρ' S' (by omega) h
          exact ⟨q3, by omega⟩
        · rename_i ρ2 S2 e2
          obtain ⟨q1, q2⟩ := hf ρ1 S _ ρ2 S2 hp e2
          rw [q1]
          obtain ⟨q3, q4⟩ := forL_sh hf xs ρ2 S2 fl ρ' S' (by omega) h
          exact ⟨q3, by omega⟩
        · rename_i ρ2 S2 e2
          cases h
          obtain ⟨q1, q2⟩ := hf ρ1 S _ _ _ hp e2
          rw [q1]
          exact ⟨rfl, q2⟩
        · rename_i w ρ2 S2 e2
          cases h
          obtain ⟨q1, q2⟩ := hf ρ1 S _ _ _ hp e2
          rw [q1]
          exact ⟨rfl, q2⟩
        · cases h
      · cases h
    · cases h
theorem whileL_sh {c : Rho → M Bool} {f : Rho → Sto → Option (Fl × Rho × Sto)} (hc : ∀ ρ, Co p g id (c ρ) (c (shR p g ρ))) (hf : RCo p g f f) : ∀ n : Nat, RCo p g (whileL c f n) (whileL c f n)
  | 0 => by intro ρ S fl ρ' S' hp h; cases h
  | n + 1 => by
    intro ρ S fl ρ' S' hp h
    simp only [whileL] at h ⊢
    split at h
    · rename_i S1 e1
      obtain ⟨a1, a2⟩ := hc ρ S _ S1 hp e1
      rw [a1]
      simp only [id]
      split at h
      · rename_i ρ2 S2 e2
        obtain ⟨q1, q2⟩ := hf ρ S1 _ ρ2 S2 (by omega) e2
        rw [q1]
        obtain ⟨q3, q4⟩ := whileL_sh hc hf n ρ2 S2 fl ρ' S' (by omega) h
        exact ⟨q3, by omega⟩
      · rename_i ρ2 S2 e2
        obtain ⟨q1, q2⟩ := hf ρ S1 _ ρ2 S2 (by omega) e2
        rw [q1]
        obtain ⟨q3, q4⟩ := whileL_sh hc hf n ρ2 S2 fl ρ' S' (by omega) h
        exact ⟨q3, by omega⟩
      · rename_i ρ2 S2 e2
        cases h
        obtain ⟨q1, q2⟩ := hf ρ S1 _ _ _ (by omega) e2
        rw [q1]
        exact ⟨rfl, by omega⟩
      · rename_i w ρ2 S2 e2
        cases h
        obtain ⟨q1, q2⟩ := hf ρ S1 _ _ _ (by omega) e2
        rw [q1]
        exact ⟨rfl, by omega⟩
      · cases h
    · rename_i S1 e1
      cases h
      obtain ⟨a1, a2⟩ := hc ρ S _ _ hp e1
      rw [a1]
      exact ⟨rfl, a2⟩
    · cases h
theorem run_sh (hgc : ∀ i, sW p g (gc i) = gc i) (hcf : ∀ f ws, Co p g (sW p g) (cf f ws) (cf f (sWs p g ws))) : ∀ c : C, RCo p g (run gc cf c) (run gc cf c) := by
  have dv := fun e => den_co (cf := cf) hgc hcf e
  intro c
  induction c with
  | skip => intro ρ S fl ρ' S' hp h; simp only [run] at h ⊢; cases h; exact ⟨rfl, Nat.le_refl _⟩
  | brk => intro ρ S fl ρ' S' hp h; simp only [run] at h ⊢; cases h; exact ⟨rfl, Nat.le_refl _⟩
  | cont => intro ρ S fl ρ' S' hp h; simp only [run] at h ⊢; cases h; exact ⟨rfl, Nat.le_refl _⟩
  | seq a b h1 h2 =>
    intro ρ S fl ρ' S' hp h
    simp only [run] at h ⊢
    split at h
    · rename_i ρ1 S1 e
      obtain ⟨q1, q2⟩ := h1 ρ S _ ρ1 S1 hp e
      obtain ⟨q3, q4⟩ := h2 ρ1 S1 fl ρ' S' (by omega) h
      rw [q1]
      exact ⟨q3, by omega⟩
    · rename_i hno
      obtain ⟨q1, q2⟩ := h1 ρ S fl ρ' S' hp h
      rw [q1]
      cases fl with
      | nx => exact absurd h (hno _ _)
      | brk => exact ⟨rfl, q2⟩
      | cont => exact ⟨rfl, q2⟩
      | ret w => exact ⟨rfl, q2⟩
  | expr e =>
    intro ρ S fl ρ' S' hp h
    simp only [run] at h ⊢
    split at h
    · rename_i w S1 e1
      cases h
      obtain ⟨q1, q2⟩ := (dv e).v ρ S w _ hp e1
      rw [q1]
      exact ⟨rfl, q2⟩
    · cases h
  | asg t e =>
    intro ρ S fl ρ' S' hp h
    simp only [run] at h ⊢
    split at h
    · rename_i w S1 e1
      obtain ⟨q1, q2⟩ := (dv e).v ρ S w S1 hp e1
      rw [q1]
      simp only
      split at h
      · rename_i ρ2 S2 e2
        cases h
        obtain ⟨q3, q4⟩ := tput_sh hgc hcf t w ρ _ S1 _ (by omega) e2
        rw [q3]
        exact ⟨rfl, by omega⟩
      · cases h
    · cases h
  | aug i o e =>
    intro ρ S fl ρ' S' hp h
    simp only [run] at h ⊢
    split at h
    · rename_i x hx
      rw [shR_get, hx]
      simp only [Option.map_some]
      split at h
      · rename_i y S1 e1
        obtain ⟨q1, q2⟩ := (dv e).v ρ S y S1 hp e1
        rw [q1]
        simp only
        split at h
        · rename_i w S2 e2
          cases h
          obtain ⟨q3, q4⟩ := co_bin (p := p) (g := g) o x y S1 w _ (by omega) e2
          rw [q3]
          simp only
          rw [shR_set]
          exact ⟨rfl, by omega⟩
        · cases h
      · cases h
    · cases h
  | ite c a b h1 h2 =>
    intro ρ S fl ρ' S' hp h
    simp only [run] at h ⊢
    split at h
    · rename_i S1 e1
      obtain ⟨q1, q2⟩ := ((dv c).v ρ).truth S _ S1 hp e1
      rw [q1]
      obtain ⟨q3, q4⟩ := h1 ρ S1 fl ρ' S' (by omega) h
      exact ⟨q3, by omega⟩
    · rename_i S1 e1
      obtain ⟨q1, q2⟩ := ((dv c).v ρ).truth S _ S1 hp e1
      rw [q1]
      obtain ⟨q3, q4⟩ := h2 ρ S1 fl ρ' S' (by omega) h
      exact ⟨q3, by omega⟩
    · cases h
  | whl c b h1 =>
    intro ρ S fl ρ' S' hp h
    simp only [run] at h ⊢
    exact whileL_sh (fun ρ => ((dv c).v ρ).truth) h1 turns ρ S fl ρ' S' hp h
  | for_ t it b h1 =>
    intro ρ S fl ρ' S' hp h
    simp only [run] at h ⊢
    split at h
    · rename_i xs src S1 e1
      obtain ⟨q1, q2⟩ := (dv it).it ρ S _ S1 hp e1
      rw [q1]
      obtain ⟨q3, q4⟩ := forL_sh (src := src) (t := t) h1 xs ρ S1 fl ρ' S' (by omega) h
      exact ⟨q3, by omega⟩
    · cases h
  | ret e =>
    intro ρ S fl ρ' S' hp h
    simp only [run] at h ⊢
    split at h
    · rename_i w S1 e1
      cases h
      obtain ⟨q1, q2⟩ := (dv e).v ρ S w _ hp e1
      rw [q1]
      exact ⟨rfl, q2⟩
    · cases h
mutual
theorem under_sh {n₀ : Nat} (hp : p ≤ n₀) : ∀ a : W, a.under n₀ = true → (W.sh p g.length a).under (n₀ + g.length) = true
  | .non, _ => rfl
  | .bl _, _ => rfl
  | .int _, _ => rfl
  | .str _, _ => rfl
  | .fn _, _ => rfl
  | .ref n, h => by
    simp only [W.under, W.sh, decide_eq_true_eq] at h ⊢
    unfold shN
    split <;> omega
  | .tup ws, h => by simp only [W.under, W.sh] at h ⊢; exact unders_sh hp ws h
  | .lst ws, h => by simp only [W.under, W.sh] at h ⊢; exact unders_sh hp ws h
  | .dct ks us, h => by
    simp only [W.under, W.sh, Bool.and_eq_true] at h ⊢
    exact ⟨unders_sh hp ks h.1, unders_sh hp us h.2⟩
theorem unders_sh {n₀ : Nat} (hp : p ≤ n₀) : ∀ as : List W, unders n₀ as = true → unders (n₀ + g.length) (shs p g.length as) = true
  | [], _ => rfl
  | a :: as, h => by
    simp only [unders, shs, Bool.and_eq_true] at h ⊢
    exact ⟨under_sh hp a h.1, unders_sh hp as h.2⟩
end
/-- the garbage may mean no places behind it -/
def gOk (p : Nat) (g : List Ob) : Prop := ∀ o ∈ g, o.under (p + g.length) = true
theorem obUnder_sh {n₀ : Nat} (hp : p ≤ n₀) (o : Ob) (h : o.under n₀ = true) : (Ob.sh p g.length o).under (n₀ + g.length) = true := by
  cases o with
  | lst ws => exact unders_sh hp ws h
  | dct ks us =>
    have h : (unders n₀ ks && unders n₀ us) = true := h
    rw [Bool.and_eq_true] at h
    show (unders _ _ && unders _ _) = true
    rw [Bool.and_eq_true]
    exact ⟨unders_sh hp ks h.1, unders_sh hp us h.2⟩
mutual
theorem under_le {n m : Nat} (hm : n ≤ m) : ∀ a : W, a.under n = true → a.under m = true
  | .non, _ => rfl
  | .bl _, _ => rfl
  | .int _, _ => rfl
  | .str _, _ => rfl
  | .fn _, _ => rfl
  | .ref k, h => by simp only [W.under, decide_eq_true_eq] at h ⊢; omega
  | .tup ws, h => by simp only [W.under] at h ⊢; exact unders_le hm ws h
  | .lst ws, h => by simp only [W.under] at h ⊢; exact unders_le hm ws h
  | .dct ks us, h => by
    simp only [W.under, Bool.and_eq_true] at h ⊢
    exact ⟨unders_le hm ks h.1, unders_le hm us h.2⟩
theorem unders_le {n m : Nat} (hm : n ≤ m) : ∀ as : List W, unders n as = true → unders m as = true
  | [], _ => rfl
  | a :: as, h => by
    simp only [unders, Bool.and_eq_true] at h ⊢
    exact ⟨under_le hm a h.1, unders_le hm as h.2⟩
end
theorem obUnder_le {n m : Nat} (hm : n ≤ m) (o : Ob) (h : o.under n = true) : o.under m = true := by
  cases o with
  | lst ws => exact unders_le hm ws h
  | dct ks us =>
    have h : (unders n ks && unders n us) = true := h
    rw [Bool.and_eq_true] at h
    show (unders _ _ && unders _ _) = true
    rw [Bool.and_eq_true]
    exact ⟨unders_le hm ks h.1, unders_le hm us h.2⟩
theorem take_sh {S : Sto} {n₀ : Nat} (hp : p ≤ n₀) (hn : n₀ ≤ S.length) : (shS p g S).take (n₀ + g.length) = shS p g (S.take n₀) := by
  apply List.ext_getElem?
  intro i
  have hp2 : p ≤ (S.take n₀).length := by rw [List.length_take]; omega
  by_cases hi : i < n₀ + g.length
  · rw [List.getElem?_take_of_lt hi]
    by_cases hm : ∃ m, i = shN p g.length m
    · obtain ⟨m, rfl⟩ := hm
      rw [shS_get (by omega), shS_get hp2]
      have : m < n₀ := by unfold shN at hi; split at hi <;> omega
      rw [List.getElem?_take_of_lt this]
    · have hr : p ≤ i ∧ i < p + g.length := by
        refine ⟨?_, ?_⟩
        · apply Nat.le_of_not_lt
          intro z
          exact hm ⟨i, by unfold shN; rw [if_pos z]⟩
        · apply Nat.lt_of_not_le
          intro z
          exact hm ⟨i - g.length, by unfold shN; rw [if_neg (by omega)]; omega⟩
      unfold shS
      rw [List.getElem?_append_right (by simp; omega), List.getElem?_append_left (by simp; omega), List.getElem?_append_right (by simp; omega), List.getElem?_append_left (by simp; omega)]
      congr 1
      simp; omega
  · rw [List.getElem?_eq_none (by rw [List.length_take]; omega), List.getElem?_eq_none (by rw [shS_len hp2, List.length_take]; omega)]
theorem finish_sh (hg : gOk p g) {keep : Bool} {n₀ : Nat} {S1 S2 : Sto} {w c : W} (hp : p ≤ n₀) (hn : n₀ ≤ S1.length) (h : finish keep n₀ w S1 = some (c, S2)) : finish keep (n₀ + g.length) (sW p g w) (shS p g S1) = some (sW p g c, shS p g S2) ∧ n₀ ≤ S2.length := by
  unfold finish at h ⊢
  split at h
  · rename_i hk
    cases h
    rw [if_pos hk]
    exact ⟨rfl, hn⟩
  · rename_i hk
    rw [if_neg hk]
    split at h
    · rename_i w' e
      split at h
      · rename_i hc
        cases h
        rw [frz_sh (n₁ := n₀ + g.length) (by omega) (fun r => by unfold shN; split <;> omega) e]
        simp only
        rw [take_sh hp hn, if_pos]
        · exact ⟨rfl, by rw [List.length_take]; omega⟩
        · refine ⟨under_sh hp _ hc.1, ?_⟩
          unfold underAll shS
          rw [List.all_append, List.all_append, Bool.and_eq_true, Bool.and_eq_true]
          have ha := List.all_eq_true.mp hc.2
          refine ⟨?_, ?_, ?_⟩
          · rw [List.all_map, List.all_eq_true]
            exact fun o ho => obUnder_sh hp o (ha o (List.mem_of_mem_take ho))
          · rw [List.all_eq_true]
            exact fun o ho => obUnder_le (by omega) o (hg o ho)
          · rw [List.all_map, List.all_eq_true]
            exact fun o ho => obUnder_sh hp o (ha o (List.mem_of_mem_drop ho))
      · cases h
    · cases h
theorem callF_sh (hgc : ∀ i, sW p g (gc i) = gc i) (hg : gOk p g) {tb : Nat → Option Def} : ∀ (n f : Nat) (ws : List W), Co p g (sW p g) (callF gc tb n f ws) (callF gc tb n f (sWs p g ws))
  | 0, f, ws => fun S a S' hp h => by cases h
  | n + 1, f, ws => fun S a S' hp h => by
    simp only [callF] at h ⊢
    split at h
    · rename_i d hd
      have hb : d.bind (sWs p g ws) = (d.bind ws).map (sWs p g) := by
        unfold Def.bind
        rw [len_shs]
        split
        · split
          · simp only [Option.map_some, sWs, app_shs, shs, W.sh]
            simp only [shs_map, List.map_take, List.map_drop]
          · rfl
        · split <;> rfl
      rw [hb]
      split at h
      · rename_i as hbind
        rw [hbind]
        simp only [Option.map_some]
        have hr : d.rho (sWs p g as) = shR p g (d.rho as) := by
          unfold Def.rho shR
          rw [len_shs]
          simp only [List.map_append, List.map_replicate, shs_map, List.map_map]
          rfl
        rw [hr]
        have rc := run_sh (cf := callF gc tb n) hgc (fun f ws => callF_sh hgc hg n f ws) d.body
        split at h
        · rename_i w ρ1 S1 e
          obtain ⟨q1, q2⟩ := rc _ S _ ρ1 S1 hp e
          rw [q1]
          simp only [sFl]
          rw [shS_len hp]
          exact finish_sh hg hp q2 h
        · rename_i ρ1 S1 e
          obtain ⟨q1, q2⟩ := rc _ S _ ρ1 S1 hp e
          rw [q1]
          simp only [sFl]
          rw [shS_len hp]
          exact finish_sh (w := .non) hg hp q2 h
        · cases h
      · cases h
    · cases h
end
mutual
theorem noref_sh (k : Nat) : ∀ a : W, a.under 0 = true → W.sh 0 k a = a
  | .non, _ => rfl
  | .bl _, _ => rfl
  | .int _, _ => rfl
  | .str _, _ => rfl
  | .fn _, _ => rfl
  | .ref n, h => by simp [W.under] at h
  | .tup ws, h => by simp only [W.under] at h; simp only [W.sh, norefs_sh k ws h]
  | .lst ws, h => by simp only [W.under] at h; simp only [W.sh, norefs_sh k ws h]
  | .dct ks us, h => by
    simp only [W.under, Bool.and_eq_true] at h
    simp only [W.sh, norefs_sh k ks h.1, norefs_sh k us h.2]
theorem norefs_sh (k : Nat) : ∀ as : List W, unders 0 as = true → shs 0 k as = as
  | [], _ => rfl
  | a :: as, h => by
    simp only [unders, Bool.and_eq_true] at h
    simp only [shs, noref_sh k a h.1, norefs_sh k as h.2]
end
/-- THE USE: what a def answers at the empty store it answers at any store, and leaves it -/
theorem call_any {gc : Nat → W} {tb : Nat → Option Def} (hgc : ∀ i, (gc i).under 0 = true) {n f : Nat} {ws : List W} {c : W} {S : Sto} (hS : ∀ o ∈ S, o.under S.length = true) (hw : unders 0 ws = true) (hc : c.under 0 = true) (h : callF gc tb n f ws [] = some (c, [])) : callF gc tb n f ws S = some (c, S) := by
  have q := callF_sh (p := 0) (g := S) (gc := gc) (tb := tb) (fun i => noref_sh _ _ (hgc i)) (fun o ho => by rw [Nat.zero_add]; exact hS o ho) n f ws [] c [] (Nat.zero_le _) h
  have e : shS 0 S [] = S := by simp [shS]
  rw [e] at q
  have e1 : sWs 0 S ws = ws := norefs_sh _ _ hw
  have e2 : sW 0 S c = c := noref_sh _ _ hc
  rw [e1, e2] at q
  exact q.1
end TZ

set_option Elab.async false
set_option linter.all false
set_option maxRecDepth 100000
set_option maxHeartbeats 2000000
/-! A32: what is not read may hold anything; a call that answers more answers the same. -/
namespace TZ
open PySem

def LeR (a b : Rho) : Prop := a.length = b.length ∧ ∀ (i : Nat) (w : W), a[i]? = some (some w) → b[i]? = some (some w)
theorem LeR.refl (a : Rho) : LeR a a := ⟨rfl, fun _ _ h => h⟩
theorem LeR.set {a b : Rho} (h : LeR a b) (i : Nat) (o : Option W) : LeR (a.set i o) (b.set i o) := by
  refine ⟨by simp [h.1], fun j w e => ?_⟩
  by_cases hj : i = j
  · subst hj
    have hi : i < a.length := by
      have := (List.getElem?_eq_some_iff.mp e).1
      simpa using this
    rw [List.getElem?_set_self hi] at e
    rw [List.getElem?_set_self (by rw [← h.1]; exact hi)]
    exact e
  · rw [List.getElem?_set_ne hj] at e ⊢
    exact h.2 j w e
theorem LeR.wipe {a b : Rho} (h : LeR a b) : ∀ vs : List Nat, LeR (wipeR a vs) (wipeR b vs)
  | [] => h
  | v :: vs => (h.wipe vs).set v none
def MLe {α : Type} (m m' : M α) : Prop := ∀ S r, m S = some r → m' S = some r
theorem MLe.refl {α : Type} (m : M α) : MLe m m := fun _ _ h => h
theorem MLe.bind {α β : Type} {m m' : M α} {f f' : α → M β} (h : MLe m m') (hf : ∀ a, MLe (f a) (f' a)) : MLe (m >>= f) (m' >>= f') := by
  intro S r hb
  have hb : (match m S with | some (a, S1) => f a S1 | none => none) = some r := hb
  show (match m' S with | some (a, S1) => f' a S1 | none => none) = some r
  cases e : m S with
  | none => rw [e] at hb; cases hb
  | some q =>
    obtain ⟨a, S1⟩ := q
    rw [e] at hb
    rw [h S _ e]
    exact hf a S1 r hb
theorem MLe.truth {m m' : M W} (h : MLe m m') : MLe (truth m) (truth m') := by
  intro S r hb
  unfold TZ.truth at hb ⊢
  split at hb
  · rename_i b S1 e
    rw [h S _ e]; exact hb
  · cases hb
mutual
theorem put_le : ∀ (t : P) (w : W) (a b a' : Rho), LeR a b → P.put t w a = some a' → ∃ b', P.put t w b = some b' ∧ LeR a' b'
  | .nm i, w, a, b, a', h, e => by
    simp only [P.put] at e ⊢
    cases e
    exact ⟨_, rfl, h.set i _⟩
  | .tp ps, w, a, b, a', h, e => by
    cases w with
    | tup ws => simp only [P.put] at e ⊢; exact puts_le ps ws a b a' h e
    | _ => simp [P.put] at e
  | .nil, w, a, b, a', h, e => by simp [P.put] at e
  | .cons _ _, w, a, b, a', h, e => by simp [P.put] at e
theorem puts_le : ∀ (t : P) (ws : List W) (a b a' : Rho), LeR a b → P.puts t ws a = some a' → ∃ b', P.puts t ws b = some b' ∧ LeR a' b'
  | .nil, ws, a, b, a', h, e => by
    cases ws with
    | nil => simp only [P.puts] at e ⊢; cases e; exact ⟨_, rfl, h⟩
    | cons w ws => simp [P.puts] at e
  | .cons t ts, ws, a, b, a', h, e => by
    cases ws with
    | nil => simp [P.puts] at e
    | cons w ws =>
      simp only [P.puts] at e ⊢
      split at e
      · rename_i a1 e1
        obtain ⟨b1, h1, h2⟩ := put_le t w a b a1 h e1
        rw [h1]
        exact puts_le ts ws a1 b1 a' h2 e
      · cases e
  | .nm _, ws, a, b, a', h, e => by cases ws <;> simp [P.puts] at e
  | .tp _, ws, a, b, a', h, e => by cases ws <;> simp [P.puts] at e
end
structure DLe (z z' : Dn) : Prop where
  v : ∀ {x y}, LeR x y → MLe (z.v x) (z'.v y)
  a : ∀ {x y}, LeR x y → MLe (z.a x) (z'.a y)
  d : ∀ {x y}, LeR x y → ∀ q, MLe (z.d x q) (z'.d y q)
  it : ∀ {x y}, LeR x y → MLe (z.it x) (z'.it y)
theorem MLe.no {α : Type} {m : M α} : MLe (fun _ => none) m := fun S r h => by cases h
theorem DLe.ofV {m m' : Rho → M W} (h : ∀ {a b}, LeR a b → MLe (m a) (m' b)) : DLe { v := m } { v := m' } := ⟨h, fun _ => MLe.no, fun _ _ => MLe.no, fun _ => MLe.no⟩
theorem DLe.ofA {m m' : Rho → M (List W)} (h : ∀ {a b}, LeR a b → MLe (m a) (m' b)) : DLe { a := m } { a := m' } := ⟨fun _ => MLe.no, h, fun _ _ => MLe.no, fun _ => MLe.no⟩
theorem DLe.ofD {m m' : Rho → List W × List W → M (List W × List W)} (h : ∀ {a b}, LeR a b → ∀ q, MLe (m a q) (m' b q)) : DLe { d := m } { d := m' } := ⟨fun _ => MLe.no, fun _ => MLe.no, h, fun _ => MLe.no⟩
theorem DLe.ofI {m m' : Rho → M (List W × List (Nat × Ob))} (h : ∀ {a b}, LeR a b → MLe (m a) (m' b)) : DLe { it := m } { it := m' } := ⟨fun _ => MLe.no, fun _ => MLe.no, fun _ _ => MLe.no, h⟩
theorem comp_le {α : Type} {src : List (Nat × Ob)} {f f' : W → M (List α)} (hf : ∀ x, MLe (f x) (f' x)) : ∀ xs : List W, MLe (compL src f xs) (compL src f' xs)
  | [] => MLe.refl _
  | x :: xs => by
    intro S r h
    simp only [compL] at h ⊢
    split at h
    · rename_i hs
      rw [if_pos hs]
      split at h
      · rename_i ys S1 e1
        rw [hf x S _ e1]
        simp only
        split at h
        · rename_i zs S2 e2
          rw [comp_le hf xs S1 _ e2]
          exact h
        · cases h
      · cases h
    · cases h
theorem dcl_le {src : List (Nat × Ob)} {f f' : W → M (Option (W × W))} (hf : ∀ x, MLe (f x) (f' x)) : ∀ (xs : List W) (q : List W × List W), MLe (dcL src f xs q) (dcL src f' xs q)
  | [], q => MLe.refl _
  | x :: xs, q => by
    intro S r h
    simp only [dcL] at h ⊢
    split at h
    · rename_i hs
      rw [if_pos hs]
      split at h
      · rename_i k v S1 e1
        rw [hf x S _ e1]
        simp only
        split at h
        · rename_i hk
          rw [if_pos hk]
          exact dcl_le hf xs _ S1 r h
        · cases h
      · rename_i S1 e1
        rw [hf x S _ e1]
        exact dcl_le hf xs q S1 r h
      · cases h
    · cases h
theorem turn_le {t : P} {vs : List Nat} {a b : Rho} {c e c' e' : Dn} (h : LeR a b) (hc : DLe c c') (he : DLe e e') (x : W) : MLe (turnOf t vs a c e x) (turnOf t vs b c' e' x) := by
  intro S r hh
  unfold turnOf at hh ⊢
  split at hh
  · rename_i a' e1
    obtain ⟨b', e2, h2⟩ := put_le t x _ _ a' (h.wipe vs) e1
    rw [e2]
    simp only
    split at hh
    · rename_i S1 e3
      rw [(hc.v h2).truth S _ e3]
      simp only
      split at hh
      · rename_i w S2 e4
        rw [he.v h2 S1 _ e4]; exact hh
      · cases hh
    · rename_i S1 e3
      rw [(hc.v h2).truth S _ e3]; exact hh
    · cases hh
  · cases hh
theorem turnD_le {t : P} {vs : List Nat} {a b : Rho} {c k v c' k' v' : Dn} (h : LeR a b) (hc : DLe c c') (hk : DLe k k') (hv : DLe v v') (x : W) : MLe (turnD t vs a c k v x) (turnD t vs b c' k' v' x) := by
  intro S r hh
  unfold turnD at hh ⊢
  split at hh
  · rename_i a' e1
    obtain ⟨b', e2, h2⟩ := put_le t x _ _ a' (h.wipe vs) e1
    rw [e2]
    simp only
    split at hh
    · rename_i S1 e3
      rw [(hc.v h2).truth S _ e3]
      simp only
      split at hh
      · rename_i w S2 e4
        rw [hk.v h2 S1 _ e4]
        simp only
        split at hh
        · rename_i w' S3 e5
          rw [hv.v h2 S2 _ e5]; exact hh
        · cases hh
      · cases hh
    · rename_i S1 e3
      rw [(hc.v h2).truth S _ e3]; exact hh
    · cases hh
  · cases hh
theorem turn2_le {t t1 : P} {vs vs1 : List Nat} {a b : Rho} {c it1 c1 e c' it1' c1' e' : Dn} (h : LeR a b) (hc : DLe c c') (hi : DLe it1 it1') (hc1 : DLe c1 c1') (he : DLe e e') (x : W) : MLe (turn2 t vs vs1 a c t1 it1 c1 e x) (turn2 t vs vs1 b c' t1 it1' c1' e' x) := by
  intro S r hh
  unfold turn2 at hh ⊢
  split at hh
  · rename_i a' e1
    obtain ⟨b', e2, h2⟩ := put_le t x _ _ a' (h.wipe vs) e1
    rw [e2]
    simp only
    split at hh
    · rename_i S1 e3
      rw [(hc.v h2).truth S _ e3]
      simp only
      split at hh
      · rename_i xs src S2 e4
        rw [hi.it h2 S1 _ e4]
        exact comp_le (fun y => turn_le h2 hc1 he y) xs S2 r hh
      · cases hh
    · rename_i S1 e3
      rw [(hc.v h2).truth S _ e3]; exact hh
    · cases hh
  · cases hh
section
variable {gc : Nat → W} {cf cf' : Nat → List W → M W}
theorem rho_le {a b : Rho} (h : LeR a b) (i : Nat) : MLe (rhoAt i a) (rhoAt i b) := by
  intro S r hh
  unfold rhoAt at hh ⊢
  split at hh
  · rename_i w e
    rw [h.2 i w e]; exact hh
  · cases hh
theorem sortKey_le (hcf : ∀ f ws, MLe (cf f ws) (cf' f ws)) (f : Nat) : ∀ (ws : List W) (S : Sto) (ks : List W), sortKey cf f ws S = some ks → sortKey cf' f ws S = some ks
  | [], S, ks, h => h
  | w :: ws, S, ks, h => by
    simp only [sortKey] at h ⊢
    split at h
    · rename_i k S1 e1
      rw [hcf f [w] S _ e1]
      simp only
      split at h
      · rename_i hS
        rw [if_pos hS]
        split at h
        · rename_i ks1 e2
          rw [sortKey_le hcf f ws S _ e2]
          exact h
        · cases h
      · cases h
    · cases h
theorem wSortKey_le (hcf : ∀ f ws, MLe (cf f ws) (cf' f ws)) (f : Nat) (x : W) : MLe (wSortKey cf f x) (wSortKey cf' f x) := by
  intro S r h
  unfold wSortKey at h ⊢
  split at h
  · rename_i ws e1
    split at h
    · rename_i ks e2
      rw [sortKey_le hcf f ws S _ e2]
      exact h
    · cases h
  · cases h
theorem den_le (hcf : ∀ f ws, MLe (cf f ws) (cf' f ws)) : ∀ e : E, DLe (den gc cf e) (den gc cf' e) := by
  intro e
  induction e with
  | var i => exact .ofV fun h => rho_le h i
  | non => exact .ofV fun h => MLe.refl _
  | bl b => exact .ofV fun h => MLe.refl _
  | int b => exact .ofV fun h => MLe.refl _
  | str b => exact .ofV fun h => MLe.refl _
  | gcon i => exact .ofV fun h => MLe.refl _
  | gfn f => exact .ofV fun h => MLe.refl _
  | nil => exact .ofA fun h => MLe.refl _
  | cons e es h1 h2 => exact .ofA fun h => (h1.v h).bind fun w => (h2.a h).bind fun ws => MLe.refl _
  | star e es h1 h2 => exact .ofA fun h => (h1.v h).bind fun w => (MLe.refl _).bind fun us => (h2.a h).bind fun ws => MLe.refl _
  | tup es h1 => exact .ofV fun h => (h1.a h).bind fun ws => MLe.refl _
  | lst es h1 => exact .ofV fun h => (h1.a h).bind fun ws => MLe.refl _
  | dnil => exact .ofD fun h q => MLe.refl _
  | dpair k v ds h1 h2 h3 => exact .ofD fun h q => (h1.v h).bind fun x => (h2.v h).bind fun y => (MLe.refl _).bind fun _ => h3.d h _
  | dstar e ds h1 h2 => exact .ofD fun h q => (h1.v h).bind fun x => (MLe.refl _).bind fun r => (MLe.refl _).bind fun _ => h2.d h _
  | dct ds h1 => exact .ofV fun h => (h1.d h ([], [])).bind fun q => MLe.refl _
  | and a b h1 h2 => exact .ofV fun h => (h1.v h).truth.bind fun c => by cases c; exact MLe.refl _; exact h2.v h
  | or a b h1 h2 => exact .ofV fun h => (h1.v h).truth.bind fun c => by cases c; exact h2.v h; exact MLe.refl _
  | not a h1 => exact .ofV fun h => (h1.v h).truth.bind fun c => MLe.refl _
  | ifx c a b h1 h2 h3 => exact .ofV fun h => (h1.v h).truth.bind fun c => by cases c; exact h3.v h; exact h2.v h
  | cmp o a b h1 h2 => exact .ofV fun h => (h1.v h).bind fun x => (h2.v h).bind fun y => MLe.refl _
  | chain o q a b c h1 h2 h3 => exact .ofV fun h => (h1.v h).bind fun x => (h2.v h).bind fun y => (MLe.refl _).bind fun c1 => by cases c1; exact MLe.refl _; exact (h3.v h).bind fun z => MLe.refl _
  | isn a h1 => exact .ofV fun h => (h1.v h).bind fun x => MLe.refl _
  | notn a h1 => exact .ofV fun h => (h1.v h).bind fun x => MLe.refl _
  | isb a b h1 => exact .ofV fun h => (h1.v h).bind fun x => MLe.refl _
  | bin o a b h1 h2 => exact .ofV fun h => (h1.v h).bind fun x => (h2.v h).bind fun y => MLe.refl _
  | ix a i h1 h2 => exact .ofV fun h => (h1.v h).bind fun x => (h2.v h).bind fun y => MLe.refl _
  | slc a lo hi h1 h2 h3 => exact .ofV fun h => (h1.v h).bind fun x => (h2.v h).bind fun l => (h3.v h).bind fun h => MLe.refl _
  | rev a h1 => exact .ofV fun h => (h1.v h).bind fun x => MLe.refl _
  | call f es h1 => exact .ofV fun h => (h1.a h).bind fun ws => hcf f ws
  | callv i es h1 => exact .ofV fun h => (rho_le h i).bind fun x => (h1.a h).bind fun ws => by cases x <;> first | exact hcf _ ws | exact MLe.refl _
  | blt b es h1 => exact .ofV fun h => (h1.a h).bind fun ws => MLe.refl _
  | skey a f h1 => exact .ofV fun h => (h1.v h).bind fun x => wSortKey_le hcf f x
  | mth m a es h1 h2 => exact .ofV fun h => (h1.v h).bind fun x => (MLe.refl _).bind fun _ => (h2.a h).bind fun ws => MLe.refl _
  | isi k a h1 => exact .ofV fun h => (h1.v h).bind fun x => MLe.refl _
  | lc vs t it c e h1 h2 h3 => exact .ofV fun h => (h1.it h).bind fun q => (comp_le (fun y => turn_le h h2 h3 y) q.1).bind fun ws => MLe.refl _
  | lc2 vs vs1 t it c t1 it1 c1 e h1 h2 h3 h4 h5 => exact .ofV fun h => (h1.it h).bind fun q => (comp_le (fun y => turn2_le h h2 h3 h4 h5 y) q.1).bind fun ws => MLe.refl _
  | dc vs t it c k v h1 h2 h3 h4 => exact .ofV fun h => (h1.it h).bind fun q => (dcl_le (fun y => turnD_le h h2 h3 h4 y) q.1 ([], [])).bind fun r => MLe.refl _
  | iter a h1 => exact .ofI fun h => (h1.v h).bind fun x => MLe.refl _
  | rng1 a h1 => exact .ofI fun h => (h1.v h).bind fun x => MLe.refl _
  | rng2 a b h1 h2 => exact .ofI fun h => (h1.v h).bind fun x => (h2.v h).bind fun y => MLe.refl _
  | enum a h1 => exact .ofI fun h => (h1.v h).bind fun x => MLe.refl _
  | zip a b h1 h2 => exact .ofI fun h => (h1.v h).bind fun x => (h2.v h).bind fun y => MLe.refl _
  | items a h1 => exact .ofI fun h => (h1.v h).bind fun x => MLe.refl _
mutual
theorem tput_le (hcf : ∀ f ws, MLe (cf f ws) (cf' f ws)) : ∀ (t : T) (w : W) (a b a' : Rho) (S S' : Sto), LeR a b → T.put gc cf t w a S = some (a', S') → ∃ b', T.put gc cf' t w b S = some (b', S') ∧ LeR a' b'
  | .nm i, w, a, b, a', S, S', h, e => by
    simp only [T.put] at e ⊢
    cases e
    exact ⟨_, rfl, h.set i _⟩
  | .tp ps, w, a, b, a', S, S', h, e => by
    cases w with
    | tup ws => simp only [T.put] at e ⊢; exact tputs_le hcf ps ws a b a' S S' h e
    | _ => simp [T.put] at e
  | .sub o i, w, a, b, a', S, S', h, e => by
    simp only [T.put] at e ⊢
    split at e
    · rename_i ow S1 e1
      split at e
      · rename_i iw S2 e2
        split at e
        · rename_i u S3 e3
          cases e
          rw [(den_le hcf o).v h S _ e1]; simp only
          rw [(den_le hcf i).v h S1 _ e2]; simp only
          rw [e3]
          exact ⟨b, rfl, h⟩
        · cases e
      · cases e
    · cases e
  | .nil, w, a, b, a', S, S', h, e => by simp [T.put] at e
  | .cons _ _, w, a, b, a', S, S', h, e => by simp [T.put] at e
theorem tputs_le (hcf : ∀ f ws, MLe (cf f ws) (cf' f ws)) : ∀ (t : T) (ws : List W) (a b a' : Rho) (S S' : Sto), LeR a b → T.puts gc cf t ws a S = some (a', S') → ∃ b', T.puts gc cf' t ws b S = some (b', S') ∧ LeR a' b'
  | .nil, ws, a, b, a', S, S', h, e => by
    cases ws with
    | nil => simp only [T.puts] at e ⊢; cases e; exact ⟨_, rfl, h⟩
    | cons w ws => simp [T.puts] at e
  | .cons t ts, ws, a, b, a', S, S', h, e => by
    cases ws with
    | nil => simp [T.puts] at e
    | cons w ws =>
      simp only [T.puts] at e ⊢
      split at e
      · rename_i a1 S1 e1
        obtain ⟨b1, h1, h2⟩ := tput_le hcf t w a b a1 S S1 h e1
        rw [h1]
        exact tputs_le hcf ts ws a1 b1 a' S1 S' h2 e
      · cases e
  | .nm _, ws, a, b, a', S, S', h, e => by cases ws <;> simp [T.puts] at e
  | .tp _, ws, a, b, a', S, S', h, e => by cases ws <;> simp [T.puts] at e
  | .sub _ _, ws, a, b, a', S, S', h, e => by cases ws <;> simp [T.puts] at e
end
def RLe (f f' : Rho → Sto → Option (Fl × Rho × Sto)) : Prop := ∀ a b S fl a' S', LeR a b → f a S = some (fl, a', S') → ∃ b', f' b S = some (fl, b', S') ∧ LeR a' b'
theorem forL_le {src : List (Nat × Ob)} {t : P} {f f' : Rho → Sto → Option (Fl × Rho × Sto)} (hf : RLe f f') : ∀ xs : List W, RLe (forL src t f xs) (forL src t f' xs)
  | [] => by
    intro a b S fl a' S' h e
    simp only [forL] at e ⊢
    split at e
    · rename_i hs
      cases e
      rw [if_pos hs]
      exact ⟨b, rfl, h⟩
    · cases e
  | x :: xs => by
    intro a b S fl a' S' h e
    simp only [forL] at e ⊢
    split at e
    · rename_i hs
      rw [if_pos hs]
      split at e
      · rename_i a1 e1
        obtain ⟨b1, h1, h2⟩ := put_le t x a b a1 h e1
        rw [h1]
        simp only
        split at e
        · rename_i a2 S2 e2
          obtain ⟨b2, h3, h4⟩ := hf a1 b1 S _ a2 S2 h2 e2
          rw [h3]
          exact forL_le hf xs a2 b2 S2 fl a' S' h4 e
        · rename_i a2 S2 e2
          obtain ⟨b2, h3, h4⟩ := hf a1 b1 S _ a2 S2 h2 e2
          rw [h3]
          exact forL_le hf xs a2 b2 S2 fl a' S' h4 e
        · rename_i a2 S2 e2
          cases e
          obtain ⟨b2, h3, h4⟩ := hf a1 b1 S _ _ _ h2 e2
          rw [h3]
          exact ⟨b2, rfl, h4⟩
        · rename_i w a2 S2 e2
          cases e
          obtain ⟨b2, h3, h4⟩ := hf a1 b1 S _ _ _ h2 e2
          rw [h3]
          exact ⟨b2, rfl, h4⟩
        · cases e
      · cases e
    · cases e
theorem whileL_le {c c' : Rho → M Bool} {f f' : Rho → Sto → Option (Fl × Rho × Sto)} (hc : ∀ {a b}, LeR a b → MLe (c a) (c' b)) (hf : RLe f f') : ∀ n : Nat, RLe (whileL c f n) (whileL c' f' n)
  | 0 => by intro a b S fl a' S' h e; simp [whileL] at e
  | n + 1 => by
    intro a b S fl a' S' h e
    simp only [whileL] at e ⊢
    split at e
    · rename_i S1 e1
      rw [hc h S _ e1]
      simp only
      split at e
      · rename_i a2 S2 e2
        obtain ⟨b2, h3, h4⟩ := hf a b S1 _ a2 S2 h e2
        rw [h3]
        exact whileL_le hc hf n a2 b2 S2 fl a' S' h4 e
      · rename_i a2 S2 e2
        obtain ⟨b2, h3, h4⟩ := hf a b S1 _ a2 S2 h e2
        rw [h3]
        exact whileL_le hc hf n a2 b2 S2 fl a' S' h4 e
      · rename_i a2 S2 e2
        cases e
        obtain ⟨b2, h3, h4⟩ := hf a b S1 _ _ _ h e2
        rw [h3]
        exact ⟨b2, rfl, h4⟩
      · rename_i w a2 S2 e2
        cases e
        obtain ⟨b2, h3, h4⟩ := hf a b S1 _ _ _ h e2
        rw [h3]
        exact ⟨b2, rfl, h4⟩
      · cases e
    · rename_i S1 e1
      cases e
      rw [hc h S _ e1]
      exact ⟨b, rfl, h⟩
    · cases e
theorem run_le (hcf : ∀ f ws, MLe (cf f ws) (cf' f ws)) : ∀ c : C, RLe (run gc cf c) (run gc cf' c) := by
  intro c
  induction c with
  | skip => intro a b S fl a' S' h e; simp only [run] at e ⊢; cases e; exact ⟨b, rfl, h⟩
  | brk => intro a b S fl a' S' h e; simp only [run] at e ⊢; cases e; exact ⟨b, rfl, h⟩
  | cont => intro a b S fl a' S' h e; simp only [run] at e ⊢; cases e; exact ⟨b, rfl, h⟩
  | seq x y h1 h2 =>
    intro a b S fl a' S' h e
    simp only [run] at e ⊢
    split at e
    · rename_i a1 S1 e1
      obtain ⟨b1, h3, h4⟩ := h1 a b S _ a1 S1 h e1
      rw [h3]
      exact h2 a1 b1 S1 fl a' S' h4 e
    · rename_i hno
      obtain ⟨b1, h3, h4⟩ := h1 a b S fl a' S' h e
      rw [h3]
      cases fl with
      | nx => exact absurd e (hno _ _)
      | brk => exact ⟨b1, rfl, h4⟩
      | cont => exact ⟨b1, rfl, h4⟩
      | ret w => exact ⟨b1, rfl, h4⟩
  | expr x =>
    intro a b S fl a' S' h e
    simp only [run] at e ⊢
    split at e
    · rename_i w S1 e1
      cases e
      rw [(den_le hcf x).v h S _ e1]
      exact ⟨b, rfl, h⟩
    · cases e
  | asg t x =>
    intro a b S fl a' S' h e
    simp only [run] at e ⊢
    split at e
    · rename_i w S1 e1
      rw [(den_le hcf x).v h S _ e1]
      simp only
      split at e
      · rename_i a2 S2 e2
        cases e
        obtain ⟨b2, h3, h4⟩ := tput_le hcf t w a b _ S1 _ h e2
        rw [h3]
        exact ⟨b2, rfl, h4⟩
      · cases e
    · cases e
  | aug i o x =>
    intro a b S fl a' S' h e
    simp only [run] at e ⊢
    split at e
    · rename_i v hv
      rw [h.2 i v hv]
      simp only
      split at e
      · rename_i y S1 e1
        rw [(den_le hcf x).v h S _ e1]
        simp only
        split at e
        · rename_i w S2 e2
          cases e
          exact ⟨_, rfl, h.set i _⟩
        · cases e
      · cases e
    · cases e
  | ite c x y h1 h2 =>
    intro a b S fl a' S' h e
    simp only [run] at e ⊢
    split at e
    · rename_i S1 e1
      rw [((den_le hcf c).v h).truth S _ e1]
      exact h1 a b S1 fl a' S' h e
    · rename_i S1 e1
      rw [((den_le hcf c).v h).truth S _ e1]
      exact h2 a b S1 fl a' S' h e
    · cases e
  | whl c x h1 =>
    intro a b S fl a' S' h e
    simp only [run] at e ⊢
    exact whileL_le (fun h => ((den_le hcf c).v h).truth) h1 turns a b S fl a' S' h e
  | for_ t it x h1 =>
    intro a b S fl a' S' h e
    simp only [run] at e ⊢
    split at e
    · rename_i xs src S1 e1
      rw [(den_le hcf it).it h S _ e1]
      exact forL_le h1 xs a b S1 fl a' S' h e
    · cases e
  | ret x =>
    intro a b S fl a' S' h e
    simp only [run] at e ⊢
    split at e
    · rename_i w S1 e1
      cases e
      rw [(den_le hcf x).v h S _ e1]
      exact ⟨b, rfl, h⟩
    · cases e
end
end TZ

set_option Elab.async false
set_option linter.all false
set_option maxRecDepth 100000
set_option maxHeartbeats 2000000
/-! A33: a slot that no statement writes stays. -/
namespace TZ
open PySem
def P.wr (i : Nat) : P → Bool
  | .nm j => i == j
  | .tp p => p.wr i
  | .nil => false
  | .cons p q => p.wr i || q.wr i
def T.wr (i : Nat) : T → Bool
  | .nm j => i == j
  | .tp p => p.wr i
  | .nil => false
  | .cons p q => p.wr i || q.wr i
  | .sub _ _ => false
def C.wr (i : Nat) : C → Bool
  | .asg t _ => t.wr i
  | .aug j _ _ => i == j
  | .seq a b => a.wr i || b.wr i
  | .ite _ a b => a.wr i || b.wr i
  | .whl _ b => b.wr i
  | .for_ t _ b => t.wr i || b.wr i
  | _ => false
mutual
theorem put_keep {i : Nat} : ∀ (t : P) (w : W) (a a' : Rho), t.wr i = false → P.put t w a = some a' → a'[i]? = a[i]?
  | .nm j, w, a, a', h, e => by
    simp only [P.put] at e
    cases e
    have hj : ¬ i = j := by simpa [P.wr] using h
    exact List.getElem?_set_ne (fun x => hj x.symm)
  | .tp ps, w, a, a', h, e => by
    cases w with
    | tup ws => simp only [P.put] at e; exact puts_keep ps ws a a' h e
    | _ => simp [P.put] at e
  | .nil, w, a, a', h, e => by simp [P.put] at e
  | .cons _ _, w, a, a', h, e => by simp [P.put] at e
theorem puts_keep {i : Nat} : ∀ (t : P) (ws : List W) (a a' : Rho), t.wr i = false → P.puts t ws a = some a' → a'[i]? = a[i]?
  | .nil, ws, a, a', h, e => by
    cases ws with
    | nil => simp only [P.puts] at e; cases e; rfl
    | cons w ws => simp [P.puts] at e
  | .cons t ts, ws, a, a', h, e => by
    cases ws with
    | nil => simp [P.puts] at e
    | cons w ws =>
      simp only [P.puts] at e
      have h : (t.wr i || ts.wr i) = false := h
      rw [Bool.or_eq_false_iff] at h
      split at e
      · rename_i a1 e1
        rw [puts_keep ts ws a1 a' h.2 e, put_keep t w a a1 h.1 e1]
      · cases e
  | .nm _, ws, a, a', h, e => by cases ws <;> simp [P.puts] at e
  | .tp _, ws, a, a', h, e => by cases ws <;> simp [P.puts] at e
end
section
variable {gc : Nat → W} {cf : Nat → List W → M W}
mutual
theorem tput_keep {i : Nat} : ∀ (t : T) (w : W) (a a' : Rho) (S S' : Sto), t.wr i = false → T.put gc cf t w a S = some (a', S') → a'[i]? = a[i]?
  | .nm j, w, a, a', S, S', h, e => by
    simp only [T.put] at e
    cases e
    have hj : ¬ i = j := by simpa [T.wr] using h
    exact List.getElem?_set_ne (fun x => hj x.symm)
  | .tp ps, w, a, a', S, S', h, e => by
    cases w with
    | tup ws => simp only [T.put] at e; exact tputs_keep ps ws a a' S S' h e
    | _ => simp [T.put] at e
  | .sub o k, w, a, a', S, S', h, e => by
    simp only [T.put] at e
    split at e
    · split at e
      · split at e
        · cases e; rfl
        · cases e
      · cases e
    · cases e
  | .nil, w, a, a', S, S', h, e => by simp [T.put] at e
  | .cons _ _, w, a, a', S, S', h, e => by simp [T.put] at e
theorem tputs_keep {i : Nat} : ∀ (t : T) (ws : List W) (a a' : Rho) (S S' : Sto), t.wr i = false → T.puts gc cf t ws a S = some (a', S') → a'[i]? = a[i]?
  | .nil, ws, a, a', S, S', h, e => by
    cases ws with
    | nil => simp only [T.puts] at e; cases e; rfl
    | cons w ws => simp [T.puts] at e
  | .cons t ts, ws, a, a', S, S', h, e => by
    cases ws with
    | nil => simp [T.puts] at e
    | cons w ws =>
      simp only [T.puts] at e
      have h : (t.wr i || ts.wr i) = false := h
      rw [Bool.or_eq_false_iff] at h
      split at e
      · rename_i a1 S1 e1
        rw [tputs_keep ts ws a1 a' S1 S' h.2 e, tput_keep t w a a1 S S1 h.1 e1]
      · cases e
  | .nm _, ws, a, a', S, S', h, e => by cases ws <;> simp [T.puts] at e
  | .tp _, ws, a, a', S, S', h, e => by cases ws <;> simp [T.puts] at e
  | .sub _ _, ws, a, a', S, S', h, e => by cases ws <;> simp [T.puts] at e
end
def RKe (i : Nat) (f : Rho → Sto → Option (Fl × Rho × Sto)) : Prop := ∀ a S fl a' S', f a S = some (fl, a', S') → a'[i]? = a[i]?
theorem forL_keep {i : Nat} {src : List (Nat × Ob)} {t : P} {f : Rho → Sto → Option (Fl × Rho × Sto)} (ht : t.wr i = false) (hf : RKe i f) : ∀ xs : List W, RKe i (forL src t f xs)
  | [] => by
    intro a S fl a' S' e
    simp only [forL] at e
    split at e
    · cases e; rfl
    · cases e
  | x :: xs => by
    intro a S fl a' S' e
    simp only [forL] at e
    split at e
    · split at e
      · rename_i a1 e1
        have k1 := put_keep t x a a1 ht e1
        split at e
        · rename_i a2 S2 e2
          rw [forL_keep ht hf xs a2 S2 fl a' S' e, hf a1 S _ a2 S2 e2, k1]
        · rename_i a2 S2 e2
          rw [forL_keep ht hf xs a2 S2 fl a' S' e, hf a1 S _ a2 S2 e2, k1]
        · rename_i a2 S2 e2
          cases e
          rw [hf a1 S _ _ _ e2, k1]
        · rename_i w a2 S2 e2
          cases e
          rw [hf a1 S _ _ _ e2, k1]
        · cases e
      · cases e
    · cases e
theorem whileL_keep {i : Nat} {c : Rho → M Bool} {f : Rho → Sto → Option (Fl × Rho × Sto)} (hf : RKe i f) : ∀ n : Nat, RKe i (whileL c f n)
  | 0 => by intro a S fl a' S' e; simp [whileL] at e
  | n + 1 => by
    intro a S fl a' S' e
    simp only [whileL] at e
    split at e
    · rename_i S1 e1
      split at e
      · rename_i a2 S2 e2
        rw [whileL_keep hf n a2 S2 fl a' S' e, hf a S1 _ a2 S2 e2]
      · rename_i a2 S2 e2
        rw [whileL_keep hf n a2 S2 fl a' S' e, hf a S1 _ a2 S2 e2]
      · rename_i a2 S2 e2
        cases e
        exact hf a S1 _ _ _ e2
      · rename_i w a2 S2 e2
        cases e
        exact hf a S1 _ _ _ e2
      · cases e
    · cases e; rfl
    · cases e
theorem run_keep {i : Nat} : ∀ c : C, c.wr i = false → RKe i (run gc cf c) := by
  intro c
  induction c with
  | skip => intro hw a S fl a' S' e; simp only [run] at e; cases e; rfl
  | brk => intro hw a S fl a' S' e; simp only [run] at e; cases e; rfl
  | cont => intro hw a S fl a' S' e; simp only [run] at e; cases e; rfl
  | seq x y h1 h2 =>
    intro hw a S fl a' S' e
    have hw : (x.wr i || y.wr i) = false := hw
    rw [Bool.or_eq_false_iff] at hw
    simp only [run] at e
    split at e
    · rename_i a1 S1 e1
      rw [h2 hw.2 a1 S1 fl a' S' e, h1 hw.1 a S _ a1 S1 e1]
    · exact h1 hw.1 a S fl a' S' e
  | expr x =>
    intro hw a S fl a' S' e
    simp only [run] at e
    split at e
    · cases e; rfl
    · cases e
  | asg t x =>
    intro hw a S fl a' S' e
    simp only [run] at e
    split at e
    · rename_i w S1 e1
      split at e
      · rename_i a2 S2 e2
        cases e
        exact tput_keep t w a _ S1 _ hw e2
      · cases e
    · cases e
  | aug j o x =>
    intro hw a S fl a' S' e
    have hj : ¬ i = j := by simpa [C.wr] using hw
    simp only [run] at e
    split at e
    · split at e
      · split at e
        · cases e
          exact List.getElem?_set_ne (fun x => hj x.symm)
        · cases e
      · cases e
    · cases e
  | ite c x y h1 h2 =>
    intro hw a S fl a' S' e
    have hw : (x.wr i || y.wr i) = false := hw
    rw [Bool.or_eq_false_iff] at hw
    simp only [run] at e
    split at e
    · exact h1 hw.1 a _ fl a' S' e
    · exact h2 hw.2 a _ fl a' S' e
    · cases e
  | whl c x h1 =>
    intro hw a S fl a' S' e
    simp only [run] at e
    exact whileL_keep (h1 hw) turns a S fl a' S' e
  | for_ t it x h1 =>
    intro hw a S fl a' S' e
    have hw : (t.wr i || x.wr i) = false := hw
    rw [Bool.or_eq_false_iff] at hw
    simp only [run] at e
    split at e
    · exact forL_keep hw.1 (h1 hw.2) _ a _ fl a' S' e
    · cases e
  | ret x =>
    intro hw a S fl a' S' e
    simp only [run] at e
    split at e
    · cases e; rfl
    · cases e
end
end TZ

set_option Elab.async false
set_option linter.all false
set_option maxRecDepth 100000
/-! Defs: the laws' and the program's defs as small terms (printed by defs.py). -/
namespace TZ
def d_law_draw : Def := { ps := 2, rest := false, slots := 5, keep := false, body :=
  (.seq (.asg (.nm 2) (.int 2305843009213693951))
  (.seq (.ite (.cmp .lt (.ix (.var 0) (.int 2)) (.var 1))
  (.seq (.asg (.nm 3) (.int 0))
  (.seq (.ite (.cmp .gt (.blt .len (.cons (.ix (.var 0) (.int 0)) .nil)) (.int 0))
  (.asg (.nm 3) (.ix (.ix (.var 0) (.int 0)) (.bin .mod (.ix (.var 0) (.int 1)) (.blt .len (.cons (.ix (.var 0) (.int 0)) .nil)))))
  .skip)
  (.seq (.ite (.or (.cmp .ge (.ix (.var 0) (.int 1)) (.blt .len (.cons (.ix (.var 0) (.int 0)) .nil))) (.cmp .lt (.var 3) (.bin .pow (.int 10) (.int 18))))
  (.seq (.asg (.nm 3) (.bin .mod (.bin .add (.var 3) (.bin .mul (.int 1000003) (.ix (.var 0) (.int 1)))) (.var 2)))
  (.seq (.asg (.nm 3) (.bin .mod (.bin .add (.bin .add (.bin .mul (.var 3) (.var 3)) (.bin .mul (.int 1181783497276652981) (.var 3))) (.int 2049848353892358983)) (.var 2)))
  (.asg (.nm 3) (.bin .mod (.bin .add (.bin .mul (.var 3) (.var 3)) (.int 1442695040888963407)) (.var 2)))))
  .skip)
  (.seq (.asg (.sub (.var 0) (.int 1)) (.bin .add (.ix (.var 0) (.int 1)) (.int 1)))
  (.asg (.sub (.var 0) (.int 2)) (.var 3))))))
  .skip)
  (.seq (.asg (.nm 4) (.bin .mod (.ix (.var 0) (.int 2)) (.var 1)))
  (.seq (.asg (.sub (.var 0) (.int 2)) (.bin .fdiv (.ix (.var 0) (.int 2)) (.var 1)))
  (.ret (.var 4)))))) }
def d_law_like : Def := { ps := 2, rest := false, slots := 3, keep := false, body :=
  (.seq (.ite (.isi { list := true, tuple := true } (.var 0))
  (.seq (.ite (.or (.cmp .ne (.isi { list := true } (.var 0)) (.isi { list := true } (.var 1))) (.cmp .ne (.isi { tuple := true } (.var 0)) (.isi { tuple := true } (.var 1))))
  (.ret (.bl false))
  .skip)
  (.seq (.ite (.cmp .ne (.blt .len (.cons (.var 0) .nil)) (.blt .len (.cons (.var 1) .nil)))
  (.ret (.bl false))
  .skip)
  (.ret (.cmp .eq (.lc [2] (.nm 2) (.rng1 (.blt .len (.cons (.var 0) .nil))) (.not (.call 1 (.cons (.ix (.var 0) (.var 2)) (.cons (.ix (.var 1) (.var 2)) .nil)))) (.var 2)) (.lst .nil)))))
  .skip)
  (.seq (.ite (.isi { list := true, tuple := true } (.var 1))
  (.ret (.bl false))
  .skip)
  (.ret (.and (.cmp .eq (.isi { bool := true } (.var 0)) (.isi { bool := true } (.var 1))) (.cmp .eq (.var 0) (.var 1)))))) }
def d_own_done : Def := { ps := 2, rest := false, slots := 6, keep := false, body :=
  (.seq (.asg (.tp (.cons (.nm 2) (.cons (.nm 3) (.cons (.nm 4) (.cons (.nm 5) .nil))))) (.var 0))
  (.seq (.ite (.cmp .eq (.ix (.var 1) (.int 0)) (.str "write"))
  (.ret (.tup (.cons (.var 2) (.cons (.var 3) (.cons (.var 4) (.cons (.ix (.var 1) (.int 2)) .nil))))))
  .skip)
  (.seq (.ite (.cmp .eq (.ix (.var 1) (.int 0)) (.str "add"))
  (.ret (.tup (.cons (.var 2) (.cons (.var 3) (.cons (.var 5) (.cons (.var 5) .nil))))))
  .skip)
  (.seq (.ite (.cmp .eq (.ix (.var 1) (.int 0)) (.str "unstage"))
  (.ret (.tup (.cons (.var 2) (.cons (.var 3) (.cons (.ix (.var 2) (.int (-1))) (.cons (.var 5) .nil))))))
  .skip)
  (.ret (.tup (.cons (.var 2) (.cons (.var 3) (.cons (.var 4) (.cons (.var 4) .nil)))))))))) }
def d_fewest_moves : Def := { ps := 2, rest := false, slots := 9, keep := false, body :=
  (.seq (.asg (.nm 2) (.lst (.cons (.tup (.cons (.tup (.cons (.ix (.var 0) (.int 0)) .nil)) (.cons (.tup (.cons .non .nil)) (.cons (.ix (.var 0) (.int 1)) (.cons (.ix (.var 0) (.int 2)) .nil))))) .nil)))
  (.seq (.asg (.tp (.cons (.nm 3) (.cons (.nm 4) .nil))) (.tup (.cons (.dct (.dpair (.ix (.var 2) (.int 0)) (.int 0) .dnil)) (.cons (.int 0) .nil))))
  (.seq (.whl (.cmp .ne (.var 2) (.lst .nil))
  (.seq (.asg (.tp (.cons (.nm 5) (.cons (.nm 4) .nil))) (.tup (.cons (.lst .nil) (.cons (.bin .add (.var 4) (.int 1)) .nil))))
  (.seq (.for_ (.nm 6) (.iter (.var 2))
  (.for_ (.nm 7) (.iter (.tup (.cons (.str "add") (.cons (.str "unstage") (.cons (.str "restore") .nil)))))
  (.seq (.asg (.nm 8) (.call 2 (.cons (.var 6) (.cons (.tup (.cons (.var 7) (.cons (.str "") .nil))) .nil))))
  (.ite (.cmp .ni (.var 8) (.var 3))
  (.seq (.asg (.sub (.var 3) (.var 8)) (.var 4))
  (.expr (.mth .append (.var 5) (.cons (.var 8) .nil))))
  .skip))))
  (.asg (.nm 2) (.var 5)))))
  (.ret (.mth .get1 (.var 3) (.cons (.tup (.cons (.tup (.cons (.ix (.var 0) (.int 0)) .nil)) (.cons (.tup (.cons .non .nil)) (.cons (.ix (.var 1) (.int 0)) (.cons (.ix (.var 1) (.int 1)) .nil))))) .nil)))))) }
def d_law_whole : Def := { ps := 1, rest := false, slots := 1, keep := false, body :=
  (.ret (.and (.isi { int := true } (.var 0)) (.not (.isi { bool := true } (.var 0))))) }
def d_law_within : Def := { ps := 3, rest := false, slots := 3, keep := false, body :=
  (.ret (.and (.call 5 (.cons (.var 0) .nil)) (.chain .le .le (.var 1) (.var 0) (.var 2)))) }
def d_law_spoilt : Def := { ps := 2, rest := false, slots := 6, keep := false, body :=
  (.seq (.ite (.and (.isi { list := true, tuple := true } (.var 1)) (.and (.cmp .gt (.blt .len (.cons (.var 1) .nil)) (.int 0)) (.cmp .gt (.call 0 (.cons (.var 0) (.cons (.int 7) .nil))) (.int 0))))
  (.seq (.asg (.nm 2) (.call 0 (.cons (.var 0) (.cons (.blt .len (.cons (.var 1) .nil)) .nil))))
  (.seq (.asg (.nm 3) (.blt .list (.cons (.var 1) .nil)))
  (.seq (.asg (.nm 4) (.call 0 (.cons (.var 0) (.cons (.int 12) .nil))))
  (.seq (.ite (.cmp .lt (.var 4) (.int 8))
  (.asg (.sub (.var 3) (.var 2)) (.call 7 (.cons (.var 0) (.cons (.ix (.var 3) (.var 2)) .nil))))
  (.ite (.cmp .eq (.var 4) (.int 8))
  (.expr (.mth .pop1 (.var 3) (.cons (.var 2) .nil)))
  (.ite (.cmp .eq (.var 4) (.int 9))
  (.expr (.mth .insert (.var 3) (.cons (.var 2) (.cons (.ix (.var 3) (.call 0 (.cons (.var 0) (.cons (.blt .len (.cons (.var 3) .nil)) .nil)))) .nil))))
  (.ite (.cmp .eq (.var 4) (.int 10))
  (.asg (.nm 3) (.rev (.var 3)))
  (.expr (.mth .insert (.var 3) (.cons (.var 2) (.cons (.call 8 (.cons (.var 0) (.cons (.int 1) .nil))) .nil))))))))
  (.ret (.ifx (.isi { tuple := true } (.var 1)) (.blt .tuple (.cons (.var 3) .nil)) (.var 3)))))))
  .skip)
  (.seq (.ite (.and (.call 5 (.cons (.var 1) .nil)) (.cmp .gt (.call 0 (.cons (.var 0) (.cons (.int 6) .nil))) (.int 0)))
  (.ret (.bin .add (.var 1) (.ix (.lst (.cons (.int 1) (.cons (.int (-1)) (.cons (.int 2) (.cons (.int (-2)) (.cons (.int 9) (.cons (.int 1000) .nil))))))) (.call 0 (.cons (.var 0) (.cons (.int 6) .nil))))))
  .skip)
  (.seq (.ite (.and (.isi { str := true } (.var 1)) (.cmp .gt (.call 0 (.cons (.var 0) (.cons (.int 3) .nil))) (.int 0)))
  (.seq (.asg (.nm 5) (.call 0 (.cons (.var 0) (.cons (.bin .add (.blt .len (.cons (.var 1) .nil)) (.int 1)) .nil))))
  (.ret (.bin .add (.bin .add (.slc (.var 1) .non (.var 5)) (.ix (.lst (.cons (.str " ") (.cons (.str "z") (.cons (.str "A") (.cons (.str "|") (.cons (.str "abcdefgh") (.cons (.str "") .nil))))))) (.call 0 (.cons (.var 0) (.cons (.int 6) .nil))))) (.slc (.var 1) (.var 5) .non))))
  .skip)
  (.seq (.ite (.and (.isi { list := true, tuple := true } (.var 1)) (.cmp .eq (.call 0 (.cons (.var 0) (.cons (.int 2) .nil))) (.int 0)))
  (.ret (.ifx (.isi { tuple := true } (.var 1)) (.blt .list (.cons (.var 1) .nil)) (.blt .tuple (.cons (.var 1) .nil))))
  .skip)
  (.ret (.call 8 (.cons (.var 0) (.cons (.int 2) .nil)))))))) }
def d_law_any : Def := { ps := 2, rest := false, slots := 5, keep := false, body :=
  (.seq (.asg (.nm 2) (.call 0 (.cons (.var 0) (.cons (.int 13) .nil))))
  (.seq (.ite (.and (.cmp .lt (.var 2) (.int 4)) (.cmp .gt (.var 1) (.int 0)))
  (.seq (.asg (.nm 3) (.lc [4] (.nm 4) (.rng1 (.call 0 (.cons (.var 0) (.cons (.int 4) .nil)))) (.bl true) (.call 8 (.cons (.var 0) (.cons (.bin .sub (.var 1) (.int 1)) .nil)))))
  (.ret (.ix (.lst (.cons (.var 3) (.cons (.blt .tuple (.cons (.var 3) .nil)) (.cons (.blt .tuple (.cons (.var 3) .nil)) (.cons (.blt .tuple (.cons (.var 3) .nil)) .nil))))) (.var 2))))
  .skip)
  (.seq (.ite (.cmp .lt (.var 2) (.int 8))
  (.ret (.ix (.lst (.cons (.bin .sub (.call 0 (.cons (.var 0) (.cons (.int 12) .nil))) (.int 2)) (.cons (.call 0 (.cons (.var 0) (.cons (.bin .pow (.int 10) (.int 12)) .nil))) (.cons (.int 0) (.cons (.int 3) .nil))))) (.blt .max2 (.cons (.int 0) (.cons (.bin .sub (.var 2) (.int 4)) .nil)))))
  .skip)
  (.seq (.asg (.nm 3) (.lst (.cons (.str "") (.cons (.str " ") (.cons (.str "a") (.cons (.str "write") (.cons (.str "b") (.cons (.str "switch") (.cons (.str "1 1\na 1 2 1 1") .nil)))))))))
  (.ret (.ix (.lst (.cons (.bl true) (.cons (.bl false) (.cons .non (.cons (.ix (.var 3) (.call 0 (.cons (.var 0) (.cons (.int 7) .nil)))) (.cons (.tup (.cons (.int 1) (.cons (.int 2) .nil))) .nil)))))) (.bin .sub (.var 2) (.int 8)))))))) }
def d_law_content : Def := { ps := 1, rest := false, slots := 1, keep := false, body :=
  (.ret (.ix (.lst (.cons .non (.cons (.int 1) (.cons (.int 2) (.cons (.int 1) (.cons (.int 3) (.cons (.bin .pow (.int 10) (.int 6)) .nil))))))) (.call 0 (.cons (.var 0) (.cons (.int 6) .nil))))) }
def d_law_command : Def := { ps := 3, rest := false, slots := 6, keep := false, body :=
  (.seq (.asg (.nm 3) (.lst (.cons (.str "add") (.cons (.str "unstage") (.cons (.str "restore") (.cons (.str "write") (.cons (.str "write") (.cons (.str "commit") (.cons (.str "switch") (.cons (.str "hard") (.cons (.str "mixed") (.cons (.str "soft") .nil))))))))))))
  (.seq (.asg (.nm 4) (.ix (.var 3) (.call 0 (.cons (.var 0) (.cons (.int 10) .nil)))))
  (.seq (.asg (.nm 5) (.ix (.var 1) (.call 0 (.cons (.var 0) (.cons (.blt .len (.cons (.var 1) .nil)) .nil)))))
  (.seq (.ite (.cmp .in_ (.var 4) (.tup (.cons (.str "commit") (.cons (.str "switch") .nil))))
  (.ret (.tup (.cons (.var 4) .nil)))
  .skip)
  (.seq (.ite (.cmp .in_ (.var 4) (.tup (.cons (.str "hard") (.cons (.str "mixed") (.cons (.str "soft") .nil)))))
  (.ret (.tup (.cons (.var 4) (.cons (.blt .int (.cons (.cmp .eq (.call 0 (.cons (.var 0) (.cons (.int 3) .nil))) (.int 0)) .nil)) .nil))))
  .skip)
  (.seq (.ite (.cmp .eq (.var 4) (.str "write"))
  (.ret (.tup (.cons (.var 4) (.cons (.var 5) (.cons (.ifx (.cmp .eq (.call 0 (.cons (.var 0) (.cons (.int 4) .nil))) (.int 0)) .non (.var 2)) .nil)))))
  .skip)
  (.ret (.tup (.cons (.var 4) (.cons (.var 5) .nil)))))))))) }
def d_law_cuts : Def := { ps := 1, rest := false, slots := 2, keep := false, body :=
  (.ret (.blt .len (.cons (.lc [1] (.nm 1) (.iter (.var 0)) (.and (.cmp .in_ (.ix (.var 1) (.int 0)) (.tup (.cons (.str "hard") (.cons (.str "mixed") (.cons (.str "soft") .nil))))) (.cmp .eq (.ix (.var 1) (.int 1)) (.int 1))) (.int 1)) .nil))) }
def d_law_switches : Def := { ps := 1, rest := false, slots := 2, keep := false, body :=
  (.ret (.blt .len (.cons (.lc [1] (.nm 1) (.iter (.var 0)) (.cmp .eq (.var 1) (.tup (.cons (.str "switch") .nil))) (.int 1)) .nil))) }
def d_law_light : Def := { ps := 2, rest := false, slots := 5, keep := false, body :=
  (.seq (.asg (.nm 2) (.blt .max1 (.cons (.lc [3] (.nm 3) (.iter (.var 0)) (.bl true) (.call 11 (.cons (.var 3) .nil))) .nil)))
  (.seq (.asg (.nm 4) (.blt .max1 (.cons (.lc [3] (.nm 3) (.iter (.var 0)) (.bl true) (.call 12 (.cons (.var 3) .nil))) .nil)))
  (.ret (.and (.cmp .lt (.var 2) (.int 2)) (.and (.cmp .lt (.var 4) (.int 3)) (.or (.cmp .eq (.var 2) (.int 0)) (.cmp .eq (.var 4) (.int 0)))))))) }
def d_law_program : Def := { ps := 3, rest := false, slots := 7, keep := false, body :=
  (.seq (.asg (.tp (.cons (.nm 3) (.cons (.nm 4) .nil))) (.tup (.cons (.tup .nil) (.cons (.bin .add (.int 1) (.call 0 (.cons (.var 0) (.cons (.int 3) .nil)))) .nil))))
  (.seq (.for_ (.nm 5) (.rng1 (.call 0 (.cons (.var 0) (.cons (.bin .add (.var 2) (.int 1)) .nil))))
  (.seq (.asg (.nm 6) (.bin .add (.var 3) (.tup (.cons (.call 10 (.cons (.var 0) (.cons (.var 1) (.cons (.var 4) .nil)))) .nil))))
  (.ite (.call 13 (.cons (.lst (.cons (.var 6) .nil)) (.cons (.var 1) .nil)))
  (.asg (.nm 3) (.var 6))
  .skip)))
  (.ret (.var 3)))) }
def d_law_names : Def := { ps := 1, rest := false, slots := 1, keep := false, body :=
  (.ret (.ix (.lst (.cons (.lst (.cons (.str "a") .nil)) (.cons (.lst (.cons (.str "a") (.cons (.str "bb") .nil))) (.cons (.lst (.cons (.str "dog") (.cons (.str "c") .nil))) .nil)))) (.call 0 (.cons (.var 0) (.cons (.int 3) .nil))))) }
def d_law_file : Def := { ps := 4, rest := false, slots := 9, keep := false, body :=
  (.seq (.asg (.tp (.cons (.nm 4) (.cons (.nm 5) .nil))) (.tup (.cons (.lst .nil) (.cons (.lst .nil) .nil))))
  (.seq (.for_ (.nm 6) (.rng1 (.var 2))
  (.expr (.mth .append (.var 4) (.cons (.call 9 (.cons (.var 0) .nil)) .nil))))
  (.seq (.for_ (.nm 6) (.rng1 (.var 3))
  (.expr (.mth .append (.var 5) (.cons (.ifx (.cmp .eq (.call 0 (.cons (.var 0) (.cons (.int 2) .nil))) (.int 0)) (.call 9 (.cons (.var 0) .nil)) (.ix (.var 4) (.int (-1)))) .nil))))
  (.seq (.asg (.nm 7) (.ix (.lst (.cons (.ix (.var 4) (.int (-1))) (.cons (.ix (.var 5) (.int (-1))) (.cons (.call 9 (.cons (.var 0) .nil)) (.cons (.ix (.var 4) (.int (-1))) .nil))))) (.call 0 (.cons (.var 0) (.cons (.int 4) .nil)))))
  (.seq (.asg (.nm 8) (.ix (.lst (.cons (.var 7) (.cons (.call 9 (.cons (.var 0) .nil)) (.cons (.var 7) (.cons (.ix (.var 5) (.int (-1))) .nil))))) (.call 0 (.cons (.var 0) (.cons (.int 4) .nil)))))
  (.ret (.tup (.cons (.var 1) (.cons (.blt .tuple (.cons (.var 4) .nil)) (.cons (.blt .tuple (.cons (.var 5) .nil)) (.cons (.var 7) (.cons (.var 8) .nil)))))))))))) }
def d_law_bare : Def := { ps := 1, rest := false, slots := 2, keep := false, body :=
  (.ret (.cmp .eq (.lc [1] (.nm 1) (.iter (.bin .add (.bin .add (.ix (.var 0) (.int 1)) (.ix (.var 0) (.int 2))) (.slc (.var 0) (.int 3) .non))) (.notn (.var 1)) (.var 1)) (.lst .nil))) }
def d_law_project : Def := { ps := 2, rest := false, slots := 7, keep := false, body :=
  (.seq (.asg (.tp (.cons (.nm 2) (.cons (.nm 3) (.cons (.nm 4) .nil)))) (.tup (.cons (.bin .add (.int 1) (.call 0 (.cons (.var 0) (.cons (.int 3) .nil)))) (.cons (.bin .add (.int 1) (.call 0 (.cons (.var 0) (.cons (.int 3) .nil)))) (.cons (.lst .nil) .nil)))))
  (.seq (.for_ (.nm 5) (.iter (.blt .sorted (.cons (.var 1) .nil)))
  (.ite (.cmp .gt (.call 0 (.cons (.var 0) (.cons (.int 4) .nil))) (.int 0))
  (.seq (.asg (.nm 6) (.call 16 (.cons (.var 0) (.cons (.var 5) (.cons (.var 2) (.cons (.var 3) .nil))))))
  (.asg (.nm 4) (.bin .add (.var 4) (.bin .mul (.lst (.cons (.var 6) .nil)) (.blt .int (.cons (.not (.call 17 (.cons (.var 6) .nil))) .nil))))))
  .skip))
  (.ret (.tup (.cons (.var 2) (.cons (.var 3) (.cons (.blt .tuple (.cons (.var 4) .nil)) .nil))))))) }
def d_law_mentioned : Def := { ps := 1, rest := false, slots := 3, keep := false, body :=
  (.seq (.asg (.nm 1) (.tup (.cons (.str "add") (.cons (.str "unstage") (.cons (.str "restore") (.cons (.str "write") .nil))))))
  (.ret (.blt .sortset (.cons (.lc [2] (.nm 2) (.iter (.var 0)) (.cmp .in_ (.ix (.var 2) (.int 0)) (.var 1)) (.ix (.var 2) (.int 1))) .nil)))) }
def d_law_written : Def := { ps := 1, rest := false, slots := 2, keep := false, body :=
  (.ret (.blt .sortset (.cons (.lc [1] (.nm 1) (.iter (.var 0)) (.and (.cmp .eq (.ix (.var 1) (.int 0)) (.str "write")) (.notn (.ix (.var 1) (.int 2)))) (.ix (.var 1) (.int 2))) .nil))) }
def d_law_is_word : Def := { ps := 1, rest := false, slots := 2, keep := false, body :=
  (.ret (.and (.isi { str := true } (.var 0)) (.and (.chain .lt .lt (.int 0) (.blt .len (.cons (.var 0) .nil)) (.int 5)) (.cmp .eq (.lc [1] (.nm 1) (.iter (.var 0)) (.not (.chain .le .le (.str "a") (.var 1) (.str "z"))) (.var 1)) (.lst .nil))))) }
def d_law_is_part : Def := { ps := 1, rest := false, slots := 1, keep := false, body :=
  (.ret (.or (.isn (.var 0)) (.call 6 (.cons (.var 0) (.cons (.int 0) (.cons (.bin .pow (.int 10) (.int 6)) .nil)))))) }
def d_law_is_file : Def := { ps := 3, rest := false, slots := 5, keep := false, body :=
  (.seq (.ite (.or (.not (.isi { tuple := true } (.var 0))) (.or (.cmp .ne (.blt .len (.cons (.var 0) .nil)) (.int 5)) (.not (.call 21 (.cons (.ix (.var 0) (.int 0)) .nil)))))
  (.ret (.bl false))
  .skip)
  (.seq (.ite (.or (.not (.isi { tuple := true } (.ix (.var 0) (.int 1)))) (.not (.isi { tuple := true } (.ix (.var 0) (.int 2)))))
  (.ret (.bl false))
  .skip)
  (.seq (.ite (.or (.cmp .ne (.blt .len (.cons (.ix (.var 0) (.int 1)) .nil)) (.var 1)) (.cmp .ne (.blt .len (.cons (.ix (.var 0) (.int 2)) .nil)) (.var 2)))
  (.ret (.bl false))
  .skip)
  (.seq (.asg (.nm 3) (.bin .add (.bin .add (.ix (.var 0) (.int 1)) (.ix (.var 0) (.int 2))) (.slc (.var 0) (.int 3) .non)))
  (.ret (.and (.cmp .eq (.lc [4] (.nm 4) (.iter (.var 3)) (.not (.call 22 (.cons (.var 4) .nil))) (.var 4)) (.lst .nil)) (.not (.call 17 (.cons (.var 0) .nil))))))))) }
def d_law_is_project : Def := { ps := 1, rest := false, slots := 3, keep := false, body :=
  (.seq (.ite (.or (.not (.isi { tuple := true } (.var 0))) (.or (.cmp .ne (.blt .len (.cons (.var 0) .nil)) (.int 3)) (.or (.not (.isi { tuple := true } (.ix (.var 0) (.int 2)))) (.cmp .gt (.blt .len (.cons (.ix (.var 0) (.int 2)) .nil)) (.int 8)))))
  (.ret (.bl false))
  .skip)
  (.seq (.ite (.or (.not (.call 6 (.cons (.ix (.var 0) (.int 0)) (.cons (.int 1) (.cons (.int 8) .nil))))) (.not (.call 6 (.cons (.ix (.var 0) (.int 1)) (.cons (.int 1) (.cons (.int 8) .nil))))))
  (.ret (.bl false))
  .skip)
  (.seq (.ite (.cmp .ne (.lc [1] (.nm 1) (.iter (.ix (.var 0) (.int 2))) (.not (.call 23 (.cons (.var 1) (.cons (.ix (.var 0) (.int 0)) (.cons (.ix (.var 0) (.int 1)) .nil))))) (.var 1)) (.lst .nil))
  (.ret (.bl false))
  .skip)
  (.seq (.asg (.nm 2) (.lc [1] (.nm 1) (.iter (.ix (.var 0) (.int 2))) (.bl true) (.ix (.var 1) (.int 0))))
  (.ret (.cmp .eq (.var 2) (.blt .sortset (.cons (.var 2) .nil)))))))) }
def d_law_is_command : Def := { ps := 1, rest := false, slots := 1, keep := false, body :=
  (.seq (.ite (.or (.not (.isi { tuple := true } (.var 0))) (.or (.cmp .eq (.var 0) (.tup .nil)) (.not (.isi { str := true } (.ix (.var 0) (.int 0))))))
  (.ret (.bl false))
  .skip)
  (.seq (.ite (.cmp .in_ (.ix (.var 0) (.int 0)) (.tup (.cons (.str "commit") (.cons (.str "switch") .nil))))
  (.ret (.cmp .eq (.blt .len (.cons (.var 0) .nil)) (.int 1)))
  .skip)
  (.seq (.ite (.cmp .in_ (.ix (.var 0) (.int 0)) (.tup (.cons (.str "add") (.cons (.str "unstage") (.cons (.str "restore") .nil)))))
  (.ret (.and (.cmp .eq (.blt .len (.cons (.var 0) .nil)) (.int 2)) (.call 21 (.cons (.ix (.var 0) (.int 1)) .nil))))
  .skip)
  (.seq (.ite (.cmp .in_ (.ix (.var 0) (.int 0)) (.tup (.cons (.str "soft") (.cons (.str "mixed") (.cons (.str "hard") .nil)))))
  (.ret (.and (.cmp .eq (.blt .len (.cons (.var 0) .nil)) (.int 2)) (.call 6 (.cons (.ix (.var 0) (.int 1)) (.cons (.int 0) (.cons (.int 1) .nil))))))
  .skip)
  (.ret (.and (.cmp .eq (.ix (.var 0) (.int 0)) (.str "write")) (.and (.cmp .eq (.blt .len (.cons (.var 0) .nil)) (.int 3)) (.and (.call 21 (.cons (.ix (.var 0) (.int 1)) .nil)) (.call 22 (.cons (.ix (.var 0) (.int 2)) .nil)))))))))) }
def d_law_is_program : Def := { ps := 1, rest := false, slots := 2, keep := false, body :=
  (.seq (.ite (.or (.not (.isi { tuple := true } (.var 0))) (.cmp .gt (.blt .len (.cons (.var 0) .nil)) (.int 6)))
  (.ret (.bl false))
  .skip)
  (.seq (.ite (.cmp .ne (.lc [1] (.nm 1) (.iter (.var 0)) (.not (.call 25 (.cons (.var 1) .nil))) (.var 1)) (.lst .nil))
  (.ret (.bl false))
  .skip)
  (.seq (.ite (.or (.cmp .gt (.blt .len (.cons (.call 19 (.cons (.var 0) .nil)) .nil)) (.int 2)) (.cmp .gt (.blt .len (.cons (.call 20 (.cons (.var 0) .nil)) .nil)) (.int 1)))
  (.ret (.bl false))
  .skip)
  (.ret (.and (.cmp .lt (.call 11 (.cons (.var 0) .nil)) (.int 2)) (.cmp .lt (.bin .add (.call 11 (.cons (.var 0) .nil)) (.call 12 (.cons (.var 0) .nil))) (.int 3))))))) }
def d_is_name : Def := { ps := 1, rest := false, slots := 2, keep := false, body :=
  (.ret (.and (.isi { str := true } (.var 0)) (.and (.chain .le .le (.int 1) (.blt .len (.cons (.var 0) .nil)) (.int 4)) (.blt .all (.cons (.lc [1] (.nm 1) (.iter (.var 0)) (.bl true) (.cmp .in_ (.var 1) (.gcon 0))) .nil))))) }
def d_is_integer : Def := { ps := 3, rest := false, slots := 3, keep := false, body :=
  (.ret (.and (.isi { int := true } (.var 0)) (.and (.not (.isi { bool := true } (.var 0))) (.chain .le .le (.var 1) (.var 0) (.var 2))))) }
def d_is_content : Def := { ps := 1, rest := false, slots := 1, keep := false, body :=
  (.ret (.or (.isn (.var 0)) (.call 28 (.cons (.var 0) (.cons (.int 0) (.cons (.gcon 1) .nil)))))) }
def d_is_line : Def := { ps := 2, rest := false, slots := 3, keep := false, body :=
  (.ret (.and (.isi { tuple := true } (.var 0)) (.and (.cmp .eq (.blt .len (.cons (.var 0) .nil)) (.var 1)) (.blt .all (.cons (.lc [2] (.nm 2) (.iter (.var 0)) (.bl true) (.call 29 (.cons (.var 2) .nil))) .nil))))) }
def d_is_file : Def := { ps := 3, rest := false, slots := 3, keep := false, body :=
  (.seq (.ite (.or (.not (.isi { tuple := true } (.var 0))) (.or (.cmp .ne (.blt .len (.cons (.var 0) .nil)) (.int 5)) (.not (.call 27 (.cons (.ix (.var 0) (.int 0)) .nil)))))
  (.ret (.bl false))
  .skip)
  (.seq (.ite (.or (.not (.call 30 (.cons (.ix (.var 0) (.int 1)) (.cons (.var 1) .nil)))) (.not (.call 30 (.cons (.ix (.var 0) (.int 2)) (.cons (.var 2) .nil)))))
  (.ret (.bl false))
  .skip)
  (.ret (.and (.call 29 (.cons (.ix (.var 0) (.int 3)) .nil)) (.and (.call 29 (.cons (.ix (.var 0) (.int 4)) .nil)) (.not (.call 32 (.cons (.slc (.var 0) (.int 1) .non) .nil)))))))) }
def d_is_empty : Def := { ps := 1, rest := false, slots := 6, keep := false, body :=
  (.seq (.asg (.tp (.cons (.nm 1) (.cons (.nm 2) (.cons (.nm 3) (.cons (.nm 4) .nil))))) (.var 0))
  (.ret (.blt .all (.cons (.lc [5] (.nm 5) (.iter (.tup (.star (.var 1) (.star (.var 2) (.cons (.var 3) (.cons (.var 4) .nil)))))) (.bl true) (.isn (.var 5))) .nil)))) }
def d_is_project : Def := { ps := 1, rest := false, slots := 7, keep := false, body :=
  (.seq (.ite (.or (.not (.isi { tuple := true } (.var 0))) (.or (.cmp .ne (.blt .len (.cons (.var 0) .nil)) (.int 3)) (.not (.isi { tuple := true } (.ix (.var 0) (.int 2))))))
  (.ret (.bl false))
  .skip)
  (.seq (.asg (.tp (.cons (.nm 1) (.cons (.nm 2) (.cons (.nm 3) .nil)))) (.var 0))
  (.seq (.ite (.or (.not (.call 28 (.cons (.var 1) (.cons (.int 1) (.cons (.gcon 2) .nil))))) (.or (.not (.call 28 (.cons (.var 2) (.cons (.int 1) (.cons (.gcon 2) .nil))))) (.cmp .gt (.blt .len (.cons (.var 3) .nil)) (.gcon 3))))
  (.ret (.bl false))
  .skip)
  (.seq (.ite (.not (.blt .all (.cons (.lc [4] (.nm 4) (.iter (.var 3)) (.bl true) (.call 31 (.cons (.var 4) (.cons (.var 1) (.cons (.var 2) .nil))))) .nil)))
  (.ret (.bl false))
  .skip)
  (.ret (.blt .all (.cons (.lc [5, 6] (.tp (.cons (.nm 5) (.cons (.nm 6) .nil))) (.zip (.var 3) (.slc (.var 3) (.int 1) .non)) (.bl true) (.cmp .lt (.ix (.var 5) (.int 0)) (.ix (.var 6) (.int 0)))) .nil))))))) }
def d_is_command : Def := { ps := 1, rest := false, slots := 1, keep := false, body :=
  (.seq (.ite (.or (.not (.isi { tuple := true } (.var 0))) (.or (.cmp .eq (.blt .len (.cons (.var 0) .nil)) (.int 0)) (.not (.isi { str := true } (.ix (.var 0) (.int 0))))))
  (.ret (.bl false))
  .skip)
  (.seq (.ite (.cmp .in_ (.ix (.var 0) (.int 0)) (.gcon 10))
  (.ret (.cmp .eq (.blt .len (.cons (.var 0) .nil)) (.int 1)))
  .skip)
  (.seq (.ite (.cmp .in_ (.ix (.var 0) (.int 0)) (.gcon 8))
  (.ret (.and (.cmp .eq (.blt .len (.cons (.var 0) .nil)) (.int 2)) (.call 27 (.cons (.ix (.var 0) (.int 1)) .nil))))
  .skip)
  (.seq (.ite (.cmp .in_ (.ix (.var 0) (.int 0)) (.gcon 9))
  (.ret (.and (.cmp .eq (.blt .len (.cons (.var 0) .nil)) (.int 2)) (.call 28 (.cons (.ix (.var 0) (.int 1)) (.cons (.int 0) (.cons (.int 1) .nil))))))
  .skip)
  (.ret (.and (.cmp .eq (.ix (.var 0) (.int 0)) (.str "write")) (.and (.cmp .eq (.blt .len (.cons (.var 0) .nil)) (.int 3)) (.and (.call 27 (.cons (.ix (.var 0) (.int 1)) .nil)) (.call 29 (.cons (.ix (.var 0) (.int 2)) .nil)))))))))) }
def d_mentioned : Def := { ps := 1, rest := true, slots := 4, keep := false, body :=
  (.seq (.asg (.nm 1) (.lc2 [2, 3] [3] (.nm 2) (.iter (.var 0)) (.bl true) (.nm 3) (.iter (.var 2)) (.bl true) (.var 3)))
  (.ret (.blt .tuple (.cons (.blt .sortset (.cons (.lc [3] (.nm 3) (.iter (.var 1)) (.cmp .in_ (.ix (.var 3) (.int 0)) (.tup (.star (.gcon 8) (.cons (.str "write") .nil)))) (.ix (.var 3) (.int 1))) .nil)) .nil)))) }
def d_written : Def := { ps := 1, rest := true, slots := 6, keep := false, body :=
  (.seq (.asg (.nm 1) (.lc2 [2, 3] [3] (.nm 2) (.iter (.var 0)) (.bl true) (.nm 3) (.iter (.var 2)) (.bl true) (.var 3)))
  (.seq (.asg (.nm 4) (.lc [3] (.nm 3) (.iter (.var 1)) (.cmp .eq (.ix (.var 3) (.int 0)) (.str "write")) (.ix (.var 3) (.int 2))))
  (.ret (.blt .tuple (.cons (.blt .sortset (.cons (.lc [5] (.nm 5) (.iter (.var 4)) (.notn (.var 5)) (.var 5)) .nil)) .nil))))) }
def d_cuts : Def := { ps := 1, rest := false, slots := 2, keep := false, body :=
  (.ret (.blt .len (.cons (.lc [1] (.nm 1) (.iter (.var 0)) (.and (.cmp .in_ (.ix (.var 1) (.int 0)) (.gcon 9)) (.cmp .eq (.ix (.var 1) (.int 1)) (.int 1))) (.var 1)) .nil))) }
def d_switches : Def := { ps := 1, rest := false, slots := 2, keep := false, body :=
  (.ret (.blt .len (.cons (.lc [1] (.nm 1) (.iter (.var 0)) (.cmp .eq (.ix (.var 1) (.int 0)) (.str "switch")) (.var 1)) .nil))) }
def d_is_program : Def := { ps := 1, rest := false, slots := 2, keep := false, body :=
  (.seq (.ite (.or (.not (.isi { tuple := true } (.var 0))) (.or (.cmp .gt (.blt .len (.cons (.var 0) .nil)) (.gcon 4)) (.not (.blt .all (.cons (.lc [1] (.nm 1) (.iter (.var 0)) (.bl true) (.call 34 (.cons (.var 1) .nil))) .nil)))))
  (.ret (.bl false))
  .skip)
  (.seq (.ite (.or (.cmp .gt (.blt .len (.cons (.call 35 (.cons (.var 0) .nil)) .nil)) (.gcon 5)) (.cmp .gt (.blt .len (.cons (.call 36 (.cons (.var 0) .nil)) .nil)) (.gcon 6)))
  (.ret (.bl false))
  .skip)
  (.ret (.and (.cmp .le (.call 37 (.cons (.var 0) .nil)) (.int 1)) (.cmp .le (.bin .add (.call 37 (.cons (.var 0) .nil)) (.call 38 (.cons (.var 0) .nil))) (.gcon 7)))))) }
def d_refuses : Def := { ps := 1, rest := false, slots := 5, keep := false, body :=
  (.seq (.asg (.tp (.cons (.nm 1) (.cons (.nm 2) (.cons (.nm 3) (.cons (.nm 4) .nil))))) (.var 0))
  (.seq (.ite (.or (.cmp .eq (.ix (.var 1) (.int (-1))) (.ix (.var 2) (.int (-1)))) (.cmp .eq (.var 3) (.ix (.var 2) (.int (-1)))))
  (.ret (.bl false))
  .skip)
  (.ret (.or (.cmp .ne (.var 3) (.ix (.var 1) (.int (-1)))) (.cmp .ne (.var 4) (.var 3)))))) }
def d_switched : Def := { ps := 1, rest := false, slots := 5, keep := false, body :=
  (.seq (.asg (.tp (.cons (.nm 1) (.cons (.nm 2) (.cons (.nm 3) (.cons (.nm 4) .nil))))) (.var 0))
  (.seq (.ite (.or (.cmp .eq (.ix (.var 1) (.int (-1))) (.ix (.var 2) (.int (-1)))) (.cmp .eq (.var 3) (.ix (.var 2) (.int (-1)))))
  (.ret (.tup (.cons (.var 2) (.cons (.var 1) (.cons (.var 3) (.cons (.var 4) .nil))))))
  .skip)
  (.ret (.tup (.cons (.var 2) (.cons (.var 1) (.cons (.ix (.var 2) (.int (-1))) (.cons (.ix (.var 2) (.int (-1))) .nil)))))))) }
def d_cut : Def := { ps := 3, rest := false, slots := 8, keep := false, body :=
  (.seq (.asg (.tp (.cons (.nm 3) (.cons (.nm 4) (.cons (.nm 5) (.cons (.nm 6) .nil))))) (.var 0))
  (.seq (.asg (.nm 7) (.slc (.var 3) .non (.bin .sub (.blt .len (.cons (.var 3) .nil)) (.var 2))))
  (.seq (.ite (.and (.cmp .eq (.var 1) (.str "hard")) (.or (.notn (.var 5)) (.notn (.ix (.var 7) (.int (-1))))))
  (.asg (.nm 6) (.ix (.var 7) (.int (-1))))
  .skip)
  (.ret (.tup (.cons (.var 7) (.cons (.var 4) (.cons (.ifx (.cmp .eq (.var 1) (.str "soft")) (.var 5) (.ix (.var 7) (.int (-1)))) (.cons (.var 6) .nil))))))))) }
def d_file_done : Def := { ps := 3, rest := false, slots := 7, keep := false, body :=
  (.seq (.ite (.or (.cmp .in_ (.ix (.var 2) (.int 0)) (.gcon 8)) (.cmp .eq (.ix (.var 2) (.int 0)) (.str "write")))
  (.ret (.ifx (.cmp .eq (.ix (.var 2) (.int 1)) (.var 1)) (.call 2 (.cons (.var 0) (.cons (.var 2) .nil))) (.var 0)))
  .skip)
  (.seq (.ite (.cmp .in_ (.ix (.var 2) (.int 0)) (.gcon 9))
  (.ret (.call 42 (.cons (.var 0) (.cons (.ix (.var 2) (.int 0)) (.cons (.ix (.var 2) (.int 1)) .nil)))))
  .skip)
  (.seq (.ite (.cmp .eq (.ix (.var 2) (.int 0)) (.str "switch"))
  (.ret (.call 41 (.cons (.var 0) .nil)))
  .skip)
  (.seq (.asg (.tp (.cons (.nm 3) (.cons (.nm 4) (.cons (.nm 5) (.cons (.nm 6) .nil))))) (.var 0))
  (.ret (.tup (.cons (.tup (.star (.var 3) (.cons (.var 5) .nil))) (.cons (.var 4) (.cons (.var 5) (.cons (.var 6) .nil)))))))))) }
def d_is_refused : Def := { ps := 2, rest := false, slots := 3, keep := false, body :=
  (.seq (.ite (.cmp .in_ (.ix (.var 1) (.int 0)) (.gcon 9))
  (.ret (.cmp .le (.ix (.var 0) (.int 0)) (.ix (.var 1) (.int 1))))
  .skip)
  (.ret (.and (.cmp .eq (.ix (.var 1) (.int 0)) (.str "switch")) (.blt .any (.cons (.lc [2] (.nm 2) (.iter (.ix (.var 0) (.int 2))) (.bl true) (.call 40 (.cons (.slc (.var 2) (.int 1) .non) .nil))) .nil))))) }
def d_counts_after : Def := { ps := 2, rest := false, slots := 4, keep := false, body :=
  (.seq (.asg (.tp (.cons (.nm 2) (.cons (.nm 3) .nil))) (.tup (.cons (.ix (.var 0) (.int 0)) (.cons (.ix (.var 0) (.int 1)) .nil))))
  (.seq (.ite (.cmp .eq (.ix (.var 1) (.int 0)) (.str "commit"))
  (.ret (.tup (.cons (.bin .add (.var 2) (.int 1)) (.cons (.var 3) .nil))))
  .skip)
  (.seq (.ite (.cmp .eq (.ix (.var 1) (.int 0)) (.str "switch"))
  (.ret (.tup (.cons (.var 3) (.cons (.var 2) .nil))))
  .skip)
  (.ret (.ifx (.cmp .in_ (.ix (.var 1) (.int 0)) (.gcon 9)) (.tup (.cons (.bin .sub (.var 2) (.ix (.var 1) (.int 1))) (.cons (.var 3) .nil))) (.tup (.cons (.var 2) (.cons (.var 3) .nil)))))))) }
def d_done : Def := { ps := 2, rest := false, slots := 7, keep := false, body :=
  (.seq (.ite (.call 44 (.cons (.var 0) (.cons (.var 1) .nil)))
  (.ret (.var 0))
  .skip)
  (.seq (.asg (.nm 2) (.dc [3] (.nm 3) (.iter (.ix (.var 0) (.int 2))) (.bl true) (.ix (.var 3) (.int 0)) (.slc (.var 3) (.int 1) .non)))
  (.seq (.ite (.or (.cmp .in_ (.ix (.var 1) (.int 0)) (.gcon 8)) (.cmp .eq (.ix (.var 1) (.int 0)) (.str "write")))
  (.seq (.asg (.nm 4) (.tup (.cons (.bin .mul (.tup (.cons .non .nil)) (.ix (.var 0) (.int 0))) (.cons (.bin .mul (.tup (.cons .non .nil)) (.ix (.var 0) (.int 1))) (.cons .non (.cons .non .nil))))))
  (.asg (.nm 2) (.dct (.dpair (.ix (.var 1) (.int 1)) (.var 4) (.dstar (.var 2) .dnil)))))
  .skip)
  (.seq (.asg (.nm 5) (.lc [6] (.nm 6) (.iter (.blt .sorted (.cons (.var 2) .nil))) (.bl true) (.tup (.cons (.var 6) (.star (.call 43 (.cons (.ix (.var 2) (.var 6)) (.cons (.var 6) (.cons (.var 1) .nil)))) .nil)))))
  (.ret (.tup (.star (.call 45 (.cons (.var 0) (.cons (.var 1) .nil))) (.cons (.blt .tuple (.cons (.lc [3] (.nm 3) (.iter (.var 5)) (.not (.call 32 (.cons (.slc (.var 3) (.int 1) .non) .nil))) (.var 3)) .nil)) .nil)))))))) }
def d_after : Def := { ps := 2, rest := false, slots := 3, keep := false, body :=
  (.seq (.for_ (.nm 2) (.iter (.var 1))
  (.asg (.nm 0) (.call 46 (.cons (.var 0) (.cons (.var 2) .nil)))))
  (.ret (.var 0))) }
def d_refused : Def := { ps := 2, rest := false, slots := 6, keep := false, body :=
  (.seq (.asg (.tp (.cons (.nm 2) (.cons (.nm 3) .nil))) (.tup (.cons (.lst .nil) (.cons (.var 0) .nil))))
  (.seq (.for_ (.tp (.cons (.nm 4) (.cons (.nm 5) .nil))) (.enum (.var 1))
  (.seq (.ite (.call 44 (.cons (.var 3) (.cons (.var 5) .nil)))
  (.expr (.mth .append (.var 2) (.cons (.var 4) .nil)))
  .skip)
  (.asg (.nm 3) (.call 46 (.cons (.var 3) (.cons (.var 5) .nil))))))
  (.ret (.var 2)))) }
def d_change : Def := { ps := 2, rest := false, slots := 2, keep := false, body :=
  (.seq (.ite (.cmp .eq (.var 0) (.var 1))
  (.ret (.gcon 11))
  .skip)
  (.seq (.ite (.isn (.var 0))
  (.ret (.str "new"))
  .skip)
  (.ret (.ifx (.isn (.var 1)) (.str "gone") (.str "changed"))))) }
def d_status : Def := { ps := 1, rest := false, slots := 8, keep := false, body :=
  (.seq (.asg (.nm 1) (.lst .nil))
  (.seq (.for_ (.tp (.cons (.nm 2) (.cons (.nm 3) (.cons (.nm 4) (.cons (.nm 5) (.cons (.nm 6) .nil)))))) (.iter (.ix (.var 0) (.int 2)))
  (.seq (.asg (.nm 7) (.tup (.cons (.var 2) (.cons (.call 50 (.cons (.ix (.var 3) (.int (-1))) (.cons (.var 5) .nil))) (.cons (.call 50 (.cons (.var 5) (.cons (.var 6) .nil))) .nil)))))
  (.ite (.cmp .ne (.slc (.var 7) (.int 1) .non) (.tup (.cons (.gcon 11) (.cons (.gcon 11) .nil))))
  (.expr (.mth .append (.var 1) (.cons (.var 7) .nil)))
  .skip)))
  (.ret (.var 1)))) }
def d_is_clean : Def := { ps := 1, rest := false, slots := 1, keep := false, body :=
  (.ret (.cmp .eq (.call 51 (.cons (.var 0) .nil)) (.lst .nil))) }
def d_blocking : Def := { ps := 1, rest := false, slots := 2, keep := false, body :=
  (.ret (.lc [1] (.nm 1) (.iter (.ix (.var 0) (.int 2))) (.call 40 (.cons (.slc (.var 1) (.int 1) .non) .nil)) (.ix (.var 1) (.int 0)))) }
def d_law_blocks : Def := { ps := 1, rest := false, slots := 3, keep := false, body :=
  (.seq (.asg (.tp (.cons (.nm 1) (.cons (.nm 2) .nil))) (.tup (.cons (.ix (.ix (.var 0) (.int 0)) (.int (-1))) (.cons (.ix (.ix (.var 0) (.int 1)) (.int (-1))) .nil))))
  (.seq (.ite (.or (.cmp .eq (.var 1) (.var 2)) (.cmp .eq (.ix (.var 0) (.int 2)) (.var 2)))
  (.ret (.bl false))
  .skip)
  (.ret (.not (.and (.cmp .eq (.ix (.var 0) (.int 2)) (.var 1)) (.cmp .eq (.ix (.var 0) (.int 3)) (.var 1))))))) }
def d_law_own : Def := { ps := 3, rest := false, slots := 5, keep := false, body :=
  (.seq (.asg (.nm 3) (.ix (.var 2) (.int 0)))
  (.ite (.cmp .eq (.var 3) (.str "commit"))
  (.asg (.sub (.var 0) (.int 0)) (.bin .add (.ix (.var 0) (.int 0)) (.lst (.cons (.ix (.var 0) (.int 2)) .nil))))
  (.ite (.cmp .eq (.var 3) (.str "switch"))
  (.seq (.asg (.nm 4) (.and (.cmp .ne (.ix (.ix (.var 0) (.int 0)) (.int (-1))) (.ix (.ix (.var 0) (.int 1)) (.int (-1)))) (.cmp .ne (.ix (.var 0) (.int 2)) (.ix (.ix (.var 0) (.int 1)) (.int (-1))))))
  (.seq (.asg (.tp (.cons (.sub (.var 0) (.int 0)) (.cons (.sub (.var 0) (.int 1)) .nil))) (.tup (.cons (.ix (.var 0) (.int 1)) (.cons (.ix (.var 0) (.int 0)) .nil))))
  (.ite (.var 4)
  (.asg (.tp (.cons (.sub (.var 0) (.int 2)) (.cons (.sub (.var 0) (.int 3)) .nil))) (.tup (.cons (.ix (.ix (.var 0) (.int 0)) (.int (-1))) (.cons (.ix (.ix (.var 0) (.int 0)) (.int (-1))) .nil))))
  .skip)))
  (.ite (.cmp .in_ (.var 3) (.tup (.cons (.str "soft") (.cons (.str "mixed") (.cons (.str "hard") .nil)))))
  (.seq (.asg (.sub (.var 0) (.int 0)) (.slc (.ix (.var 0) (.int 0)) .non (.bin .sub (.blt .len (.cons (.ix (.var 0) (.int 0)) .nil)) (.ix (.var 2) (.int 1)))))
  (.seq (.ite (.and (.cmp .eq (.var 3) (.str "hard")) (.cmp .ne (.tup (.cons (.ix (.var 0) (.int 2)) (.cons (.ix (.ix (.var 0) (.int 0)) (.int (-1))) .nil))) (.tup (.cons .non (.cons .non .nil)))))
  (.asg (.sub (.var 0) (.int 3)) (.ix (.ix (.var 0) (.int 0)) (.int (-1))))
  .skip)
  (.ite (.cmp .ne (.var 3) (.str "soft"))
  (.asg (.sub (.var 0) (.int 2)) (.ix (.ix (.var 0) (.int 0)) (.int (-1))))
  .skip)))
  (.ite (.cmp .eq (.ix (.var 2) (.int 1)) (.var 1))
  (.ite (.cmp .eq (.var 3) (.str "write"))
  (.asg (.sub (.var 0) (.int 3)) (.ix (.var 2) (.int 2)))
  (.ite (.cmp .eq (.var 3) (.str "add"))
  (.asg (.sub (.var 0) (.int 2)) (.ix (.var 0) (.int 3)))
  (.ite (.cmp .eq (.var 3) (.str "unstage"))
  (.asg (.sub (.var 0) (.int 2)) (.ix (.ix (.var 0) (.int 0)) (.int (-1))))
  (.asg (.sub (.var 0) (.int 3)) (.ix (.var 0) (.int 2))))))
  .skip))))) }
def d_law_run : Def := { ps := 2, rest := false, slots := 14, keep := false, body :=
  (.seq (.asg (.tp (.cons (.nm 2) (.cons (.nm 3) (.cons (.nm 4) (.cons (.nm 5) .nil))))) (.tup (.cons (.lst (.cons (.ix (.var 0) (.int 0)) (.cons (.ix (.var 0) (.int 1)) .nil))) (.cons (.dct .dnil) (.cons (.dct .dnil) (.cons (.lst .nil) .nil))))))
  (.seq (.for_ (.nm 6) (.iter (.ix (.var 0) (.int 2)))
  (.asg (.sub (.var 3) (.ix (.var 6) (.int 0))) (.lst (.cons (.blt .list (.cons (.ix (.var 6) (.int 1)) .nil)) (.cons (.blt .list (.cons (.ix (.var 6) (.int 2)) .nil)) (.cons (.ix (.var 6) (.int 3)) (.cons (.ix (.var 6) (.int 4)) .nil)))))))
  (.seq (.for_ (.nm 7) (.iter (.call 19 (.cons (.var 1) .nil)))
  (.ite (.cmp .ni (.var 7) (.var 3))
  (.asg (.sub (.var 3) (.var 7)) (.lst (.cons (.bin .mul (.lst (.cons .non .nil)) (.ix (.var 2) (.int 0))) (.cons (.bin .mul (.lst (.cons .non .nil)) (.ix (.var 2) (.int 1))) (.cons .non (.cons .non .nil))))))
  .skip))
  (.seq (.for_ (.nm 7) (.iter (.var 3))
  (.asg (.sub (.var 4) (.var 7)) (.bin .add (.ix (.ix (.var 3) (.var 7)) (.int 0)) (.ix (.ix (.var 3) (.var 7)) (.int 1)))))
  (.seq (.for_ (.tp (.cons (.nm 8) (.cons (.nm 9) .nil))) (.enum (.var 1))
  (.seq (.asg (.nm 10) (.ix (.var 9) (.int 0)))
  (.ite (.and (.cmp .in_ (.var 10) (.tup (.cons (.str "soft") (.cons (.str "mixed") (.cons (.str "hard") .nil))))) (.cmp .le (.ix (.var 2) (.int 0)) (.ix (.var 9) (.int 1))))
  (.expr (.mth .append (.var 5) (.cons (.var 8) .nil)))
  (.ite (.and (.cmp .eq (.var 10) (.str "switch")) (.cmp .ne (.lc [7] (.nm 7) (.iter (.var 3)) (.call 54 (.cons (.ix (.var 3) (.var 7)) .nil)) (.var 7)) (.lst .nil)))
  (.expr (.mth .append (.var 5) (.cons (.var 8) .nil)))
  (.seq (.for_ (.nm 7) (.iter (.var 3))
  (.seq (.expr (.call 55 (.cons (.ix (.var 3) (.var 7)) (.cons (.var 7) (.cons (.var 9) .nil)))))
  (.asg (.sub (.var 4) (.var 7)) (.bin .add (.ix (.var 4) (.var 7)) (.lst (.cons (.ix (.ix (.ix (.var 3) (.var 7)) (.int 0)) (.int (-1))) .nil))))))
  (.ite (.cmp .eq (.var 10) (.str "commit"))
  (.asg (.sub (.var 2) (.int 0)) (.bin .add (.ix (.var 2) (.int 0)) (.int 1)))
  (.ite (.cmp .eq (.var 10) (.str "switch"))
  (.asg (.nm 2) (.rev (.var 2)))
  (.ite (.cmp .in_ (.var 10) (.tup (.cons (.str "soft") (.cons (.str "mixed") (.cons (.str "hard") .nil)))))
  (.asg (.sub (.var 2) (.int 0)) (.bin .sub (.ix (.var 2) (.int 0)) (.ix (.var 9) (.int 1))))
  .skip))))))))
  (.seq (.asg (.nm 11) (.lc [7] (.nm 7) (.iter (.var 3)) (.bl true) (.tup (.cons (.var 7) (.cons (.blt .tuple (.cons (.ix (.ix (.var 3) (.var 7)) (.int 0)) .nil)) (.cons (.blt .tuple (.cons (.ix (.ix (.var 3) (.var 7)) (.int 1)) .nil)) (.cons (.ix (.ix (.var 3) (.var 7)) (.int 2)) (.cons (.ix (.ix (.var 3) (.var 7)) (.int 3)) .nil))))))))
  (.seq (.asg (.nm 12) (.blt .tuple (.cons (.skey (.lc [13] (.nm 13) (.iter (.var 11)) (.not (.call 17 (.cons (.var 13) .nil))) (.var 13)) 57) .nil)))
  (.ret (.tup (.cons (.tup (.cons (.ix (.var 2) (.int 0)) (.cons (.ix (.var 2) (.int 1)) (.cons (.var 12) .nil)))) (.cons (.var 5) (.cons (.var 4) .nil)))))))))))) }
def d_law_first : Def := { ps := 1, rest := false, slots := 1, keep := false, body :=
  (.ret (.ix (.var 0) (.int 0))) }
def d_law_after : Def := { ps := 2, rest := false, slots := 2, keep := false, body :=
  (.ret (.ix (.call 56 (.cons (.var 0) (.cons (.var 1) .nil))) (.int 0))) }
def d_law_way : Def := { ps := 2, rest := false, slots := 2, keep := false, body :=
  (.seq (.ite (.cmp .eq (.var 0) (.var 1))
  (.ret (.str "same"))
  .skip)
  (.seq (.ite (.isn (.var 0))
  (.ret (.str "new"))
  .skip)
  (.ret (.ifx (.isn (.var 1)) (.str "gone") (.str "changed"))))) }
def d_content_text : Def := { ps := 1, rest := false, slots := 1, keep := false, body :=
  (.ret (.ifx (.isn (.var 0)) (.str "-") (.blt .str (.cons (.var 0) .nil)))) }
def d_command_text : Def := { ps := 1, rest := false, slots := 2, keep := false, body :=
  (.ret (.mth .join (.str " ") (.cons (.lc [1] (.nm 1) (.iter (.var 0)) (.bl true) (.ifx (.isi { str := true } (.var 1)) (.var 1) (.call 60 (.cons (.var 1) .nil)))) .nil))) }
def d_program_text : Def := { ps := 1, rest := false, slots := 2, keep := false, body :=
  (.ret (.mth .join (.str "\n") (.cons (.lc [1] (.nm 1) (.iter (.var 0)) (.bl true) (.call 61 (.cons (.var 1) .nil))) .nil))) }
def d_line_text : Def := { ps := 1, rest := false, slots := 2, keep := false, body :=
  (.ret (.mth .join (.str ",") (.cons (.lc [1] (.nm 1) (.iter (.var 0)) (.bl true) (.call 60 (.cons (.var 1) .nil))) .nil))) }
def d_file_text : Def := { ps := 1, rest := false, slots := 6, keep := false, body :=
  (.seq (.asg (.tp (.cons (.nm 1) (.cons (.nm 2) (.cons (.nm 3) (.cons (.nm 4) (.cons (.nm 5) .nil)))))) (.var 0))
  (.ret (.mth .join (.str " ") (.cons (.lst (.cons (.var 1) (.cons (.call 63 (.cons (.var 2) .nil)) (.cons (.call 63 (.cons (.var 3) .nil)) (.cons (.call 60 (.cons (.var 4) .nil)) (.cons (.call 60 (.cons (.var 5) .nil)) .nil)))))) .nil)))) }
def d_read_number : Def := { ps := 1, rest := false, slots := 2, keep := false, body :=
  (.seq (.ite (.or (.not (.chain .le .le (.int 1) (.blt .len (.cons (.var 0) .nil)) (.int 7))) (.not (.blt .all (.cons (.lc [1] (.nm 1) (.iter (.var 0)) (.bl true) (.cmp .in_ (.var 1) (.str "0123456789"))) .nil))))
  (.ret (.var 0))
  .skip)
  (.ret (.ifx (.cmp .eq (.blt .str (.cons (.blt .int (.cons (.var 0) .nil)) .nil)) (.var 0)) (.blt .int (.cons (.var 0) .nil)) (.var 0)))) }
def d_read_content : Def := { ps := 1, rest := false, slots := 1, keep := false, body :=
  (.ret (.ifx (.cmp .eq (.var 0) (.str "-")) .non (.call 66 (.cons (.var 0) .nil)))) }
def d_read_command : Def := { ps := 1, rest := false, slots := 2, keep := false, body :=
  (.seq (.asg (.nm 1) (.mth .split (.var 0) (.cons (.str " ") .nil)))
  (.seq (.ite (.and (.cmp .eq (.ix (.var 1) (.int 0)) (.str "write")) (.cmp .eq (.blt .len (.cons (.var 1) .nil)) (.int 3)))
  (.ret (.tup (.cons (.ix (.var 1) (.int 0)) (.cons (.ix (.var 1) (.int 1)) (.cons (.call 67 (.cons (.ix (.var 1) (.int 2)) .nil)) .nil)))))
  .skip)
  (.seq (.ite (.and (.cmp .in_ (.ix (.var 1) (.int 0)) (.gcon 9)) (.cmp .eq (.blt .len (.cons (.var 1) .nil)) (.int 2)))
  (.ret (.tup (.cons (.ix (.var 1) (.int 0)) (.cons (.call 66 (.cons (.ix (.var 1) (.int 1)) .nil)) .nil))))
  .skip)
  (.ret (.blt .tuple (.cons (.var 1) .nil)))))) }
def d_read_program : Def := { ps := 1, rest := false, slots := 3, keep := false, body :=
  (.seq (.ite (.not (.isi { str := true } (.var 0)))
  (.ret .non)
  .skip)
  (.seq (.asg (.nm 1) (.ifx (.cmp .ne (.var 0) (.str "")) (.blt .tuple (.cons (.lc [2] (.nm 2) (.iter (.mth .split (.var 0) (.cons (.str "\n") .nil))) (.bl true) (.call 68 (.cons (.var 2) .nil))) .nil)) (.tup .nil)))
  (.ret (.ifx (.call 39 (.cons (.var 1) .nil)) (.var 1) .non)))) }
def d_read_line : Def := { ps := 1, rest := false, slots := 2, keep := false, body :=
  (.ret (.blt .tuple (.cons (.lc [1] (.nm 1) (.iter (.mth .split (.var 0) (.cons (.str ",") .nil))) (.bl true) (.call 67 (.cons (.var 1) .nil))) .nil))) }
def d_read_file : Def := { ps := 1, rest := false, slots := 2, keep := false, body :=
  (.seq (.asg (.nm 1) (.mth .split (.var 0) (.cons (.str " ") .nil)))
  (.seq (.ite (.cmp .ne (.blt .len (.cons (.var 1) .nil)) (.int 5))
  (.ret .non)
  .skip)
  (.ret (.tup (.cons (.ix (.var 1) (.int 0)) (.cons (.call 70 (.cons (.ix (.var 1) (.int 1)) .nil)) (.cons (.call 70 (.cons (.ix (.var 1) (.int 2)) .nil)) (.cons (.call 67 (.cons (.ix (.var 1) (.int 3)) .nil)) (.cons (.call 67 (.cons (.ix (.var 1) (.int 4)) .nil)) .nil))))))))) }
def d_read_project : Def := { ps := 1, rest := false, slots := 6, keep := false, body :=
  (.seq (.ite (.not (.isi { str := true } (.var 0)))
  (.ret .non)
  .skip)
  (.seq (.asg (.nm 1) (.mth .split (.var 0) (.cons (.str "\n") .nil)))
  (.seq (.asg (.nm 2) (.lc [3] (.nm 3) (.iter (.mth .split (.ix (.var 1) (.int 0)) (.cons (.str " ") .nil))) (.bl true) (.call 66 (.cons (.var 3) .nil))))
  (.seq (.asg (.nm 4) (.tup (.star (.var 2) (.cons (.blt .tuple (.cons (.lc [5] (.nm 5) (.iter (.slc (.var 1) (.int 1) .non)) (.bl true) (.call 71 (.cons (.var 5) .nil))) .nil)) .nil))))
  (.ret (.ifx (.call 33 (.cons (.var 4) .nil)) (.var 4) .non)))))) }
def d_contents_of : Def := { ps := 1, rest := false, slots := 8, keep := false, body :=
  (.seq (.asg (.nm 1) (.lc2 [2, 3, 4, 5, 6, 7] [7] (.tp (.cons (.nm 2) (.cons (.nm 3) (.cons (.nm 4) (.cons (.nm 5) (.cons (.nm 6) .nil)))))) (.iter (.ix (.var 0) (.int 2))) (.bl true) (.nm 7) (.iter (.tup (.star (.var 3) (.star (.var 4) (.cons (.var 5) (.cons (.var 6) .nil)))))) (.bl true) (.var 7)))
  (.ret (.lst (.cons .non (.star (.blt .sortset (.cons (.lc [7] (.nm 7) (.iter (.var 1)) (.notn (.var 7)) (.var 7)) .nil)) .nil))))) }
def d_hidden_commands : Def := { ps := 4, rest := false, slots := 13, keep := false, body :=
  (.seq (.asg (.nm 4) (.blt .sortset (.cons (.lst (.star (.lc [5] (.nm 5) (.iter (.tup (.star (.ix (.var 0) (.int 2)) (.star (.ix (.var 3) (.int 2)) .nil)))) (.bl true) (.ix (.var 5) (.int 0))) (.star (.call 35 (.cons (.var 1) .nil)) .nil))) .nil)))
  (.seq (.asg (.nm 6) (.lc2 [7, 8] [8] (.nm 7) (.iter (.gcon 8)) (.bl true) (.nm 8) (.iter (.var 4)) (.bl true) (.tup (.cons (.var 7) (.cons (.var 8) .nil)))))
  (.seq (.asg (.nm 6) (.bin .add (.var 6) (.lc2 [8, 9] [9] (.nm 8) (.iter (.var 4)) (.bl true) (.nm 9) (.iter (.call 73 (.cons (.var 3) .nil))) (.bl true) (.tup (.cons (.str "write") (.cons (.var 8) (.cons (.var 9) .nil)))))))
  (.seq (.asg (.nm 6) (.bin .add (.bin .add (.var 6) (.lc [7] (.nm 7) (.iter (.gcon 10)) (.bl true) (.tup (.cons (.var 7) .nil)))) (.lc2 [7, 10] [10] (.nm 7) (.iter (.gcon 9)) (.bl true) (.nm 10) (.iter (.tup (.cons (.int 0) (.cons (.int 1) .nil)))) (.bl true) (.tup (.cons (.var 7) (.cons (.var 10) .nil))))))
  (.seq (.asg (.nm 11) (.lst .nil))
  (.seq (.for_ (.nm 12) (.iter (.var 6))
  (.ite (.cmp .eq (.call 47 (.cons (.var 0) (.cons (.tup (.star (.slc (.var 1) .non (.var 2)) (.cons (.var 12) (.star (.slc (.var 1) (.var 2) .non) .nil)))) .nil))) (.var 3))
  (.expr (.mth .append (.var 11) (.cons (.var 12) .nil)))
  .skip))
  (.ret (.skey (.var 11) 61)))))))) }
def d_law_text : Def := { ps := 1, rest := false, slots := 3, keep := false, body :=
  (.seq (.asg (.nm 1) (.lc [2] (.nm 2) (.iter (.var 0)) (.bl true) (.ifx (.isn (.var 2)) (.str "-") (.blt .str (.cons (.var 2) .nil)))))
  (.ret (.mth .join (.str " ") (.cons (.var 1) .nil)))) }
def d_law_word : Def := { ps := 1, rest := false, slots := 1, keep := false, body :=
  (.ret (.ifx (.isn (.var 0)) (.str "-") (.blt .str (.cons (.var 0) .nil)))) }
def d_law_part : Def := { ps := 1, rest := false, slots := 2, keep := false, body :=
  (.seq (.ite (.cmp .eq (.var 0) (.str "-"))
  (.ret .non)
  .skip)
  (.seq (.ite (.and (.chain .lt .lt (.int 0) (.blt .len (.cons (.var 0) .nil)) (.int 8)) (.cmp .eq (.lc [1] (.nm 1) (.iter (.var 0)) (.cmp .ni (.var 1) (.str "0123456789")) (.var 1)) (.lst .nil)))
  (.ite (.cmp .eq (.blt .str (.cons (.blt .int (.cons (.var 0) .nil)) .nil)) (.var 0))
  (.ret (.blt .int (.cons (.var 0) .nil)))
  .skip)
  .skip)
  (.ret (.var 0)))) }
def d_law_read_program : Def := { ps := 1, rest := false, slots := 5, keep := false, body :=
  (.seq (.ite (.not (.isi { str := true } (.var 0)))
  (.ret .non)
  .skip)
  (.seq (.asg (.nm 1) (.tup .nil))
  (.seq (.for_ (.nm 2) (.iter (.ifx (.cmp .eq (.var 0) (.str "")) (.lst .nil) (.mth .split (.var 0) (.cons (.str "\n") .nil))))
  (.seq (.asg (.nm 3) (.mth .split (.var 2) (.cons (.str " ") .nil)))
  (.seq (.asg (.nm 4) (.blt .tuple (.cons (.var 3) .nil)))
  (.seq (.ite (.and (.cmp .eq (.ix (.var 3) (.int 0)) (.str "write")) (.cmp .eq (.blt .len (.cons (.var 3) .nil)) (.int 3)))
  (.asg (.nm 4) (.tup (.cons (.ix (.var 3) (.int 0)) (.cons (.ix (.var 3) (.int 1)) (.cons (.call 77 (.cons (.ix (.var 3) (.int 2)) .nil)) .nil)))))
  .skip)
  (.seq (.ite (.and (.cmp .in_ (.ix (.var 3) (.int 0)) (.tup (.cons (.str "soft") (.cons (.str "mixed") (.cons (.str "hard") .nil))))) (.cmp .eq (.blt .len (.cons (.var 3) .nil)) (.int 2)))
  (.asg (.nm 4) (.tup (.cons (.ix (.var 3) (.int 0)) (.cons (.ifx (.cmp .eq (.ix (.var 3) (.int 1)) (.str "0")) (.int 0) (.ifx (.cmp .eq (.ix (.var 3) (.int 1)) (.str "1")) (.int 1) (.ix (.var 3) (.int 1)))) .nil))))
  .skip)
  (.asg (.nm 1) (.bin .add (.var 1) (.tup (.cons (.var 4) .nil)))))))))
  (.ret (.ifx (.call 39 (.cons (.var 1) .nil)) (.var 1) .non))))) }
def d_law_read_project : Def := { ps := 1, rest := false, slots := 11, keep := false, body :=
  (.seq (.ite (.not (.isi { str := true } (.var 0)))
  (.ret .non)
  .skip)
  (.seq (.asg (.tp (.cons (.nm 1) (.cons (.nm 2) .nil))) (.tup (.cons (.mth .split (.var 0) (.cons (.str "\n") .nil)) (.cons (.tup .nil) .nil))))
  (.seq (.asg (.nm 3) (.mth .split (.ix (.var 1) (.int 0)) (.cons (.str " ") .nil)))
  (.seq (.asg (.nm 4) (.lc [5] (.nm 5) (.iter (.var 3)) (.or (.cmp .ne (.blt .len (.cons (.var 5) .nil)) (.int 1)) (.cmp .ni (.var 5) (.str "12345678"))) (.var 5)))
  (.seq (.ite (.or (.cmp .ne (.blt .len (.cons (.var 3) .nil)) (.int 2)) (.cmp .ne (.var 4) (.lst .nil)))
  (.ret .non)
  .skip)
  (.seq (.for_ (.nm 6) (.iter (.slc (.var 1) (.int 1) .non))
  (.seq (.asg (.nm 7) (.mth .split (.var 6) (.cons (.str " ") .nil)))
  (.seq (.ite (.cmp .ne (.blt .len (.cons (.var 7) .nil)) (.int 5))
  (.ret .non)
  .skip)
  (.seq (.asg (.nm 8) (.lc [9] (.nm 9) (.iter (.tup (.cons (.int 1) (.cons (.int 2) .nil)))) (.bl true) (.blt .tuple (.cons (.lc [5] (.nm 5) (.iter (.mth .split (.ix (.var 7) (.var 9)) (.cons (.str ",") .nil))) (.bl true) (.call 77 (.cons (.var 5) .nil))) .nil))))
  (.asg (.nm 2) (.bin .add (.var 2) (.tup (.cons (.tup (.cons (.ix (.var 7) (.int 0)) (.cons (.ix (.var 8) (.int 0)) (.cons (.ix (.var 8) (.int 1)) (.cons (.call 77 (.cons (.ix (.var 7) (.int 3)) .nil)) (.cons (.call 77 (.cons (.ix (.var 7) (.int 4)) .nil)) .nil)))))) .nil))))))))
  (.seq (.asg (.nm 10) (.tup (.cons (.blt .int (.cons (.ix (.var 3) (.int 0)) .nil)) (.cons (.blt .int (.cons (.ix (.var 3) (.int 1)) .nil)) (.cons (.var 2) .nil)))))
  (.ret (.ifx (.call 33 (.cons (.var 10) .nil)) (.var 10) .non))))))))) }
def d_law_end_of : Def := { ps := 2, rest := false, slots := 4, keep := false, body :=
  (.seq (.asg (.nm 2) (.lc [3] (.nm 3) (.iter (.ix (.var 0) (.int 2))) (.cmp .eq (.ix (.var 3) (.int 0)) (.var 1)) (.slc (.var 3) (.int 1) .non)))
  (.ret (.ifx (.cmp .ne (.var 2) (.lst .nil)) (.ix (.var 2) (.int 0)) .non))) }
def d_law_moved : Def := { ps := 3, rest := false, slots := 12, keep := false, body :=
  (.seq (.asg (.nm 3) (.lst .nil))
  (.seq (.for_ (.tp (.cons (.nm 4) (.cons (.nm 5) (.cons (.nm 6) (.cons (.nm 7) (.cons (.nm 8) .nil)))))) (.iter (.ix (.var 0) (.int 2)))
  (.seq (.asg (.tp (.cons (.nm 9) (.cons (.nm 10) .nil))) (.tup (.cons (.blt .tuple (.cons (.lc [11] (.nm 11) (.iter (.var 5)) (.bl true) (.ix (.var 2) (.var 11))) .nil)) (.cons (.blt .tuple (.cons (.lc [11] (.nm 11) (.iter (.var 6)) (.bl true) (.ix (.var 2) (.var 11))) .nil)) .nil))))
  (.expr (.mth .append (.var 3) (.cons (.tup (.cons (.ix (.var 1) (.var 4)) (.cons (.var 9) (.cons (.var 10) (.cons (.ix (.var 2) (.var 7)) (.cons (.ix (.var 2) (.var 8)) .nil)))))) .nil)))))
  (.ret (.tup (.cons (.ix (.var 0) (.int 0)) (.cons (.ix (.var 0) (.int 1)) (.cons (.blt .tuple (.cons (.skey (.var 3) 57) .nil)) .nil))))))) }
def d_law_renamed : Def := { ps := 3, rest := false, slots := 3, keep := false, body :=
  (.seq (.ite (.cmp .eq (.ix (.var 0) (.int 0)) (.str "write"))
  (.ret (.tup (.cons (.str "write") (.cons (.ix (.var 1) (.ix (.var 0) (.int 1))) (.cons (.ix (.var 2) (.ix (.var 0) (.int 2))) .nil)))))
  .skip)
  (.ret (.ifx (.cmp .in_ (.ix (.var 0) (.int 0)) (.tup (.cons (.str "add") (.cons (.str "unstage") (.cons (.str "restore") .nil))))) (.tup (.cons (.ix (.var 0) (.int 0)) (.cons (.ix (.var 1) (.ix (.var 0) (.int 1))) .nil))) (.var 0)))) }
def d_law_near : Def := { ps := 3, rest := false, slots := 9, keep := false, body :=
  (.seq (.asg (.tp (.cons (.nm 3) (.cons (.nm 4) .nil))) (.tup (.cons (.call 0 (.cons (.var 0) (.cons (.bin .add (.blt .len (.cons (.var 1) .nil)) (.int 1)) .nil))) (.cons (.call 0 (.cons (.var 0) (.cons (.int 4) .nil))) .nil))))
  (.seq (.asg (.nm 5) (.ix (.bin .add (.lst (.cons (.int 1) .nil)) (.call 20 (.cons (.var 1) .nil))) (.int (-1))))
  (.seq (.asg (.nm 6) (.call 10 (.cons (.var 0) (.cons (.var 2) (.cons (.var 5) .nil)))))
  (.seq (.asg (.nm 7) (.bin .add (.slc (.var 1) .non (.var 3)) (.slc (.var 1) (.bin .add (.var 3) (.int 1)) .non)))
  (.seq (.ite (.and (.cmp .eq (.var 4) (.int 0)) (.cmp .lt (.blt .len (.cons (.var 1) .nil)) (.int 6)))
  (.asg (.nm 7) (.bin .add (.bin .add (.slc (.var 1) .non (.var 3)) (.tup (.cons (.var 6) .nil))) (.slc (.var 1) (.var 3) .non)))
  .skip)
  (.seq (.ite (.and (.cmp .eq (.var 4) (.int 2)) (.cmp .lt (.var 3) (.blt .len (.cons (.var 1) .nil))))
  (.asg (.nm 7) (.bin .add (.bin .add (.slc (.var 1) .non (.var 3)) (.tup (.cons (.var 6) .nil))) (.slc (.var 1) (.bin .add (.var 3) (.int 1)) .non)))
  .skip)
  (.seq (.ite (.cmp .eq (.var 4) (.int 3))
  (.seq (.asg (.nm 8) (.slc (.var 1) (.var 3) (.bin .add (.var 3) (.int 2))))
  (.asg (.nm 7) (.bin .add (.bin .add (.slc (.var 1) .non (.var 3)) (.rev (.var 8))) (.slc (.var 1) (.bin .add (.var 3) (.int 2)) .non))))
  .skip)
  (.ret (.ifx (.call 13 (.cons (.lst (.cons (.var 7) (.cons (.var 1) .nil))) (.cons (.var 2) .nil))) (.var 7) (.var 1)))))))))) }
def d_law_mixed : Def := { ps := 1, rest := false, slots := 4, keep := false, body :=
  (.seq (.asg (.nm 1) (.tup .nil))
  (.seq (.for_ (.nm 2) (.rng1 (.call 0 (.cons (.var 0) (.cons (.int 5) .nil))))
  (.seq (.asg (.nm 3) (.bin .add (.var 1) (.tup (.cons (.call 10 (.cons (.var 0) (.cons (.lst (.cons (.str "a") .nil)) (.cons (.int 1) .nil)))) .nil))))
  (.ite (.and (.cmp .lt (.call 11 (.cons (.var 3) .nil)) (.int 2)) (.cmp .lt (.call 12 (.cons (.var 3) .nil)) (.int 2)))
  (.asg (.nm 1) (.var 3))
  .skip)))
  (.ret (.var 1)))) }
def d_law_fillings : Def := { ps := 2, rest := false, slots := 9, keep := false, body :=
  (.seq (.asg (.nm 2) (.lst (.cons (.lst .nil) .nil)))
  (.seq (.for_ (.nm 3) (.rng1 (.var 0))
  (.seq (.asg (.nm 4) (.lst .nil))
  (.seq (.for_ (.nm 5) (.iter (.var 2))
  (.seq (.asg (.nm 6) (.lc [7] (.nm 7) (.iter (.var 5)) (.and (.notn (.var 7)) (.cmp .gt (.var 7) (.int 500))) (.var 7)))
  (.seq (.asg (.nm 8) (.bin .add (.bin .add (.bin .add (.lst (.cons .non .nil)) (.var 1)) (.blt .sortset (.cons (.var 6) .nil))) (.lst (.cons (.bin .add (.int 501) (.blt .lenset (.cons (.var 6) .nil))) .nil))))
  (.asg (.nm 4) (.bin .add (.var 4) (.lc [7] (.nm 7) (.iter (.var 8)) (.bl true) (.bin .add (.var 5) (.lst (.cons (.var 7) .nil)))))))))
  (.asg (.nm 2) (.var 4)))))
  (.ret (.var 2)))) }
def d_law_alone : Def := { ps := 4, rest := false, slots := 10, keep := false, body :=
  (.seq (.asg (.tp (.cons (.nm 4) (.cons (.nm 5) (.cons (.nm 6) .nil)))) (.tup (.cons (.lst (.cons (.bin .add (.ix (.var 0) (.int 0)) (.lst .nil)) (.cons (.bin .add (.ix (.var 0) (.int 1)) (.lst .nil)) (.cons (.ix (.var 0) (.int 2)) (.cons (.ix (.var 0) (.int 3)) .nil))))) (.cons (.lst .nil) (.cons (.bin .add (.ix (.var 0) (.int 0)) (.ix (.var 0) (.int 1))) .nil)))))
  (.seq (.for_ (.nm 7) (.iter (.var 2))
  (.seq (.asg (.tp (.cons (.nm 8) (.cons (.nm 9) .nil))) (.tup (.cons (.ix (.var 7) (.int 0)) (.cons (.bl true) .nil))))
  (.seq (.ite (.cmp .eq (.var 8) (.str "switch"))
  (.seq (.expr (.mth .append (.var 5) (.cons (.call 54 (.cons (.var 4) .nil)) .nil)))
  (.seq (.asg (.nm 9) (.not (.ix (.var 3) (.bin .sub (.blt .len (.cons (.var 5) .nil)) (.int 1)))))
  (.ite (.and (.var 9) (.ix (.var 5) (.int (-1))))
  (.ret .non)
  .skip)))
  .skip)
  (.seq (.ite (.cmp .in_ (.var 8) (.tup (.cons (.str "soft") (.cons (.str "mixed") (.cons (.str "hard") .nil)))))
  (.asg (.nm 9) (.cmp .gt (.blt .len (.cons (.ix (.var 4) (.int 0)) .nil)) (.ix (.var 7) (.int 1))))
  .skip)
  (.ite (.var 9)
  (.seq (.expr (.call 55 (.cons (.var 4) (.cons (.var 1) (.cons (.var 7) .nil)))))
  (.asg (.nm 6) (.bin .add (.var 6) (.lst (.cons (.ix (.ix (.var 4) (.int 0)) (.int (-1))) .nil)))))
  .skip)))))
  (.ret (.tup (.cons (.var 4) (.cons (.var 5) (.cons (.var 6) .nil))))))) }
def d_law_lost : Def := { ps := 3, rest := false, slots := 4, keep := false, body :=
  (.seq (.asg (.nm 3) (.ix (.var 0) (.ifx (.cmp .eq (.var 2) (.str "stage")) (.int 2) (.int 3))))
  (.ret (.and (.notn (.var 3)) (.cmp .ni (.var 3) (.bin .add (.bin .add (.ix (.var 1) (.int 2)) (.ix (.ix (.var 1) (.int 0)) (.int 1))) (.lst (.cons (.ix (.ix (.var 1) (.int 0)) (.int 2)) (.cons (.ix (.ix (.var 1) (.int 0)) (.int 3)) .nil)))))))) }
def d_law_good : Def := { ps := 4, rest := false, slots := 4, keep := false, body :=
  (.seq (.ite (.cmp .eq (.ix (.var 0) (.int 0)) (.str "part"))
  (.ret (.cmp .ne (.ix (.ix (.var 3) (.int 0)) (.int 0)) (.ix (.ix (.var 3) (.int 1)) (.int 0))))
  .skip)
  (.ret (.or (.cmp .eq (.ix (.var 0) (.int 0)) (.str "any")) (.and (.cmp .eq (.var 1) (.ix (.var 0) (.int 1))) (.call 87 (.cons (.var 2) (.cons (.ix (.var 3) (.int 0)) (.cons (.ix (.var 0) (.int 2)) .nil)))))))) }
def d_law_kinds : Def := { ps := 6, rest := false, slots := 14, keep := false, body :=
  (.seq (.asg (.nm 6) (.dct .dnil))
  (.seq (.for_ (.nm 7) (.iter (.call 85 (.cons (.bin .add (.bin .add (.ix (.var 0) (.int 0)) (.ix (.var 0) (.int 1))) (.int 2)) (.cons (.var 1) .nil))))
  (.seq (.asg (.nm 8) (.tup (.cons (.slc (.var 7) .non (.ix (.var 0) (.int 0))) (.cons (.slc (.var 7) (.ix (.var 0) (.int 0)) (.bin .add (.ix (.var 0) (.int 0)) (.ix (.var 0) (.int 1)))) (.cons (.ix (.var 7) (.int (-2))) (.cons (.ix (.var 7) (.int (-1))) .nil))))))
  (.seq (.asg (.nm 9) (.lc [10, 11] (.tp (.cons (.nm 10) (.cons (.nm 11) .nil))) (.zip (.var 3) (.var 4)) (.bl true) (.call 86 (.cons (.var 8) (.cons (.var 2) (.cons (.var 10) (.cons (.var 11) .nil)))))))
  (.ite (.cmp .ni .non (.var 9))
  (.seq (.asg (.nm 12) (.lst .nil))
  (.seq (.for_ (.nm 13) (.iter (.var 9))
  (.asg (.nm 12) (.bin .add (.var 12) (.ix (.var 13) (.int 1)))))
  (.asg (.sub (.var 6) (.tup (.cons (.blt .tuple (.cons (.var 12) .nil)) (.cons (.call 88 (.cons (.var 5) (.cons (.var 2) (.cons (.var 8) (.cons (.var 9) .nil))))) .nil)))) (.bl true))))
  .skip))))
  (.ret (.blt .list (.cons (.var 6) .nil))))) }
def d_law_both : Def := { ps := 2, rest := false, slots := 9, keep := false, body :=
  (.seq (.asg (.nm 2) (.dct .dnil))
  (.seq (.for_ (.tp (.cons (.nm 3) (.cons (.nm 4) .nil))) (.iter (.var 0))
  (.for_ (.tp (.cons (.nm 5) (.cons (.nm 6) .nil))) (.iter (.var 1))
  (.asg (.sub (.var 2) (.tup (.cons (.blt .tuple (.cons (.lc [7, 8] (.tp (.cons (.nm 7) (.cons (.nm 8) .nil))) (.zip (.var 3) (.var 5)) (.bl true) (.or (.var 7) (.var 8))) .nil)) (.cons (.or (.var 4) (.var 6)) .nil)))) (.bl true))))
  (.ret (.blt .list (.cons (.var 2) .nil))))) }
def d_law_reached : Def := { ps := 4, rest := false, slots := 16, keep := false, body :=
  (.seq (.asg (.tp (.cons (.nm 4) (.cons (.nm 5) (.cons (.nm 6) .nil)))) (.tup (.cons (.lst .nil) (.cons (.lst .nil) (.cons (.lst .nil) .nil)))))
  (.seq (.for_ (.tp (.cons (.nm 7) (.cons (.nm 8) .nil))) (.zip (.var 1) (.var 2))
  (.seq (.asg (.nm 4) (.bin .add (.var 4) (.call 19 (.cons (.var 7) .nil))))
  (.seq (.asg (.nm 5) (.bin .add (.var 5) (.call 20 (.cons (.var 7) .nil))))
  (.asg (.nm 6) (.bin .add (.var 6) (.blt .list (.cons (.var 8) .nil)))))))
  (.seq (.asg (.nm 9) (.cmp .eq (.ix (.var 3) (.int 0)) (.str "any")))
  (.seq (.ite (.cmp .eq (.ix (.var 3) (.int 0)) (.str "part"))
  (.seq (.asg (.nm 10) (.tup (.cons (.bin .mul (.lst (.cons .non .nil)) (.ix (.var 0) (.int 0))) (.cons (.bin .mul (.lst (.cons .non .nil)) (.ix (.var 0) (.int 1))) (.cons .non (.cons .non .nil))))))
  (.seq (.asg (.nm 11) (.lc [7, 8] (.tp (.cons (.nm 7) (.cons (.nm 8) .nil))) (.zip (.var 1) (.var 2)) (.bl true) (.ix (.call 86 (.cons (.var 10) (.cons (.str "") (.cons (.var 7) (.cons (.var 8) .nil))))) (.int 0))))
  (.asg (.nm 9) (.cmp .ne (.lst (.cons (.blt .len (.cons (.ix (.ix (.var 11) (.int 0)) (.int 0)) .nil)) (.cons (.blt .len (.cons (.ix (.ix (.var 11) (.int 0)) (.int 1)) .nil)) .nil))) (.lst (.cons (.blt .len (.cons (.ix (.ix (.var 11) (.int 1)) (.int 0)) .nil)) (.cons (.blt .len (.cons (.ix (.ix (.var 11) (.int 1)) (.int 1)) .nil)) .nil)))))))
  .skip)
  (.seq (.asg (.nm 12) (.lst (.cons (.tup (.cons (.blt .tuple (.cons (.bin .mul (.lst (.cons (.bl false) .nil)) (.blt .len (.cons (.var 6) .nil))) .nil)) (.cons (.var 9) .nil))) .nil)))
  (.seq (.for_ (.nm 13) (.iter (.blt .sortset (.cons (.var 4) .nil)))
  (.asg (.nm 12) (.call 90 (.cons (.var 12) (.cons (.call 89 (.cons (.var 0) (.cons (.blt .sortset (.cons (.var 5) .nil)) (.cons (.var 13) (.cons (.var 1) (.cons (.var 2) (.cons (.var 3) .nil))))))) .nil)))))
  (.seq (.asg (.nm 14) (.call 89 (.cons (.var 0) (.cons (.lst .nil) (.cons (.str "") (.cons (.var 1) (.cons (.var 2) (.cons (.var 3) .nil))))))))
  (.seq (.for_ (.nm 15) (.rng1 (.bin .add (.blt .len (.cons (.var 6) .nil)) (.int 1)))
  (.asg (.nm 12) (.blt .sortset (.cons (.bin .add (.var 12) (.call 90 (.cons (.var 12) (.cons (.var 14) .nil)))) .nil))))
  (.ret (.cmp .in_ (.tup (.cons (.blt .tuple (.cons (.var 6) .nil)) (.cons (.bl true) .nil))) (.var 12))))))))))) }
def d_law_rows : Def := { ps := 1, rest := false, slots := 4, keep := false, body :=
  (.seq (.asg (.nm 1) (.lst (.cons (.tup .nil) .nil)))
  (.seq (.for_ (.nm 2) (.rng1 (.call 12 (.cons (.var 0) .nil)))
  (.asg (.nm 1) (.bin .add (.lc [3] (.nm 3) (.iter (.var 1)) (.bl true) (.bin .add (.var 3) (.tup (.cons (.bl false) .nil)))) (.lc [3] (.nm 3) (.iter (.var 1)) (.bl true) (.bin .add (.var 3) (.tup (.cons (.bl true) .nil)))))))
  (.ret (.var 1)))) }
def d_law_shapes : Def := { ps := 1, rest := false, slots := 7, keep := false, body :=
  (.seq (.asg (.nm 1) (.bin .add (.int 1) (.blt .max1 (.cons (.lc [2] (.nm 2) (.iter (.var 0)) (.bl true) (.call 11 (.cons (.var 2) .nil))) .nil))))
  (.seq (.asg (.nm 3) (.cmp .gt (.blt .max1 (.cons (.lc [2] (.nm 2) (.iter (.var 0)) (.bl true) (.call 12 (.cons (.var 2) .nil))) .nil)) (.int 0)))
  (.seq (.asg (.nm 4) (.lst .nil))
  (.seq (.for_ (.nm 5) (.rng2 (.int 1) (.bin .add (.var 1) (.int 1)))
  (.asg (.nm 4) (.bin .add (.var 4) (.lc [6] (.nm 6) (.rng2 (.int 1) (.bin .add (.var 1) (.int 1))) (.or (.var 3) (.cmp .eq (.var 6) (.int 1))) (.tup (.cons (.var 5) (.cons (.var 6) .nil)))))))
  (.ret (.var 4)))))) }
def d_law_same : Def := { ps := 2, rest := false, slots := 5, keep := false, body :=
  (.seq (.for_ (.nm 2) (.iter (.call 93 (.cons (.lst (.cons (.var 0) (.cons (.var 1) .nil))) .nil)))
  (.for_ (.nm 3) (.iter (.call 92 (.cons (.var 0) .nil)))
  (.for_ (.nm 4) (.iter (.call 92 (.cons (.var 1) .nil)))
  (.ite (.call 91 (.cons (.var 2) (.cons (.lst (.cons (.var 0) (.cons (.var 1) .nil))) (.cons (.lst (.cons (.var 3) (.cons (.var 4) .nil))) (.cons (.tup (.cons (.str "part") .nil)) .nil)))))
  (.ret (.bl false))
  .skip))))
  (.ret (.bl true))) }
def d_law_losers : Def := { ps := 3, rest := false, slots := 5, keep := false, body :=
  (.seq (.for_ (.nm 3) (.iter (.call 93 (.cons (.lst (.cons (.var 0) .nil)) .nil)))
  (.for_ (.nm 4) (.iter (.call 92 (.cons (.var 0) .nil)))
  (.ite (.call 91 (.cons (.var 3) (.cons (.lst (.cons (.var 0) .nil)) (.cons (.lst (.cons (.var 4) .nil)) (.cons (.tup (.cons (.str "lose") (.cons (.var 1) (.cons (.var 2) .nil)))) .nil)))))
  (.ret (.bl true))
  .skip)))
  (.ret (.bl false))) }
def d_law_really : Def := { ps := 3, rest := false, slots := 10, keep := false, body :=
  (.seq (.asg (.tp (.cons (.nm 3) (.cons (.nm 4) (.cons (.nm 5) .nil)))) (.call 56 (.cons (.var 0) (.cons (.var 1) .nil))))
  (.seq (.asg (.tp (.cons (.nm 6) (.cons (.nm 7) .nil))) (.tup (.cons (.lst .nil) (.cons (.dct .dnil) .nil))))
  (.seq (.for_ (.nm 8) (.iter (.ix (.var 3) (.int 2)))
  (.asg (.sub (.var 7) (.ix (.var 8) (.int 0))) (.bin .add (.blt .list (.cons (.ix (.var 8) (.int 2)) .nil)) (.lst (.cons (.ix (.var 8) (.int 3)) (.cons (.ix (.var 8) (.int 4)) .nil))))))
  (.seq (.for_ (.nm 8) (.iter (.ix (.var 0) (.int 2)))
  (.seq (.asg (.nm 9) (.ix (.var 8) (.ifx (.cmp .eq (.var 2) (.str "stage")) (.int 3) (.int 4))))
  (.ite (.and (.notn (.var 9)) (.cmp .ni (.var 9) (.bin .add (.ix (.var 5) (.ix (.var 8) (.int 0))) (.mth .get2 (.var 7) (.cons (.ix (.var 8) (.int 0)) (.cons (.lst .nil) .nil))))))
  (.expr (.mth .append (.var 6) (.cons (.ix (.var 8) (.int 0)) .nil)))
  .skip)))
  (.ret (.var 6)))))) }
def d_differ : Def := { ps := 4, rest := false, slots := 4, keep := false, body :=
  (.ret (.cmp .ne (.ix (.ix (.var 3) (.int 0)) (.int 0)) (.ix (.ix (.var 3) (.int 1)) (.int 0)))) }
def d_lengths : Def := { ps := 3, rest := false, slots := 5, keep := false, body :=
  (.seq (.asg (.nm 3) (.tup (.cons (.bin .mul (.tup (.cons .non .nil)) (.ix (.var 0) (.int 0))) (.cons (.bin .mul (.tup (.cons .non .nil)) (.ix (.var 0) (.int 1))) (.cons .non (.cons .non .nil))))))
  (.seq (.asg (.nm 4) (.ix (.call 110 (.cons (.var 3) (.cons (.str "") (.cons (.var 1) (.cons (.var 2) .nil))))) (.int 0)))
  (.ret (.tup (.cons (.blt .len (.cons (.ix (.var 4) (.int 0)) .nil)) (.cons (.blt .len (.cons (.ix (.var 4) (.int 1)) .nil)) .nil)))))) }
def d_telling_project : Def := { ps := 2, rest := false, slots := 7, keep := false, body :=
  (.seq (.for_ (.nm 2) (.iter (.call 108 (.cons (.tup (.cons (.var 0) (.cons (.var 1) .nil))) .nil)))
  (.for_ (.nm 3) (.iter (.call 111 (.cons (.var 0) .nil)))
  (.for_ (.nm 4) (.iter (.call 111 (.cons (.var 1) .nil)))
  (.seq (.asg (.nm 5) (.cmp .ne (.call 98 (.cons (.var 2) (.cons (.var 0) (.cons (.var 3) .nil)))) (.call 98 (.cons (.var 2) (.cons (.var 1) (.cons (.var 4) .nil))))))
  (.seq (.asg (.nm 6) (.call 116 (.cons (.tup (.cons (.var 0) (.cons (.var 1) .nil))) (.cons (.tup (.cons (.var 3) (.cons (.var 4) .nil))) (.cons (.var 2) (.cons (.gfn 97) (.cons .non (.cons (.var 5) .nil))))))))
  (.ite (.notn (.var 6))
  (.ret (.var 6))
  .skip))))))
  (.ret .non)) }
def d_alike : Def := { ps := 2, rest := false, slots := 2, keep := false, body :=
  (.ret (.isn (.call 99 (.cons (.var 0) (.cons (.var 1) .nil))))) }
def d_commute : Def := { ps := 2, rest := false, slots := 2, keep := false, body :=
  (.ret (.call 100 (.cons (.tup (.star (.var 0) (.star (.var 1) .nil))) (.cons (.tup (.star (.var 1) (.star (.var 0) .nil))) .nil)))) }
def d_undoes : Def := { ps := 2, rest := false, slots := 2, keep := false, body :=
  (.ret (.call 100 (.cons (.tup (.star (.var 1) (.star (.var 0) .nil))) (.cons (.tup .nil) .nil)))) }
def d_needless : Def := { ps := 1, rest := false, slots := 2, keep := false, body :=
  (.ret (.lc [1] (.nm 1) (.rng1 (.blt .len (.cons (.var 0) .nil))) (.call 100 (.cons (.var 0) (.cons (.bin .add (.slc (.var 0) .non (.var 1)) (.slc (.var 0) (.bin .add (.var 1) (.int 1)) .non)) .nil))) (.var 1))) }
def d_is_lost : Def := { ps := 4, rest := false, slots := 8, keep := false, body :=
  (.seq (.asg (.nm 4) (.ifx (.cmp .eq (.ix (.var 0) (.int 1)) (.str "stage")) (.ix (.var 2) (.int 2)) (.ix (.var 2) (.int 3))))
  (.seq (.asg (.tp (.cons (.nm 5) (.cons (.nm 6) (.cons (.nm 7) .nil)))) (.ix (.var 3) (.int 0)))
  (.ret (.and (.cmp .eq (.var 1) (.ix (.var 0) (.int 0))) (.and (.notn (.var 4)) (.cmp .ni (.var 4) (.tup (.star (.var 7) (.star (.ix (.var 5) (.int 1)) (.cons (.ix (.var 5) (.int 2)) (.cons (.ix (.var 5) (.int 3)) .nil))))))))))) }
def d_losing_project : Def := { ps := 3, rest := false, slots := 6, keep := false, body :=
  (.seq (.for_ (.nm 3) (.iter (.call 108 (.cons (.tup (.cons (.var 0) .nil)) .nil)))
  (.for_ (.nm 4) (.iter (.call 111 (.cons (.var 0) .nil)))
  (.seq (.asg (.nm 5) (.call 116 (.cons (.tup (.cons (.var 0) .nil)) (.cons (.tup (.cons (.var 4) .nil)) (.cons (.var 3) (.cons (.gfn 104) (.cons (.tup (.cons (.var 1) (.cons (.var 2) .nil))) (.cons (.bl false) .nil))))))))
  (.ite (.notn (.var 5))
  (.ret (.var 5))
  .skip))))
  (.ret .non)) }
def d_can_lose : Def := { ps := 1, rest := false, slots := 5, keep := false, body :=
  (.seq (.asg (.tp (.cons (.nm 1) (.cons (.nm 2) .nil))) (.tup (.cons (.lst (.cons (.str "") (.star (.call 35 (.cons (.var 0) .nil)) .nil))) (.cons (.lst .nil) .nil))))
  (.seq (.for_ (.nm 3) (.iter (.var 1))
  (.for_ (.nm 4) (.iter (.tup (.cons (.str "stage") (.cons (.str "work") .nil))))
  (.ite (.notn (.call 105 (.cons (.var 0) (.cons (.var 3) (.cons (.var 4) .nil)))))
  (.expr (.mth .append (.var 2) (.cons (.tup (.cons (.var 3) (.cons (.var 4) .nil))) .nil)))
  .skip)))
  (.ret (.var 2)))) }
def d_fillings : Def := { ps := 2, rest := false, slots := 10, keep := false, body :=
  (.seq (.asg (.nm 2) (.lst (.cons (.tup (.cons (.tup .nil) (.cons (.int 0) .nil))) .nil)))
  (.seq (.asg (.nm 3) (.lc [4] (.nm 4) (.rng1 (.bin .add (.var 0) (.blt .len (.cons (.var 1) .nil)))) (.cmp .ni (.var 4) (.var 1)) (.var 4)))
  (.seq (.for_ (.nm 5) (.rng1 (.var 0))
  (.seq (.asg (.nm 6) (.lst .nil))
  (.seq (.for_ (.tp (.cons (.nm 7) (.cons (.nm 8) .nil))) (.iter (.var 2))
  (.seq (.for_ (.nm 9) (.iter (.lst (.cons .non (.star (.var 1) (.star (.slc (.var 3) .non (.var 8)) .nil)))))
  (.expr (.mth .append (.var 6) (.cons (.tup (.cons (.tup (.star (.var 7) (.cons (.var 9) .nil))) (.cons (.var 8) .nil))) .nil))))
  (.expr (.mth .append (.var 6) (.cons (.tup (.cons (.tup (.star (.var 7) (.cons (.ix (.var 3) (.var 8)) .nil))) (.cons (.bin .add (.var 8) (.int 1)) .nil))) .nil)))))
  (.asg (.nm 2) (.var 6)))))
  (.ret (.lc [7, 8] (.tp (.cons (.nm 7) (.cons (.nm 8) .nil))) (.iter (.var 2)) (.bl true) (.var 7)))))) }
def d_shapes : Def := { ps := 1, rest := false, slots := 6, keep := false, body :=
  (.seq (.asg (.nm 1) (.bin .add (.int 1) (.blt .max1 (.cons (.bin .add (.lst (.cons (.int 0) .nil)) (.lc [2] (.nm 2) (.iter (.var 0)) (.bl true) (.call 37 (.cons (.var 2) .nil)))) .nil))))
  (.seq (.asg (.nm 3) (.blt .any (.cons (.lc [2] (.nm 2) (.iter (.var 0)) (.bl true) (.cmp .gt (.call 38 (.cons (.var 2) .nil)) (.int 0))) .nil)))
  (.ret (.lc2 [4, 5] [5] (.nm 4) (.rng2 (.int 1) (.bin .add (.var 1) (.int 1))) (.bl true) (.nm 5) (.rng2 (.int 1) (.bin .add (.ifx (.var 3) (.var 1) (.int 1)) (.int 1))) (.bl true) (.tup (.cons (.var 4) (.cons (.var 5) .nil))))))) }
def d_all_places : Def := { ps := 2, rest := false, slots := 6, keep := false, body :=
  (.seq (.asg (.tp (.cons (.nm 2) (.cons (.nm 3) .nil))) (.var 0))
  (.seq (.asg (.nm 4) (.call 107 (.cons (.bin .add (.bin .add (.var 2) (.var 3)) (.int 2)) (.cons (.var 1) .nil))))
  (.ret (.lc [5] (.nm 5) (.iter (.var 4)) (.bl true) (.tup (.cons (.slc (.var 5) .non (.var 2)) (.cons (.slc (.var 5) (.var 2) (.bin .add (.var 2) (.var 3))) (.cons (.ix (.var 5) (.int (-2))) (.cons (.ix (.var 5) (.int (-1))) .nil))))))))) }
def d_run_file : Def := { ps := 4, rest := false, slots := 7, keep := false, body :=
  (.seq (.asg (.tp (.cons (.nm 4) (.cons (.nm 5) .nil))) (.tup (.cons (.lst .nil) (.cons (.lst (.star (.ix (.var 0) (.int 0)) (.star (.ix (.var 0) (.int 1)) .nil))) .nil))))
  (.seq (.for_ (.nm 6) (.iter (.var 2))
  (.seq (.ite (.cmp .eq (.ix (.var 6) (.int 0)) (.str "switch"))
  (.seq (.expr (.mth .append (.var 4) (.cons (.call 40 (.cons (.var 0) .nil)) .nil)))
  (.seq (.ite (.ix (.var 3) (.bin .sub (.blt .len (.cons (.var 4) .nil)) (.int 1)))
  .cont
  .skip)
  (.ite (.ix (.var 4) (.int (-1)))
  (.ret .non)
  .skip)))
  .skip)
  (.seq (.ite (.and (.cmp .in_ (.ix (.var 6) (.int 0)) (.gcon 9)) (.cmp .le (.blt .len (.cons (.ix (.var 0) (.int 0)) .nil)) (.ix (.var 6) (.int 1))))
  .cont
  .skip)
  (.seq (.asg (.nm 0) (.call 43 (.cons (.var 0) (.cons (.var 1) (.cons (.var 6) .nil)))))
  (.asg (.nm 5) (.lst (.star (.var 5) (.cons (.ix (.ix (.var 0) (.int 0)) (.int (-1))) .nil))))))))
  (.ret (.tup (.cons (.var 0) (.cons (.blt .tuple (.cons (.var 4) .nil)) (.cons (.var 5) .nil))))))) }
def d_all_refusals : Def := { ps := 1, rest := false, slots := 5, keep := false, body :=
  (.seq (.asg (.nm 1) (.lst (.cons (.tup .nil) .nil)))
  (.seq (.for_ (.nm 2) (.rng1 (.call 38 (.cons (.var 0) .nil)))
  (.asg (.nm 1) (.lc2 [3, 4] [4] (.nm 3) (.iter (.var 1)) (.bl true) (.nm 4) (.iter (.tup (.cons (.bl false) (.cons (.bl true) .nil)))) (.bl true) (.tup (.star (.var 3) (.cons (.var 4) .nil))))))
  (.ret (.var 1)))) }
def d_union : Def := { ps := 2, rest := false, slots := 4, keep := false, body :=
  (.ret (.blt .tuple (.cons (.lc [2, 3] (.tp (.cons (.nm 2) (.cons (.nm 3) .nil))) (.zip (.var 0) (.var 1)) (.bl true) (.or (.var 2) (.var 3))) .nil))) }
def d_summaries : Def := { ps := 6, rest := false, slots := 15, keep := false, body :=
  (.seq (.asg (.nm 6) (.dct .dnil))
  (.seq (.for_ (.nm 7) (.iter (.var 0))
  (.seq (.asg (.nm 8) (.lc [9, 10] (.tp (.cons (.nm 9) (.cons (.nm 10) .nil))) (.zip (.var 2) (.var 3)) (.bl true) (.call 110 (.cons (.var 7) (.cons (.var 1) (.cons (.var 9) (.cons (.var 10) .nil)))))))
  (.ite (.cmp .ni .non (.var 8))
  (.seq (.asg (.nm 11) (.blt .tuple (.cons (.lc2 [12, 13] [13] (.nm 12) (.iter (.var 8)) (.bl true) (.nm 13) (.iter (.ix (.var 12) (.int 1))) (.bl true) (.var 13)) .nil)))
  (.seq (.asg (.nm 14) (.tup (.cons (.var 11) (.cons (.callv 4 (.cons (.var 5) (.cons (.var 1) (.cons (.var 7) (.cons (.var 8) .nil))))) .nil))))
  (.ite (.cmp .ni (.var 14) (.var 6))
  (.asg (.sub (.var 6) (.var 14)) (.var 7))
  .skip)))
  .skip)))
  (.ret (.var 6)))) }
def d_joined : Def := { ps := 2, rest := false, slots := 10, keep := false, body :=
  (.seq (.asg (.nm 2) (.dct .dnil))
  (.seq (.for_ (.tp (.cons (.tp (.cons (.nm 3) (.cons (.nm 4) .nil))) (.cons (.nm 5) .nil))) (.items (.var 0))
  (.for_ (.tp (.cons (.tp (.cons (.nm 6) (.cons (.nm 7) .nil))) (.cons (.nm 8) .nil))) (.items (.var 1))
  (.seq (.asg (.nm 9) (.tup (.cons (.call 112 (.cons (.var 3) (.cons (.var 6) .nil))) (.cons (.or (.var 4) (.var 7)) .nil))))
  (.ite (.cmp .ni (.var 9) (.var 2))
  (.asg (.sub (.var 2) (.var 9)) (.tup (.star (.var 5) (.cons (.var 8) .nil))))
  .skip))))
  (.ret (.var 2)))) }
def d_with_others : Def := { ps := 2, rest := false, slots := 7, keep := false, body :=
  (.seq (.asg (.tp (.cons (.nm 2) (.cons (.nm 3) .nil))) (.tup (.cons (.blt .dict (.cons (.var 0) .nil)) (.cons (.blt .dict (.cons (.var 0) .nil)) .nil))))
  (.seq (.whl (.cmp .ne (.var 3) (.dct .dnil))
  (.seq (.asg (.nm 4) (.call 114 (.cons (.var 3) (.cons (.var 1) .nil))))
  (.seq (.asg (.nm 3) (.dc [5, 6] (.tp (.cons (.nm 5) (.cons (.nm 6) .nil))) (.items (.var 4)) (.cmp .ni (.var 5) (.var 2)) (.var 5) (.var 6)))
  (.asg (.nm 2) (.dct (.dstar (.var 2) (.dstar (.var 3) .dnil)))))))
  (.ret (.var 2)))) }
def d_always : Def := { ps := 4, rest := false, slots := 4, keep := false, body :=
  (.ret (.bl true)) }
def d_outcomes : Def := { ps := 1, rest := false, slots := 5, keep := false, body :=
  (.seq (.asg (.nm 1) (.lst .nil))
  (.seq (.for_ (.nm 2) (.iter (.call 108 (.cons (.tup (.cons (.var 0) .nil)) .nil)))
  (.for_ (.nm 3) (.iter (.call 111 (.cons (.var 0) .nil)))
  (.seq (.asg (.nm 4) (.call 116 (.cons (.tup (.cons (.var 0) .nil)) (.cons (.tup (.cons (.var 3) .nil)) (.cons (.var 2) (.cons (.gfn 117) (.cons .non (.cons (.bl true) .nil))))))))
  (.ite (.notn (.var 4))
  (.expr (.mth .append (.var 1) (.cons (.var 4) .nil)))
  .skip))))
  (.ret (.var 1)))) }
def d_can_refuse : Def := { ps := 1, rest := false, slots := 5, keep := false, body :=
  (.seq (.asg (.nm 1) (.lc [2] (.nm 2) (.iter (.call 118 (.cons (.var 0) .nil))) (.bl true) (.call 49 (.cons (.var 2) (.cons (.var 0) .nil)))))
  (.ret (.lc [3] (.nm 3) (.rng1 (.blt .len (.cons (.var 0) .nil))) (.blt .any (.cons (.lc [4] (.nm 4) (.iter (.var 1)) (.bl true) (.cmp .in_ (.var 3) (.var 4))) .nil)) (.var 3)))) }
def d_must_refuse : Def := { ps := 1, rest := false, slots := 5, keep := false, body :=
  (.seq (.asg (.nm 1) (.lc [2] (.nm 2) (.iter (.call 118 (.cons (.var 0) .nil))) (.bl true) (.call 49 (.cons (.var 2) (.cons (.var 0) .nil)))))
  (.ret (.lc [3] (.nm 3) (.rng1 (.blt .len (.cons (.var 0) .nil))) (.blt .all (.cons (.lc [4] (.nm 4) (.iter (.var 1)) (.bl true) (.cmp .in_ (.var 3) (.var 4))) .nil)) (.var 3)))) }
def d_law_drawn : Def := { ps := 2, rest := false, slots := 6, keep := false, body :=
  (.seq (.asg (.nm 2) (.call 0 (.cons (.var 0) (.cons (.int 9) .nil))))
  (.seq (.ite (.cmp .lt (.var 2) (.int 2))
  (.ret .non)
  .skip)
  (.seq (.asg (.nm 3) (.blt .tuple (.cons (.lc [4] (.nm 4) (.rng1 (.call 0 (.cons (.var 0) (.cons (.int 3) .nil)))) (.bl true) (.call 10 (.cons (.var 0) (.cons (.var 1) (.cons (.bin .add (.int 1) (.call 0 (.cons (.var 0) (.cons (.int 2) .nil)))) .nil))))) .nil)))
  (.seq (.ite (.cmp .eq (.var 2) (.int 2))
  (.seq (.asg (.nm 5) (.ix (.lst (.cons .non (.cons (.tup .nil) (.cons (.str "a") (.cons (.tup (.cons (.str "write") (.cons (.str "a") .nil))) (.cons (.tup (.cons (.str "add") (.cons (.str "") .nil))) (.cons (.lst (.cons (.str "commit") .nil)) (.cons (.tup (.cons (.str "hard") (.cons (.int 2) .nil))) .nil)))))))) (.call 0 (.cons (.var 0) (.cons (.int 7) .nil)))))
  (.asg (.nm 3) (.slc (.bin .add (.var 3) (.tup (.cons (.var 5) .nil))) (.int (-2)) .non)))
  .skip)
  (.ret (.ifx (.cmp .eq (.var 2) (.int 3)) (.tup (.cons (.tup (.cons (.str "commit") .nil)) .nil)) (.var 3))))))) }
def d_law_next : Def := { ps := 2, rest := false, slots := 7, keep := false, body :=
  (.seq (.ite (.isn (.var 1))
  (.seq (.ite (.cmp .lt (.blt .len (.cons (.var 0) .nil)) (.int 2))
  (.ret (.str "nothing"))
  .skip)
  (.seq (.expr (.mth .pop0 (.var 0) .nil))
  (.ret .non)))
  .skip)
  (.seq (.ite (.cmp .ne (.lc [2] (.nm 2) (.iter (.var 1)) (.not (.call 34 (.cons (.var 2) .nil))) (.var 2)) (.lst .nil))
  (.ret (.str "command"))
  .skip)
  (.seq (.asg (.tp (.cons (.nm 3) (.cons (.nm 4) .nil))) (.tup (.cons (.ix (.var 0) (.int (-1))) (.cons (.int 0) .nil))))
  (.seq (.for_ (.nm 2) (.iter (.var 1))
  (.seq (.asg (.tp (.cons (.nm 3) (.cons (.nm 5) (.cons (.nm 6) .nil)))) (.call 56 (.cons (.var 3) (.cons (.tup (.cons (.var 2) .nil)) .nil))))
  (.seq (.asg (.nm 4) (.bin .add (.var 4) (.blt .len (.cons (.var 5) .nil))))
  (.ite (.or (.cmp .gt (.ix (.var 3) (.int 0)) (.int 8)) (.cmp .gt (.blt .len (.cons (.ix (.var 3) (.int 2)) .nil)) (.int 8)))
  (.ret (.str "many"))
  .skip))))
  (.seq (.expr (.mth .append (.var 0) (.cons (.var 3) .nil)))
  (.ret (.var 4))))))) }
def d_law_all_right : Def := { ps := 1, rest := false, slots := 5, keep := false, body :=
  (.seq (.asg (.tp (.cons (.nm 1) (.cons (.nm 2) (.cons (.nm 3) (.cons (.nm 4) .nil))))) (.tup (.cons (.tup (.cons (.str "add") (.cons (.var 0) .nil))) (.cons (.tup (.cons (.str "unstage") (.cons (.var 0) .nil))) (.cons (.tup (.cons (.str "restore") (.cons (.var 0) .nil))) (.cons (.tup (.cons (.str "commit") .nil)) .nil))))))
  (.seq (.ite (.or (.not (.call 100 (.cons (.tup (.cons (.var 1) (.cons (.var 2) .nil))) (.cons (.tup (.cons (.var 2) .nil)) .nil)))) (.or (.not (.call 100 (.cons (.tup (.cons (.var 3) (.cons (.var 1) .nil))) (.cons (.tup (.cons (.var 3) .nil)) .nil)))) (.call 100 (.cons (.tup (.cons (.var 1) .nil)) (.cons (.tup .nil) .nil)))))
  (.ret (.bl false))
  .skip)
  (.seq (.ite (.or (.cmp .ne (.call 103 (.cons (.tup (.cons (.var 1) (.cons (.var 2) .nil))) .nil)) (.lst (.cons (.int 0) .nil))) (.cmp .ne (.call 103 (.cons (.tup (.cons (.var 4) (.cons (.tup (.cons (.str "hard") (.cons (.int 0) .nil))) .nil))) .nil)) (.lst .nil)))
  (.ret (.bl false))
  .skip)
  (.seq (.ite (.or (.cmp .ne (.call 106 (.cons (.tup (.cons (.var 3) .nil)) .nil)) (.lst (.cons (.tup (.cons (.var 0) (.cons (.str "work") .nil))) .nil))) (.cmp .ne (.call 106 (.cons (.tup (.cons (.var 1) (.cons (.var 4) .nil))) .nil)) (.lst (.cons (.tup (.cons (.var 0) (.cons (.str "stage") .nil))) .nil))))
  (.ret (.bl false))
  .skip)
  (.seq (.ite (.or (.cmp .ne (.call 106 (.cons (.tup (.cons (.var 4) (.cons (.var 1) (.cons (.var 4) .nil)))) .nil)) (.lst .nil)) (.notn (.call 105 (.cons (.tup (.cons (.var 4) (.cons (.var 1) .nil))) (.cons (.var 0) (.cons (.str "stage") .nil))))))
  (.ret (.bl false))
  .skip)
  (.ret (.cmp .eq (.lst (.cons (.call 119 (.cons (.tup (.cons (.tup (.cons (.str "switch") .nil)) .nil)) .nil)) (.cons (.call 120 (.cons (.tup (.cons (.tup (.cons (.str "switch") .nil)) .nil)) .nil)) .nil))) (.lst (.cons (.lst (.cons (.int 0) .nil)) (.cons (.lst .nil) .nil)))))))))) }
def d_wall : Def := { ps := 1, rest := false, slots := 1, keep := false, body :=
  (.whl (.bl true)
  .skip) }
end TZ

set_option Elab.async false
set_option linter.all false
set_option maxRecDepth 100000
set_option maxHeartbeats 8000000
namespace L_k15
open PySem PySem.Spec PyProof.Rows L2 TZ
def top (i : Nat) : Stmt := PySem.Challenge.pw_threeshelves_k15_whole_files_go_alone.main.body.getD i (.Pass ⟨0, 0, 0, 0⟩)
def n_is_empty : List Str := ["places", "here", "there", "stage", "work", "part"]
def d_is_empty : Def := { ps := 1, rest := false, slots := 6, keep := false, body :=
  (.seq (.asg (.tp (.cons (.nm 1) (.cons (.nm 2) (.cons (.nm 3) (.cons (.nm 4) .nil))))) (.var 0))
  (.ret (.blt .all (.cons (.lc [5] (.nm 5) (.iter (.tup (.star (.var 1) (.star (.var 2) (.cons (.var 3) (.cons (.var 4) .nil)))))) (.bl true) (.isn (.var 5))) .nil)))) }
def n_refuses : List Str := ["places", "here", "there", "stage", "work"]
def d_refuses : Def := { ps := 1, rest := false, slots := 5, keep := false, body :=
  (.seq (.asg (.tp (.cons (.nm 1) (.cons (.nm 2) (.cons (.nm 3) (.cons (.nm 4) .nil))))) (.var 0))
  (.seq (.ite (.or (.cmp .eq (.ix (.var 1) (.int (-1))) (.ix (.var 2) (.int (-1)))) (.cmp .eq (.var 3) (.ix (.var 2) (.int (-1)))))
  (.ret (.bl false))
  .skip)
  (.ret (.or (.cmp .ne (.var 3) (.ix (.var 1) (.int (-1)))) (.cmp .ne (.var 4) (.var 3)))))) }
def n_switched : List Str := ["places", "here", "there", "stage", "work"]
def d_switched : Def := { ps := 1, rest := false, slots := 5, keep := false, body :=
  (.seq (.asg (.tp (.cons (.nm 1) (.cons (.nm 2) (.cons (.nm 3) (.cons (.nm 4) .nil))))) (.var 0))
  (.seq (.ite (.or (.cmp .eq (.ix (.var 1) (.int (-1))) (.ix (.var 2) (.int (-1)))) (.cmp .eq (.var 3) (.ix (.var 2) (.int (-1)))))
  (.ret (.tup (.cons (.var 2) (.cons (.var 1) (.cons (.var 3) (.cons (.var 4) .nil))))))
  .skip)
  (.ret (.tup (.cons (.var 2) (.cons (.var 1) (.cons (.ix (.var 2) (.int (-1))) (.cons (.ix (.var 2) (.int (-1))) .nil)))))))) }
def n_cut : List Str := ["places", "word", "steps", "here", "there", "stage", "work", "line"]
def d_cut : Def := { ps := 3, rest := false, slots := 8, keep := false, body :=
  (.seq (.asg (.tp (.cons (.nm 3) (.cons (.nm 4) (.cons (.nm 5) (.cons (.nm 6) .nil))))) (.var 0))
  (.seq (.asg (.nm 7) (.slc (.var 3) .non (.bin .sub (.blt .len (.cons (.var 3) .nil)) (.var 2))))
  (.seq (.ite (.and (.cmp .eq (.var 1) (.str "hard")) (.or (.notn (.var 5)) (.notn (.ix (.var 7) (.int (-1))))))
  (.asg (.nm 6) (.ix (.var 7) (.int (-1))))
  .skip)
  (.ret (.tup (.cons (.var 7) (.cons (.var 4) (.cons (.ifx (.cmp .eq (.var 1) (.str "soft")) (.var 5) (.ix (.var 7) (.int (-1)))) (.cons (.var 6) .nil))))))))) }
def n_own_done : List Str := ["places", "command", "here", "there", "stage", "work"]
def d_own_done : Def := { ps := 2, rest := false, slots := 6, keep := false, body :=
  (.seq (.asg (.tp (.cons (.nm 2) (.cons (.nm 3) (.cons (.nm 4) (.cons (.nm 5) .nil))))) (.var 0))
  (.seq (.ite (.cmp .eq (.ix (.var 1) (.int 0)) (.str "write"))
  (.ret (.tup (.cons (.var 2) (.cons (.var 3) (.cons (.var 4) (.cons (.ix (.var 1) (.int 2)) .nil))))))
  .skip)
  (.seq (.ite (.cmp .eq (.ix (.var 1) (.int 0)) (.str "add"))
  (.ret (.tup (.cons (.var 2) (.cons (.var 3) (.cons (.var 5) (.cons (.var 5) .nil))))))
  .skip)
  (.seq (.ite (.cmp .eq (.ix (.var 1) (.int 0)) (.str "unstage"))
  (.ret (.tup (.cons (.var 2) (.cons (.var 3) (.cons (.ix (.var 2) (.int (-1))) (.cons (.var 5) .nil))))))
  .skip)
  (.ret (.tup (.cons (.var 2) (.cons (.var 3) (.cons (.var 4) (.cons (.var 4) .nil)))))))))) }
def n_file_done : List Str := ["places", "name", "command", "here", "there", "stage", "work"]
def d_file_done : Def := { ps := 3, rest := false, slots := 7, keep := false, body :=
  (.seq (.ite (.or (.cmp .in_ (.ix (.var 2) (.int 0)) (.gcon 8)) (.cmp .eq (.ix (.var 2) (.int 0)) (.str "write")))
  (.ret (.ifx (.cmp .eq (.ix (.var 2) (.int 1)) (.var 1)) (.call 2 (.cons (.var 0) (.cons (.var 2) .nil))) (.var 0)))
  .skip)
  (.seq (.ite (.cmp .in_ (.ix (.var 2) (.int 0)) (.gcon 9))
  (.ret (.call 42 (.cons (.var 0) (.cons (.ix (.var 2) (.int 0)) (.cons (.ix (.var 2) (.int 1)) .nil)))))
  .skip)
  (.seq (.ite (.cmp .eq (.ix (.var 2) (.int 0)) (.str "switch"))
  (.ret (.call 41 (.cons (.var 0) .nil)))
  .skip)
  (.seq (.asg (.tp (.cons (.nm 3) (.cons (.nm 4) (.cons (.nm 5) (.cons (.nm 6) .nil))))) (.var 0))
  (.ret (.tup (.cons (.tup (.star (.var 3) (.cons (.var 5) .nil))) (.cons (.var 4) (.cons (.var 5) (.cons (.var 6) .nil)))))))))) }
def n_is_refused : List Str := ["project", "command", "file"]
def d_is_refused : Def := { ps := 2, rest := false, slots := 3, keep := false, body :=
  (.seq (.ite (.cmp .in_ (.ix (.var 1) (.int 0)) (.gcon 9))
  (.ret (.cmp .le (.ix (.var 0) (.int 0)) (.ix (.var 1) (.int 1))))
  .skip)
  (.ret (.and (.cmp .eq (.ix (.var 1) (.int 0)) (.str "switch")) (.blt .any (.cons (.lc [2] (.nm 2) (.iter (.ix (.var 0) (.int 2))) (.bl true) (.call 40 (.cons (.slc (.var 2) (.int 1) .non) .nil))) .nil))))) }
def n_counts_after : List Str := ["project", "command", "here", "there"]
def d_counts_after : Def := { ps := 2, rest := false, slots := 4, keep := false, body :=
  (.seq (.asg (.tp (.cons (.nm 2) (.cons (.nm 3) .nil))) (.tup (.cons (.ix (.var 0) (.int 0)) (.cons (.ix (.var 0) (.int 1)) .nil))))
  (.seq (.ite (.cmp .eq (.ix (.var 1) (.int 0)) (.str "commit"))
  (.ret (.tup (.cons (.bin .add (.var 2) (.int 1)) (.cons (.var 3) .nil))))
  .skip)
  (.seq (.ite (.cmp .eq (.ix (.var 1) (.int 0)) (.str "switch"))
  (.ret (.tup (.cons (.var 3) (.cons (.var 2) .nil))))
  .skip)
  (.ret (.ifx (.cmp .in_ (.ix (.var 1) (.int 0)) (.gcon 9)) (.tup (.cons (.bin .sub (.var 2) (.ix (.var 1) (.int 1))) (.cons (.var 3) .nil))) (.tup (.cons (.var 2) (.cons (.var 3) .nil)))))))) }
def n_done : List Str := ["project", "command", "rows", "file", "blank", "found", "name"]
def d_done : Def := { ps := 2, rest := false, slots := 7, keep := false, body :=
  (.seq (.ite (.call 44 (.cons (.var 0) (.cons (.var 1) .nil)))
  (.ret (.var 0))
  .skip)
  (.seq (.asg (.nm 2) (.dc [3] (.nm 3) (.iter (.ix (.var 0) (.int 2))) (.bl true) (.ix (.var 3) (.int 0)) (.slc (.var 3) (.int 1) .non)))
  (.seq (.ite (.or (.cmp .in_ (.ix (.var 1) (.int 0)) (.gcon 8)) (.cmp .eq (.ix (.var 1) (.int 0)) (.str "write")))
  (.seq (.asg (.nm 4) (.tup (.cons (.bin .mul (.tup (.cons .non .nil)) (.ix (.var 0) (.int 0))) (.cons (.bin .mul (.tup (.cons .non .nil)) (.ix (.var 0) (.int 1))) (.cons .non (.cons .non .nil))))))
  (.asg (.nm 2) (.dct (.dpair (.ix (.var 1) (.int 1)) (.var 4) (.dstar (.var 2) .dnil)))))
  .skip)
  (.seq (.asg (.nm 5) (.lc [6] (.nm 6) (.iter (.blt .sorted (.cons (.var 2) .nil))) (.bl true) (.tup (.cons (.var 6) (.star (.call 43 (.cons (.ix (.var 2) (.var 6)) (.cons (.var 6) (.cons (.var 1) .nil)))) .nil)))))
  (.ret (.tup (.star (.call 45 (.cons (.var 0) (.cons (.var 1) .nil))) (.cons (.blt .tuple (.cons (.lc [3] (.nm 3) (.iter (.var 5)) (.not (.call 32 (.cons (.slc (.var 3) (.int 1) .non) .nil))) (.var 3)) .nil)) .nil)))))))) }
def n_after : List Str := ["project", "program", "command"]
def d_after : Def := { ps := 2, rest := false, slots := 3, keep := false, body :=
  (.seq (.for_ (.nm 2) (.iter (.var 1))
  (.asg (.nm 0) (.call 46 (.cons (.var 0) (.cons (.var 2) .nil)))))
  (.ret (.var 0))) }
def n_refused : List Str := ["project", "program", "found", "now", "at", "command"]
def d_refused : Def := { ps := 2, rest := false, slots := 6, keep := false, body :=
  (.seq (.asg (.tp (.cons (.nm 2) (.cons (.nm 3) .nil))) (.tup (.cons (.lst .nil) (.cons (.var 0) .nil))))
  (.seq (.for_ (.tp (.cons (.nm 4) (.cons (.nm 5) .nil))) (.enum (.var 1))
  (.seq (.ite (.call 44 (.cons (.var 3) (.cons (.var 5) .nil)))
  (.expr (.mth .append (.var 2) (.cons (.var 4) .nil)))
  .skip)
  (.asg (.nm 3) (.call 46 (.cons (.var 3) (.cons (.var 5) .nil))))))
  (.ret (.var 2)))) }
def n_law_draw : List Str := ["tape", "many", "prime", "cell", "found"]
def d_law_draw : Def := { ps := 2, rest := false, slots := 5, keep := false, body :=
  (.seq (.asg (.nm 2) (.int 2305843009213693951))
  (.seq (.ite (.cmp .lt (.ix (.var 0) (.int 2)) (.var 1))
  (.seq (.asg (.nm 3) (.int 0))
  (.seq (.ite (.cmp .gt (.blt .len (.cons (.ix (.var 0) (.int 0)) .nil)) (.int 0))
  (.asg (.nm 3) (.ix (.ix (.var 0) (.int 0)) (.bin .mod (.ix (.var 0) (.int 1)) (.blt .len (.cons (.ix (.var 0) (.int 0)) .nil)))))
  .skip)
  (.seq (.ite (.or (.cmp .ge (.ix (.var 0) (.int 1)) (.blt .len (.cons (.ix (.var 0) (.int 0)) .nil))) (.cmp .lt (.var 3) (.bin .pow (.int 10) (.int 18))))
  (.seq (.asg (.nm 3) (.bin .mod (.bin .add (.var 3) (.bin .mul (.int 1000003) (.ix (.var 0) (.int 1)))) (.var 2)))
  (.seq (.asg (.nm 3) (.bin .mod (.bin .add (.bin .add (.bin .mul (.var 3) (.var 3)) (.bin .mul (.int 1181783497276652981) (.var 3))) (.int 2049848353892358983)) (.var 2)))
  (.asg (.nm 3) (.bin .mod (.bin .add (.bin .mul (.var 3) (.var 3)) (.int 1442695040888963407)) (.var 2)))))
  .skip)
  (.seq (.asg (.sub (.var 0) (.int 1)) (.bin .add (.ix (.var 0) (.int 1)) (.int 1)))
  (.asg (.sub (.var 0) (.int 2)) (.var 3))))))
  .skip)
  (.seq (.asg (.nm 4) (.bin .mod (.ix (.var 0) (.int 2)) (.var 1)))
  (.seq (.asg (.sub (.var 0) (.int 2)) (.bin .fdiv (.ix (.var 0) (.int 2)) (.var 1)))
  (.ret (.var 4)))))) }
def n_law_content : List Str := ["tape"]
def d_law_content : Def := { ps := 1, rest := false, slots := 1, keep := false, body :=
  (.ret (.ix (.lst (.cons .non (.cons (.int 1) (.cons (.int 2) (.cons (.int 1) (.cons (.int 3) (.cons (.bin .pow (.int 10) (.int 6)) .nil))))))) (.call 0 (.cons (.var 0) (.cons (.int 6) .nil))))) }
def n_law_command : List Str := ["tape", "names", "value", "words", "word", "name"]
def d_law_command : Def := { ps := 3, rest := false, slots := 6, keep := false, body :=
  (.seq (.asg (.nm 3) (.lst (.cons (.str "add") (.cons (.str "unstage") (.cons (.str "restore") (.cons (.str "write") (.cons (.str "write") (.cons (.str "commit") (.cons (.str "switch") (.cons (.str "hard") (.cons (.str "mixed") (.cons (.str "soft") .nil))))))))))))
  (.seq (.asg (.nm 4) (.ix (.var 3) (.call 0 (.cons (.var 0) (.cons (.int 10) .nil)))))
  (.seq (.asg (.nm 5) (.ix (.var 1) (.call 0 (.cons (.var 0) (.cons (.blt .len (.cons (.var 1) .nil)) .nil)))))
  (.seq (.ite (.cmp .in_ (.var 4) (.tup (.cons (.str "commit") (.cons (.str "switch") .nil))))
  (.ret (.tup (.cons (.var 4) .nil)))
  .skip)
  (.seq (.ite (.cmp .in_ (.var 4) (.tup (.cons (.str "hard") (.cons (.str "mixed") (.cons (.str "soft") .nil)))))
  (.ret (.tup (.cons (.var 4) (.cons (.blt .int (.cons (.cmp .eq (.call 0 (.cons (.var 0) (.cons (.int 3) .nil))) (.int 0)) .nil)) .nil))))
  .skip)
  (.seq (.ite (.cmp .eq (.var 4) (.str "write"))
  (.ret (.tup (.cons (.var 4) (.cons (.var 5) (.cons (.ifx (.cmp .eq (.call 0 (.cons (.var 0) (.cons (.int 4) .nil))) (.int 0)) .non (.var 2)) .nil)))))
  .skip)
  (.ret (.tup (.cons (.var 4) (.cons (.var 5) .nil)))))))))) }
def n_law_cuts : List Str := ["program", "command"]
def d_law_cuts : Def := { ps := 1, rest := false, slots := 2, keep := false, body :=
  (.ret (.blt .len (.cons (.lc [1] (.nm 1) (.iter (.var 0)) (.and (.cmp .in_ (.ix (.var 1) (.int 0)) (.tup (.cons (.str "hard") (.cons (.str "mixed") (.cons (.str "soft") .nil))))) (.cmp .eq (.ix (.var 1) (.int 1)) (.int 1))) (.int 1)) .nil))) }
def n_law_switches : List Str := ["program", "command"]
def d_law_switches : Def := { ps := 1, rest := false, slots := 2, keep := false, body :=
  (.ret (.blt .len (.cons (.lc [1] (.nm 1) (.iter (.var 0)) (.cmp .eq (.var 1) (.tup (.cons (.str "switch") .nil))) (.int 1)) .nil))) }
def n_law_light : List Str := ["some", "names", "my_cuts", "program", "turns"]
def d_law_light : Def := { ps := 2, rest := false, slots := 5, keep := false, body :=
  (.seq (.asg (.nm 2) (.blt .max1 (.cons (.lc [3] (.nm 3) (.iter (.var 0)) (.bl true) (.call 11 (.cons (.var 3) .nil))) .nil)))
  (.seq (.asg (.nm 4) (.blt .max1 (.cons (.lc [3] (.nm 3) (.iter (.var 0)) (.bl true) (.call 12 (.cons (.var 3) .nil))) .nil)))
  (.ret (.and (.cmp .lt (.var 2) (.int 2)) (.and (.cmp .lt (.var 4) (.int 3)) (.or (.cmp .eq (.var 2) (.int 0)) (.cmp .eq (.var 4) (.int 0)))))))) }
def n_law_program : List Str := ["tape", "names", "most", "found", "value", "turn", "more"]
def d_law_program : Def := { ps := 3, rest := false, slots := 7, keep := false, body :=
  (.seq (.asg (.tp (.cons (.nm 3) (.cons (.nm 4) .nil))) (.tup (.cons (.tup .nil) (.cons (.bin .add (.int 1) (.call 0 (.cons (.var 0) (.cons (.int 3) .nil)))) .nil))))
  (.seq (.for_ (.nm 5) (.rng1 (.call 0 (.cons (.var 0) (.cons (.bin .add (.var 2) (.int 1)) .nil))))
  (.seq (.asg (.nm 6) (.bin .add (.var 3) (.tup (.cons (.call 10 (.cons (.var 0) (.cons (.var 1) (.cons (.var 4) .nil)))) .nil))))
  (.ite (.call 13 (.cons (.lst (.cons (.var 6) .nil)) (.cons (.var 1) .nil)))
  (.asg (.nm 3) (.var 6))
  .skip)))
  (.ret (.var 3)))) }
def n_law_names : List Str := ["tape"]
def d_law_names : Def := { ps := 1, rest := false, slots := 1, keep := false, body :=
  (.ret (.ix (.lst (.cons (.lst (.cons (.str "a") .nil)) (.cons (.lst (.cons (.str "a") (.cons (.str "bb") .nil))) (.cons (.lst (.cons (.str "dog") (.cons (.str "c") .nil))) .nil)))) (.call 0 (.cons (.var 0) (.cons (.int 3) .nil))))) }
def n_law_file : List Str := ["tape", "name", "here", "there", "first", "second", "place", "stage", "work"]
def d_law_file : Def := { ps := 4, rest := false, slots := 9, keep := false, body :=
  (.seq (.asg (.tp (.cons (.nm 4) (.cons (.nm 5) .nil))) (.tup (.cons (.lst .nil) (.cons (.lst .nil) .nil))))
  (.seq (.for_ (.nm 6) (.rng1 (.var 2))
  (.expr (.mth .append (.var 4) (.cons (.call 9 (.cons (.var 0) .nil)) .nil))))
  (.seq (.for_ (.nm 6) (.rng1 (.var 3))
  (.expr (.mth .append (.var 5) (.cons (.ifx (.cmp .eq (.call 0 (.cons (.var 0) (.cons (.int 2) .nil))) (.int 0)) (.call 9 (.cons (.var 0) .nil)) (.ix (.var 4) (.int (-1)))) .nil))))
  (.seq (.asg (.nm 7) (.ix (.lst (.cons (.ix (.var 4) (.int (-1))) (.cons (.ix (.var 5) (.int (-1))) (.cons (.call 9 (.cons (.var 0) .nil)) (.cons (.ix (.var 4) (.int (-1))) .nil))))) (.call 0 (.cons (.var 0) (.cons (.int 4) .nil)))))
  (.seq (.asg (.nm 8) (.ix (.lst (.cons (.var 7) (.cons (.call 9 (.cons (.var 0) .nil)) (.cons (.var 7) (.cons (.ix (.var 5) (.int (-1))) .nil))))) (.call 0 (.cons (.var 0) (.cons (.int 4) .nil)))))
  (.ret (.tup (.cons (.var 1) (.cons (.blt .tuple (.cons (.var 4) .nil)) (.cons (.blt .tuple (.cons (.var 5) .nil)) (.cons (.var 7) (.cons (.var 8) .nil)))))))))))) }
def n_law_bare : List Str := ["file", "part"]
def d_law_bare : Def := { ps := 1, rest := false, slots := 2, keep := false, body :=
  (.ret (.cmp .eq (.lc [1] (.nm 1) (.iter (.bin .add (.bin .add (.ix (.var 0) (.int 1)) (.ix (.var 0) (.int 2))) (.slc (.var 0) (.int 3) .non))) (.notn (.var 1)) (.var 1)) (.lst .nil))) }
def n_law_project : List Str := ["tape", "names", "here", "there", "files", "name", "file"]
def d_law_project : Def := { ps := 2, rest := false, slots := 7, keep := false, body :=
  (.seq (.asg (.tp (.cons (.nm 2) (.cons (.nm 3) (.cons (.nm 4) .nil)))) (.tup (.cons (.bin .add (.int 1) (.call 0 (.cons (.var 0) (.cons (.int 3) .nil)))) (.cons (.bin .add (.int 1) (.call 0 (.cons (.var 0) (.cons (.int 3) .nil)))) (.cons (.lst .nil) .nil)))))
  (.seq (.for_ (.nm 5) (.iter (.blt .sorted (.cons (.var 1) .nil)))
  (.ite (.cmp .gt (.call 0 (.cons (.var 0) (.cons (.int 4) .nil))) (.int 0))
  (.seq (.asg (.nm 6) (.call 16 (.cons (.var 0) (.cons (.var 5) (.cons (.var 2) (.cons (.var 3) .nil))))))
  (.asg (.nm 4) (.bin .add (.var 4) (.bin .mul (.lst (.cons (.var 6) .nil)) (.blt .int (.cons (.not (.call 17 (.cons (.var 6) .nil))) .nil))))))
  .skip))
  (.ret (.tup (.cons (.var 2) (.cons (.var 3) (.cons (.blt .tuple (.cons (.var 4) .nil)) .nil))))))) }
def n_law_end_of : List Str := ["project", "name", "found", "file"]
def d_law_end_of : Def := { ps := 2, rest := false, slots := 4, keep := false, body :=
  (.seq (.asg (.nm 2) (.lc [3] (.nm 3) (.iter (.ix (.var 0) (.int 2))) (.cmp .eq (.ix (.var 3) (.int 0)) (.var 1)) (.slc (.var 3) (.int 1) .non)))
  (.ret (.ifx (.cmp .ne (.var 2) (.lst .nil)) (.ix (.var 2) (.int 0)) .non))) }
def n_law : List Str := ["script", "tape", "turn", "names", "program", "project", "later", "gone", "file", "rest", "own", "end", "same", "more"]
def d_law : Def := { ps := 1, rest := false, slots := 14, keep := false, body :=
  (.seq (.asg (.nm 1) (.lst (.cons (.blt .list (.cons (.var 0) .nil)) (.cons (.int 0) (.cons (.int 0) .nil)))))
  (.seq (.for_ (.nm 2) (.rng1 (.int 10))
  (.seq (.asg (.nm 3) (.call 15 (.cons (.var 1) .nil)))
  (.seq (.asg (.tp (.cons (.nm 4) (.cons (.nm 5) .nil))) (.tup (.cons (.call 14 (.cons (.var 1) (.cons (.var 3) (.cons (.int 6) .nil)))) (.cons (.call 18 (.cons (.var 1) (.cons (.bin .add (.var 3) (.lst (.cons (.str "x") (.cons (.str "yy") (.cons (.str "zz") .nil))))) .nil))) .nil))))
  (.seq (.asg (.tp (.cons (.nm 6) (.cons (.nm 7) .nil))) (.tup (.cons (.call 47 (.cons (.var 5) (.cons (.var 4) .nil))) (.cons (.call 49 (.cons (.var 5) (.cons (.var 4) .nil))) .nil))))
  (.seq (.for_ (.nm 8) (.iter (.ix (.var 5) (.int 2)))
  (.seq (.asg (.nm 9) (.tup (.cons (.ix (.var 5) (.int 0)) (.cons (.ix (.var 5) (.int 1)) (.cons (.blt .tuple (.cons (.lc [10] (.nm 10) (.iter (.ix (.var 5) (.int 2))) (.cmp .ne (.var 10) (.var 8)) (.var 10)) .nil)) .nil)))))
  (.ite (.cmp .eq (.call 49 (.cons (.var 9) (.cons (.var 4) .nil))) (.var 7))
  (.seq (.asg (.nm 11) (.call 47 (.cons (.var 9) (.cons (.var 4) .nil))))
  (.for_ (.nm 10) (.iter (.ix (.var 9) (.int 2)))
  (.ite (.cmp .ne (.call 80 (.cons (.var 11) (.cons (.ix (.var 10) (.int 0)) .nil))) (.call 80 (.cons (.var 6) (.cons (.ix (.var 10) (.int 0)) .nil))))
  (.ret (.bl false))
  .skip)))
  .skip)))
  (.seq (.asg (.nm 12) (.tup (.cons (.str "zzzz") (.cons (.bin .mul (.tup (.cons (.int 5) .nil)) (.ix (.var 5) (.int 0))) (.cons (.bin .mul (.tup (.cons (.int 5) .nil)) (.ix (.var 5) (.int 1))) (.cons (.int 5) (.cons (.int 5) .nil)))))))
  (.seq (.asg (.nm 13) (.tup (.cons (.ix (.var 5) (.int 0)) (.cons (.ix (.var 5) (.int 1)) (.cons (.bin .add (.ix (.var 5) (.int 2)) (.tup (.cons (.var 12) .nil))) .nil)))))
  (.seq (.ite (.cmp .ne (.call 49 (.cons (.var 13) (.cons (.var 4) .nil))) (.var 7))
  (.ret (.bl false))
  .skip)
  (.seq (.asg (.nm 11) (.call 47 (.cons (.var 13) (.cons (.var 4) .nil))))
  (.ite (.or (.cmp .ne (.slc (.ix (.var 11) (.int 2)) .non (.int (-1))) (.ix (.var 6) (.int 2))) (.cmp .ne (.ix (.ix (.var 11) (.int 2)) (.int (-1))) (.tup (.cons (.str "zzzz") (.cons (.bin .mul (.tup (.cons (.int 5) .nil)) (.ix (.var 6) (.int 0))) (.cons (.bin .mul (.tup (.cons (.int 5) .nil)) (.ix (.var 6) (.int 1))) (.cons (.int 5) (.cons (.int 5) .nil))))))))
  (.ret (.bl false))
  .skip))))))))))
  (.ret (.bl true)))) }
def tab : List Fd := [⟨"is_empty", top 3, n_is_empty, 32, d_is_empty⟩,
  ⟨"refuses", top 5, n_refuses, 40, d_refuses⟩,
  ⟨"switched", top 6, n_switched, 41, d_switched⟩,
  ⟨"cut", top 7, n_cut, 42, d_cut⟩,
  ⟨"own_done", top 8, n_own_done, 2, d_own_done⟩,
  ⟨"file_done", top 9, n_file_done, 43, d_file_done⟩,
  ⟨"is_refused", top 10, n_is_refused, 44, d_is_refused⟩,
  ⟨"counts_after", top 11, n_counts_after, 45, d_counts_after⟩,
  ⟨"done", top 12, n_done, 46, d_done⟩,
  ⟨"after", top 13, n_after, 47, d_after⟩,
  ⟨"refused", top 14, n_refused, 49, d_refused⟩,
  ⟨"_law_draw", top 16, n_law_draw, 0, d_law_draw⟩,
  ⟨"_law_content", top 17, n_law_content, 9, d_law_content⟩,
  ⟨"_law_command", top 18, n_law_command, 10, d_law_command⟩,
  ⟨"_law_cuts", top 19, n_law_cuts, 11, d_law_cuts⟩,
  ⟨"_law_switches", top 20, n_law_switches, 12, d_law_switches⟩,
  ⟨"_law_light", top 21, n_law_light, 13, d_law_light⟩,
  ⟨"_law_program", top 22, n_law_program, 14, d_law_program⟩,
  ⟨"_law_names", top 23, n_law_names, 15, d_law_names⟩,
  ⟨"_law_file", top 24, n_law_file, 16, d_law_file⟩,
  ⟨"_law_bare", top 25, n_law_bare, 17, d_law_bare⟩,
  ⟨"_law_project", top 26, n_law_project, 18, d_law_project⟩,
  ⟨"_law_end_of", top 27, n_law_end_of, 80, d_law_end_of⟩,
  ⟨"law", top 28, n_law, 4, d_law⟩]
def glob : Glob := ⟨[("WITH_NAME", 8), ("WITH_STEPS", 9)], [("is_empty", 32), ("refuses", 40), ("switched", 41), ("cut", 42), ("own_done", 2), ("file_done", 43), ("is_refused", 44), ("counts_after", 45), ("done", 46), ("after", 47), ("refused", 49), ("_law_draw", 0), ("_law_content", 9), ("_law_command", 10), ("_law_cuts", 11), ("_law_switches", 12), ("_law_light", 13), ("_law_program", 14), ("_law_names", 15), ("_law_file", 16), ("_law_bare", 17), ("_law_project", 18), ("_law_end_of", 80), ("law", 4)]⟩
def defs : List He.DefD := [⟨("is_empty", none), "is_empty", "is_empty", defArgs (top 3), defBody (top 3), defScope (top 3), [], []⟩,
  ⟨("refuses", none), "refuses", "refuses", defArgs (top 5), defBody (top 5), defScope (top 5), [], []⟩,
  ⟨("switched", none), "switched", "switched", defArgs (top 6), defBody (top 6), defScope (top 6), [], []⟩,
  ⟨("cut", none), "cut", "cut", defArgs (top 7), defBody (top 7), defScope (top 7), [], []⟩,
  ⟨("own_done", none), "own_done", "own_done", defArgs (top 8), defBody (top 8), defScope (top 8), [], []⟩,
  ⟨("file_done", none), "file_done", "file_done", defArgs (top 9), defBody (top 9), defScope (top 9), [], []⟩,
  ⟨("is_refused", none), "is_refused", "is_refused", defArgs (top 10), defBody (top 10), defScope (top 10), [], []⟩,
  ⟨("counts_after", none), "counts_after", "counts_after", defArgs (top 11), defBody (top 11), defScope (top 11), [], []⟩,
  ⟨("done", none), "done", "done", defArgs (top 12), defBody (top 12), defScope (top 12), [], []⟩,
  ⟨("after", none), "after", "after", defArgs (top 13), defBody (top 13), defScope (top 13), [], []⟩,
  ⟨("refused", none), "refused", "refused", defArgs (top 14), defBody (top 14), defScope (top 14), [], []⟩,
  ⟨("_law_draw", none), "_law_draw", "_law_draw", defArgs (top 16), defBody (top 16), defScope (top 16), [], []⟩,
  ⟨("_law_content", none), "_law_content", "_law_content", defArgs (top 17), defBody (top 17), defScope (top 17), [], []⟩,
  ⟨("_law_command", none), "_law_command", "_law_command", defArgs (top 18), defBody (top 18), defScope (top 18), [], []⟩,
  ⟨("_law_cuts", none), "_law_cuts", "_law_cuts", defArgs (top 19), defBody (top 19), defScope (top 19), [], []⟩,
  ⟨("_law_switches", none), "_law_switches", "_law_switches", defArgs (top 20), defBody (top 20), defScope (top 20), [], []⟩,
  ⟨("_law_light", none), "_law_light", "_law_light", defArgs (top 21), defBody (top 21), defScope (top 21), [], []⟩,
  ⟨("_law_program", none), "_law_program", "_law_program", defArgs (top 22), defBody (top 22), defScope (top 22), [], []⟩,
  ⟨("_law_names", none), "_law_names", "_law_names", defArgs (top 23), defBody (top 23), defScope (top 23), [], []⟩,
  ⟨("_law_file", none), "_law_file", "_law_file", defArgs (top 24), defBody (top 24), defScope (top 24), [], []⟩,
  ⟨("_law_bare", none), "_law_bare", "_law_bare", defArgs (top 25), defBody (top 25), defScope (top 25), [], []⟩,
  ⟨("_law_project", none), "_law_project", "_law_project", defArgs (top 26), defBody (top 26), defScope (top 26), [], []⟩,
  ⟨("_law_end_of", none), "_law_end_of", "_law_end_of", defArgs (top 27), defBody (top 27), defScope (top 27), [], []⟩,
  ⟨("law", none), "law", "law", defArgs (top 28), defBody (top 28), defScope (top 28), [], []⟩]
def facts : List He.Fa := [.glo "is_empty", .glo "refuses", .glo "switched", .glo "cut", .glo "own_done", .glo "file_done", .glo "is_refused", .glo "counts_after", .glo "done", .glo "after", .glo "refused", .glo "_law_draw", .glo "_law_content", .glo "_law_command", .glo "_law_cuts", .glo "_law_switches", .glo "_law_light", .glo "_law_program", .glo "_law_names", .glo "_law_file", .glo "_law_bare", .glo "_law_project", .glo "_law_end_of", .glo "law", .free "len", .free "list", .free "tuple", .free "sorted", .free "all", .free "any", .free "max", .free "min", .free "int", .free "str", .free "bool", .free "dict", .free "set", .free "isinstance", .free "range", .free "zip", .free "enumerate", .glo "WITH_NAME", .glo "WITH_STEPS"]
def cons : List (Str × List Str) := [("WITH_NAME", ["add", "unstage", "restore"]), ("WITH_STEPS", ["soft", "mixed", "hard"])]
theorem tab_ok : ∀ e ∈ tab, e.ok glob = true := by decide +kernel
abbrev R : PySem.W.OpenRow := PySem.W.OpenLaw.row PySem.Challenge.rw_threeshelves_k15_whole_files_go_alone
abbrev hk : PySem.W.Hook := hookT 4 facts defs cons
def ob (s : PySem.W.SharedT) : He.AlD := obsTG 4 facts defs cons (HandSHeadRun.getT s)
theorem ob_eq (s : PySem.W.SharedT) : ob s = hk.obs s.abs := obsTG_eq (HandSHeadRun.getT_eq s)
def names : List PySem.Str := ["is_empty", "refuses", "switched", "cut", "own_done", "file_done", "is_refused", "counts_after", "done", "after", "refused", "_law_draw", "_law_content", "_law_command", "_law_cuts", "_law_switches", "_law_light", "_law_program", "_law_names", "_law_file", "_law_bare", "_law_project", "_law_end_of", "WITH_NAME", "WITH_STEPS"]
theorem run_ok (w : World) : HandSHeadRun.RunEq R (PySem.W.view R.prog [28]) hk ob 2000 names w := by
  intro os
  kernel_rfl
variable {w : World} {K : PySem.W.Frag} {h : Heap} {mg : Str → Option Value}
theorem bnd_ok (c : He.SaysD facts defs K) : ∀ e ∈ tab, ∃ fd, FunD K e.x e.x (defArgs e.st) (defBody e.st) (defScope e.st) [] [] (He.fAd K (e.x, none)) fd ∧ (e.d.rest = false → Binds K fd (e.N.take e.d.ps) []) ∧ (e.d.rest = true → RestB fd (e.N.take (e.d.ps - 1)) (e.N.getD (e.d.ps - 1) Str.empty)) := by
  intro e he
  simp only [tab, List.mem_cons, List.not_mem_nil, or_false] at he
  rcases he with rfl | rfl | rfl | rfl | rfl | rfl | rfl | rfl | rfl | rfl | rfl | rfl | rfl | rfl | rfl | rfl | rfl | rfl | rfl | rfl | rfl | rfl | rfl | rfl
  · obtain ⟨fd, f⟩ := c.def_ 0 rfl
    exact ⟨fd, f, fun _ => FunD.bindsN f fun _ _ _ _ _ _ us hl => match us, hl with | [_], _ => rfl, fun h => by cases h⟩
  · obtain ⟨fd, f⟩ := c.def_ 1 rfl
    exact ⟨fd, f, fun _ => FunD.bindsN f fun _ _ _ _ _ _ us hl => match us, hl with | [_], _ => rfl, fun h => by cases h⟩
  · obtain ⟨fd, f⟩ := c.def_ 2 rfl
    exact ⟨fd, f, fun _ => FunD.bindsN f fun _ _ _ _ _ _ us hl => match us, hl with | [_], _ => rfl, fun h => by cases h⟩
  · obtain ⟨fd, f⟩ := c.def_ 3 rfl
    exact ⟨fd, f, fun _ => FunD.bindsN f fun _ _ _ _ _ _ us hl => match us, hl with | [_, _, _], _ => rfl, fun h => by cases h⟩
  · obtain ⟨fd, f⟩ := c.def_ 4 rfl
    exact ⟨fd, f, fun _ => FunD.bindsN f fun _ _ _ _ _ _ us hl => match us, hl with | [_, _], _ => rfl, fun h => by cases h⟩
  · obtain ⟨fd, f⟩ := c.def_ 5 rfl
    exact ⟨fd, f, fun _ => FunD.bindsN f fun _ _ _ _ _ _ us hl => match us, hl with | [_, _, _], _ => rfl, fun h => by cases h⟩
  · obtain ⟨fd, f⟩ := c.def_ 6 rfl
    exact ⟨fd, f, fun _ => FunD.bindsN f fun _ _ _ _ _ _ us hl => match us, hl with | [_, _], _ => rfl, fun h => by cases h⟩
  · obtain ⟨fd, f⟩ := c.def_ 7 rfl
    exact ⟨fd, f, fun _ => FunD.bindsN f fun _ _ _ _ _ _ us hl => match us, hl with | [_, _], _ => rfl, fun h => by cases h⟩
  · obtain ⟨fd, f⟩ := c.def_ 8 rfl
    exact ⟨fd, f, fun _ => FunD.bindsN f fun _ _ _ _ _ _ us hl => match us, hl with | [_, _], _ => rfl, fun h => by cases h⟩
  · obtain ⟨fd, f⟩ := c.def_ 9 rfl
    exact ⟨fd, f, fun _ => FunD.bindsN f fun _ _ _ _ _ _ us hl => match us, hl with | [_, _], _ => rfl, fun h => by cases h⟩
  · obtain ⟨fd, f⟩ := c.def_ 10 rfl
    exact ⟨fd, f, fun _ => FunD.bindsN f fun _ _ _ _ _ _ us hl => match us, hl with | [_, _], _ => rfl, fun h => by cases h⟩
  · obtain ⟨fd, f⟩ := c.def_ 11 rfl
    exact ⟨fd, f, fun _ => FunD.bindsN f fun _ _ _ _ _ _ us hl => match us, hl with | [_, _], _ => rfl, fun h => by cases h⟩
  · obtain ⟨fd, f⟩ := c.def_ 12 rfl
    exact ⟨fd, f, fun _ => FunD.bindsN f fun _ _ _ _ _ _ us hl => match us, hl with | [_], _ => rfl, fun h => by cases h⟩
  · obtain ⟨fd, f⟩ := c.def_ 13 rfl
    exact ⟨fd, f, fun _ => FunD.bindsN f fun _ _ _ _ _ _ us hl => match us, hl with | [_, _, _], _ => rfl, fun h => by cases h⟩
  · obtain ⟨fd, f⟩ := c.def_ 14 rfl
    exact ⟨fd, f, fun _ => FunD.bindsN f fun _ _ _ _ _ _ us hl => match us, hl with | [_], _ => rfl, fun h => by cases h⟩
  · obtain ⟨fd, f⟩ := c.def_ 15 rfl
    exact ⟨fd, f, fun _ => FunD.bindsN f fun _ _ _ _ _ _ us hl => match us, hl with | [_], _ => rfl, fun h => by cases h⟩
  · obtain ⟨fd, f⟩ := c.def_ 16 rfl
    exact ⟨fd, f, fun _ => FunD.bindsN f fun _ _ _ _ _ _ us hl => match us, hl with | [_, _], _ => rfl, fun h => by cases h⟩
  · obtain ⟨fd, f⟩ := c.def_ 17 rfl
    exact ⟨fd, f, fun _ => FunD.bindsN f fun _ _ _ _ _ _ us hl => match us, hl with | [_, _, _], _ => rfl, fun h => by cases h⟩
  · obtain ⟨fd, f⟩ := c.def_ 18 rfl
    exact ⟨fd, f, fun _ => FunD.bindsN f fun _ _ _ _ _ _ us hl => match us, hl with | [_], _ => rfl, fun h => by cases h⟩
  · obtain ⟨fd, f⟩ := c.def_ 19 rfl
    exact ⟨fd, f, fun _ => FunD.bindsN f fun _ _ _ _ _ _ us hl => match us, hl with | [_, _, _, _], _ => rfl, fun h => by cases h⟩
  · obtain ⟨fd, f⟩ := c.def_ 20 rfl
    exact ⟨fd, f, fun _ => FunD.bindsN f fun _ _ _ _ _ _ us hl => match us, hl with | [_], _ => rfl, fun h => by cases h⟩
  · obtain ⟨fd, f⟩ := c.def_ 21 rfl
    exact ⟨fd, f, fun _ => FunD.bindsN f fun _ _ _ _ _ _ us hl => match us, hl with | [_, _], _ => rfl, fun h => by cases h⟩
  · obtain ⟨fd, f⟩ := c.def_ 22 rfl
    exact ⟨fd, f, fun _ => FunD.bindsN f fun _ _ _ _ _ _ us hl => match us, hl with | [_, _], _ => rfl, fun h => by cases h⟩
  · obtain ⟨fd, f⟩ := c.def_ 23 rfl
    exact ⟨fd, f, fun _ => FunD.bindsN f fun _ _ _ _ _ _ us hl => match us, hl with | [_], _ => rfl, fun h => by cases h⟩
theorem facts_ok (c0 : SaysT facts defs cons K) (X : K.In h) (G : h.Ns mainGlobals mg) : Facts w K mg glob gc0 tab := by
  have c := c0.d
  refine ⟨bnd_ok c, tab_ok, fun x g e => ?_, fun x f _ e => ?_, fun x hx => ?_⟩
  · have hm := PySem.mem_of_lookup e
    simp only [glob, List.mem_cons, List.not_mem_nil, or_false, Prod.mk.injEq] at hm
    rcases hm with ⟨rfl, rfl⟩ | ⟨rfl, rfl⟩
    · exact con_tup (zs := ["add", "unstage", "restore"]) X G (c.fact 41 rfl) (c0.tup 0 rfl) (by decide +kernel)
    · exact con_tup (zs := ["soft", "mixed", "hard"]) X G (c.fact 42 rfl) (c0.tup 1 rfl) (by decide +kernel)
  · have hm := PySem.mem_of_lookup e
    simp only [glob, List.mem_cons, List.not_mem_nil, or_false, Prod.mk.injEq] at hm
    rcases hm with ⟨rfl, rfl⟩ | ⟨rfl, rfl⟩ | ⟨rfl, rfl⟩ | ⟨rfl, rfl⟩ | ⟨rfl, rfl⟩ | ⟨rfl, rfl⟩ | ⟨rfl, rfl⟩ | ⟨rfl, rfl⟩ | ⟨rfl, rfl⟩ | ⟨rfl, rfl⟩ | ⟨rfl, rfl⟩ | ⟨rfl, rfl⟩ | ⟨rfl, rfl⟩ | ⟨rfl, rfl⟩ | ⟨rfl, rfl⟩ | ⟨rfl, rfl⟩ | ⟨rfl, rfl⟩ | ⟨rfl, rfl⟩ | ⟨rfl, rfl⟩ | ⟨rfl, rfl⟩ | ⟨rfl, rfl⟩ | ⟨rfl, rfl⟩ | ⟨rfl, rfl⟩ | ⟨rfl, rfl⟩
    · exact ⟨_, He.glo_ok X G (c.fact 0 rfl), rfl⟩
    · exact ⟨_, He.glo_ok X G (c.fact 1 rfl), rfl⟩
    · exact ⟨_, He.glo_ok X G (c.fact 2 rfl), rfl⟩
    · exact ⟨_, He.glo_ok X G (c.fact 3 rfl), rfl⟩
    · exact ⟨_, He.glo_ok X G (c.fact 4 rfl), rfl⟩
    · exact ⟨_, He.glo_ok X G (c.fact 5 rfl), rfl⟩
    · exact ⟨_, He.glo_ok X G (c.fact 6 rfl), rfl⟩
    · exact ⟨_, He.glo_ok X G (c.fact 7 rfl), rfl⟩
    · exact ⟨_, He.glo_ok X G (c.fact 8 rfl), rfl⟩
    · exact ⟨_, He.glo_ok X G (c.fact 9 rfl), rfl⟩
    · exact ⟨_, He.glo_ok X G (c.fact 10 rfl), rfl⟩
    · exact ⟨_, He.glo_ok X G (c.fact 11 rfl), rfl⟩
    · exact ⟨_, He.glo_ok X G (c.fact 12 rfl), rfl⟩
    · exact ⟨_, He.glo_ok X G (c.fact 13 rfl), rfl⟩
    · exact ⟨_, He.glo_ok X G (c.fact 14 rfl), rfl⟩
    · exact ⟨_, He.glo_ok X G (c.fact 15 rfl), rfl⟩
    · exact ⟨_, He.glo_ok X G (c.fact 16 rfl), rfl⟩
    · exact ⟨_, He.glo_ok X G (c.fact 17 rfl), rfl⟩
    · exact ⟨_, He.glo_ok X G (c.fact 18 rfl), rfl⟩
    · exact ⟨_, He.glo_ok X G (c.fact 19 rfl), rfl⟩
    · exact ⟨_, He.glo_ok X G (c.fact 20 rfl), rfl⟩
    · exact ⟨_, He.glo_ok X G (c.fact 21 rfl), rfl⟩
    · exact ⟨_, He.glo_ok X G (c.fact 22 rfl), rfl⟩
    · exact ⟨_, He.glo_ok X G (c.fact 23 rfl), rfl⟩
  · simp only [bltNames, List.mem_cons, List.not_mem_nil, or_false] at hx
    rcases hx with rfl | rfl | rfl | rfl | rfl | rfl | rfl | rfl | rfl | rfl | rfl | rfl | rfl | rfl | rfl | rfl | rfl
    · exact He.free_ok X G (c.fact 24 rfl)
    · exact He.free_ok X G (c.fact 25 rfl)
    · exact He.free_ok X G (c.fact 26 rfl)
    · exact He.free_ok X G (c.fact 27 rfl)
    · exact He.free_ok X G (c.fact 28 rfl)
    · exact He.free_ok X G (c.fact 29 rfl)
    · exact He.free_ok X G (c.fact 30 rfl)
    · exact He.free_ok X G (c.fact 31 rfl)
    · exact He.free_ok X G (c.fact 32 rfl)
    · exact He.free_ok X G (c.fact 33 rfl)
    · exact He.free_ok X G (c.fact 34 rfl)
    · exact He.free_ok X G (c.fact 35 rfl)
    · exact He.free_ok X G (c.fact 36 rfl)
    · exact He.free_ok X G (c.fact 37 rfl)
    · exact He.free_ok X G (c.fact 38 rfl)
    · exact He.free_ok X G (c.fact 39 rfl)
    · exact He.free_ok X G (c.fact 40 rfl)
/-- the law, once what its def computes is told -/
theorem close (hl : ∀ ns : List Int, ns.length ≤ 63 → ∃ S', callF gc0 (tbOf tab) 30 4 [.lst (ns.map .int)] [] = some (.bl true, S')) : PySem.Challenge.rw_threeshelves_k15_whole_files_go_alone.Holds := by
  w_on; o_law
  refine HandSHeadRun.head_any (r := PySem.W.OpenLaw.row PySem.Challenge.rw_threeshelves_k15_whole_files_go_alone) (q := PySem.W.view (PySem.W.OpenLaw.row PySem.Challenge.rw_threeshelves_k15_whole_files_go_alone).prog [28]) (H := hk) (ob := ob) (M := 2000) (loose := names) (d := HandSHeadRun.topDef (PySem.W.OpenLaw.row PySem.Challenge.rw_threeshelves_k15_whole_files_go_alone).prog 28) (kwd := []) ob_eq
    (by kernel_rfl) (fun s => by kernel_rfl) run_ok (by kernel_rfl) (by kernel_rfl) (by kernel_rfl) (by rfl) (by first | assumption | decide +kernel) (by decide +kernel) ⟨rfl, rfl, rfl, rfl, rfl, by decide +kernel⟩ ?hw ?hc
  case hw => w_witness2
  case hc =>
    refine L2.walk_ofE (l := PySem.Challenge.rw_threeshelves_k15_whole_files_go_alone) (n := 63) (k := 90) (x := "script") (CX := L2.CX0) rfl (by decide) (by kernel_rfl) ⟨rfl, by decide, by decide⟩ ?F (fun _ _ _ _ z => z)
    intro w mg fa h Y G hmg0
    obtain ⟨K, KX, c0⟩ := Y
    have c := c0.d
    have hmg : mg ("law" : PySem.Str) = some (.ref fa) := by
      have e : (HandSHeadRun.topDef (PySem.W.OpenLaw.row PySem.Challenge.rw_threeshelves_k15_whole_files_go_alone).prog 28).name = ("law" : PySem.Str) := by kernel_rfl
      rw [← e]
      exact hmg0
    have e0 := hmg.symm.trans (He.glo_ok KX G (c.fact 23 rfl))
    cases e0
    have F := facts_ok (w := w) c0 KX G
    obtain ⟨fd, fD⟩ := c.def_ 23 rfl
    have b := FunD.bindsA (ps := ["script"]) fD fun _ _ _ _ _ _ us hl => match us, hl with | [_], _ => rfl
    refine ⟨K, fd, spD w K (faOf K tab) (callF gc0 (tbOf tab) 30 4), KX, fun s v => b s [v] rfl, fun H a ns hn _ hS => ?_, fun base _ _ => ?_⟩
    · obtain ⟨S', h⟩ := hl ns hn
      exact law_sp h hS
    · exact fn_ok F (tbl_ok F 29) (e := ⟨"law", top 28, n_law, 4, d_law⟩) rfl rfl fD
end L_k15

set_option Elab.async false
set_option linter.all false
set_option maxRecDepth 100000
set_option maxHeartbeats 1000000
/-! P1: typed values, as plain ones; answers of defs. -/
namespace TZ
open PySem

/-! ### contents, places, files, projects -/
abbrev Cn := Option Int
structure Pl where
  here : List Cn
  there : List Cn
  stage : Cn
  work : Cn
  deriving DecidableEq
def lst (l : List Cn) : Cn := l.getLast?.join
abbrev Fi := Str × Pl
structure Pr where
  nh : Nat
  nt : Nat
  fs : List Fi
  deriving DecidableEq
inductive Cut | soft | mixed | hard
  deriving DecidableEq
inductive Cmd where
  | write (f : Str) (v : Cn) | add (f : Str) | unstage (f : Str) | restore (f : Str) | commit | cut (c : Cut) (k : Nat) | switch
  deriving DecidableEq
def encC : Cn → W
  | none => .non
  | some i => .int i
def encL (l : List Cn) : W := .tup (l.map encC)
def encPl (p : Pl) : W := .tup [encL p.here, encL p.there, encC p.stage, encC p.work]
def encF (f : Fi) : W := .tup [.str f.1, encL f.2.here, encL f.2.there, encC f.2.stage, encC f.2.work]
def encPr (p : Pr) : W := .tup [.int p.nh, .int p.nt, .tup (p.fs.map encF)]
def Cut.str : Cut → Str
  | .soft => "soft"
  | .mixed => "mixed"
  | .hard => "hard"
def encCmd : Cmd → W
  | .write f v => .tup [.str "write", .str f, encC v]
  | .add f => .tup [.str "add", .str f]
  | .unstage f => .tup [.str "unstage", .str f]
  | .restore f => .tup [.str "restore", .str f]
  | .commit => .tup [.str "commit"]
  | .cut c k => .tup [.str c.str, .int k]
  | .switch => .tup [.str "switch"]

/-! ### they mean no place -/
@[simp] theorem unders_map {α : Type} (f : α → W) (n : Nat) : ∀ l : List α, (∀ a ∈ l, (f a).under n = true) → unders n (l.map f) = true
  | [], _ => rfl
  | a :: l, h => by
    simp only [List.map_cons, unders, Bool.and_eq_true]
    exact ⟨h a List.mem_cons_self, unders_map f n l fun b hb => h b (List.mem_cons_of_mem _ hb)⟩
@[simp] theorem under_C (c : Cn) (n : Nat) : (encC c).under n = true := by cases c <;> rfl
@[simp] theorem under_L (l : List Cn) (n : Nat) : (encL l).under n = true := unders_map encC n l fun a _ => under_C a n
@[simp] theorem under_Pl (p : Pl) (n : Nat) : (encPl p).under n = true := by simp [encPl, W.under, unders]
@[simp] theorem under_F (f : Fi) (n : Nat) : (encF f).under n = true := by simp [encF, W.under, unders]
@[simp] theorem under_Pr (p : Pr) (n : Nat) : (encPr p).under n = true := by
  simp only [encPr, W.under, unders, Bool.true_and, Bool.and_true]
  exact unders_map encF n p.fs fun a _ => under_F a n
@[simp] theorem under_Cmd (c : Cmd) (n : Nat) : (encCmd c).under n = true := by cases c <;> simp [encCmd, W.under, unders]
mutual
theorem mapR_no (g : Nat → Option W) : ∀ a : W, a.under 0 = true → a.mapR g = some a
  | .non, h => by simp only [W.mapR]
  | .bl b, h => by simp only [W.mapR]
  | .int i, h => by simp only [W.mapR]
  | .str x, h => by simp only [W.mapR]
  | .fn f, h => by simp only [W.mapR]
  | .ref r, h => by simp [W.under] at h
  | .tup ws, h => by simp only [W.mapR, mapRs_no g ws (by simpa [W.under] using h), Option.map_some]
  | .lst ws, h => by simp only [W.mapR, mapRs_no g ws (by simpa [W.under] using h), Option.map_some]
  | .dct ks us, h => by
    simp only [W.under, Bool.and_eq_true] at h
    simp only [W.mapR, mapRs_no g ks h.1, mapRs_no g us h.2]
theorem mapRs_no (g : Nat → Option W) : ∀ as : List W, unders 0 as = true → mapRs g as = some as
  | [], h => by simp only [mapRs]
  | a :: as, h => by
    simp only [unders, Bool.and_eq_true] at h
    simp only [mapRs, mapR_no g a h.1, mapRs_no g as h.2]
end
theorem frz_no (n : Nat) (S : Sto) {a : W} (h : a.under 0 = true) : a.frz n S = some a := mapR_no _ a h

/-! ### answers -/
def wf (S : Sto) : Bool := S.all fun o => o.under S.length
/-- with k calls or more: the answer c, whatever the store, which stays -/
def Ans (tb : Nat → Option Def) (k f : Nat) (ws : List W) (c : W) : Prop := ∀ n, k ≤ n → ∀ S, wf S = true → callF gc0 tb n f ws S = some (c, S)
theorem gc0_under : ∀ i, (gc0 i).under 0 = true := by
  intro i
  unfold gc0
  split <;> rfl
theorem ans_of {tb : Nat → Option Def} {k f : Nat} {ws : List W} {c : W} (hw : unders 0 ws = true) (hc : c.under 0 = true) (h : ∀ n, k ≤ n → callF gc0 tb (n + 1) f ws [] = some (c, [])) : Ans tb (k + 1) f ws c := by
  intro n hn S hS
  cases n with
  | zero => omega
  | succ n => exact call_any gc0_under (fun o ho => List.all_eq_true.mp hS o ho) hw hc (h n (by omega))
theorem Ans.mono {tb : Nat → Option Def} {k j f : Nat} {ws : List W} {c : W} (h : Ans tb k f ws c) (hk : k ≤ j) : Ans tb j f ws c := fun n hn => h n (Nat.le_trans hk hn)

/-! ### what the operations do with them -/
section
variable {S : Sto}
theorem bA {α β : Type} (m : M α) (f : α → M β) (S : Sto) : (m >>= f) S = (match m S with | some (a, S') => f a S' | none => none) := rfl
theorem pA {α : Type} (a : α) (S : Sto) : (pure a : M α) S = some (a, S) := rfl
theorem rA1 {α : Type} (a : α) (S : Sto) : M.ret a S = some (a, S) := rfl
theorem nA (o : Ob) (S : Sto) : M.new o S = some (.ref S.length, S ++ [o]) := rfl
theorem fits_ok {n : Nat} (h : n ≤ lineN) (S : Sto) : M.fits n S = some ((), S) := by
  show (if decide (n ≤ lineN) = true then _ else _) = _
  rw [if_pos (decide_eq_true h)]
theorem flat_C (c : Cn) (n : Nat) : (encC c).flat n = true := by cases c <;> cases n <;> rfl
theorem data_C (c : Cn) (S : Sto) : asData S (encC c) = some (encC c) := by
  unfold asData
  rw [frz_no 0 S (under_C c 0)]
  simp [flat_C]
theorem eqv_C (a b : Cn) : W.eqv (encC a) (encC b) = decide (a = b) := by
  cases a <;> cases b <;> simp [encC, W.eqv, W.py, PyData.eqv]
  rw [Bool.eq_iff_iff]; simp
@[simp] theorem wEq_C (a b : Cn) (S : Sto) : wEq (encC a) (encC b) S = some (decide (a = b), S) := by
  unfold wEq
  rw [data_C, data_C]
  simp [eqv_C]
theorem atOf_last {α : Type} {l : List α} (h : l ≠ []) : atOf l (-1) = l.getLast? := by
  have hl : 0 < l.length := List.length_pos_iff.mpr h
  unfold atOf ixOf
  rw [if_neg (by omega), if_pos (by omega)]
  have e : (-1 + (l.length : Int)).toNat = l.length - 1 := by omega
  simp only [e]
  rw [List.getLast?_eq_getElem?]
theorem wIx_last {l : List Cn} (h : l ≠ []) (S : Sto) : wIx (encL l) (.int (-1)) S = some (encC (lst l), S) := by
  simp only [wIx, encL, dictOf, seqOf]
  rw [atOf_last (by simpa using h)]
  rw [List.getLast?_map]
  unfold lst
  cases e : l.getLast? with
  | none => rw [List.getLast?_eq_none_iff] at e; exact absurd e h
  | some x => rfl
end
end TZ

set_option Elab.async false
set_option linter.all false
set_option maxRecDepth 100000
set_option maxHeartbeats 1000000
/-! P2: what a body computes, step by step, as rules for simp. -/
namespace TZ
open PySem

def ob {α β : Type} (m : Option (α × Sto)) (f : α → Sto → Option β) : Option β := match m with
  | some (a, S) => f a S
  | none => none
@[simp] theorem ob_some {α β : Type} (a : α) (S : Sto) (f : α → Sto → Option β) : ob (some (a, S)) f = f a S := rfl
@[simp] theorem ob_ite {α β : Type} (c : Prop) [Decidable c] (x y : Option (α × Sto)) (f : α → Sto → Option β) : ob (if c then x else y) f = if c then ob x f else ob y f := by split <;> rfl
theorem ob_congr {α β : Type} {m : Option (α × Sto)} {f g : α → Sto → Option β} (h : ∀ a S, f a S = g a S) : ob m f = ob m g := by
  cases m with
  | none => rfl
  | some p => exact h p.1 p.2
def sb (m : Option (Fl × Rho × Sto)) (f : Rho → Sto → Option (Fl × Rho × Sto)) : Option (Fl × Rho × Sto) := match m with
  | some (.nx, ρ, S) => f ρ S
  | r => r
@[simp] theorem sb_nx (ρ : Rho) (S : Sto) (f : Rho → Sto → Option (Fl × Rho × Sto)) : sb (some (.nx, ρ, S)) f = f ρ S := rfl
@[simp] theorem sb_ret (w : W) (ρ : Rho) (S : Sto) (f : Rho → Sto → Option (Fl × Rho × Sto)) : sb (some (.ret w, ρ, S)) f = some (.ret w, ρ, S) := rfl
@[simp] theorem sb_brk (ρ : Rho) (S : Sto) (f : Rho → Sto → Option (Fl × Rho × Sto)) : sb (some (.brk, ρ, S)) f = some (.brk, ρ, S) := rfl
@[simp] theorem sb_cont (ρ : Rho) (S : Sto) (f : Rho → Sto → Option (Fl × Rho × Sto)) : sb (some (.cont, ρ, S)) f = some (.cont, ρ, S) := rfl
@[simp] theorem sb_ite (c : Prop) [Decidable c] (x y : Option (Fl × Rho × Sto)) (f : Rho → Sto → Option (Fl × Rho × Sto)) : sb (if c then x else y) f = if c then sb x f else sb y f := by split <;> rfl
def fin (keep : Bool) (n₀ : Nat) (r : Option (Fl × Rho × Sto)) : Option (W × Sto) := match r with
  | some (.ret w, _, S) => finish keep n₀ w S
  | some (.nx, _, S) => finish keep n₀ .non S
  | _ => none
@[simp] theorem fin_ret (keep : Bool) (n₀ : Nat) (w : W) (ρ : Rho) (S : Sto) : fin keep n₀ (some (.ret w, ρ, S)) = finish keep n₀ w S := rfl
@[simp] theorem fin_nx (keep : Bool) (n₀ : Nat) (ρ : Rho) (S : Sto) : fin keep n₀ (some (.nx, ρ, S)) = finish keep n₀ .non S := rfl
@[simp] theorem fin_ite (keep : Bool) (n₀ : Nat) (c : Prop) [Decidable c] (x y : Option (Fl × Rho × Sto)) : fin keep n₀ (if c then x else y) = if c then fin keep n₀ x else fin keep n₀ y := by split <;> rfl

section
variable (cf : Nat → List W → M W)
def V (e : E) (ρ : Rho) (S : Sto) : Option (W × Sto) := (den gc0 cf e).v ρ S
def Vs (e : E) (ρ : Rho) (S : Sto) : Option (List W × Sto) := (den gc0 cf e).a ρ S
def Vd (e : E) (ρ : Rho) (p : List W × List W) (S : Sto) : Option ((List W × List W) × Sto) := (den gc0 cf e).d ρ p S
def Vi (e : E) (ρ : Rho) (S : Sto) : Option ((List W × List (Nat × Ob)) × Sto) := (den gc0 cf e).it ρ S
def Bo (e : E) (ρ : Rho) (S : Sto) : Option (Bool × Sto) := truth ((den gc0 cf e).v ρ) S
def R (c : C) (ρ : Rho) (S : Sto) : Option (Fl × Rho × Sto) := run gc0 cf c ρ S
def tbl : W → Sto → Option (Bool × Sto)
  | .bl b, S => some (b, S)
  | _, _ => none
@[simp] theorem tbl_bl (b : Bool) (S : Sto) : tbl (.bl b) S = some (b, S) := rfl
variable (ρ : Rho) (S : Sto)
theorem Bo_eq (e : E) : Bo cf e ρ S = ob (V cf e ρ S) tbl := by
  unfold Bo V truth ob
  cases h : (den gc0 cf e).v ρ S with
  | none => rfl
  | some p => obtain ⟨w, S'⟩ := p; cases w <;> rfl
theorem ob_bind {α β : Type} (m : M α) (f : α → M β) : (m >>= f) S = ob (m S) f := by
  show (match m S with | some (a, S') => f a S' | none => none) = _
  unfold ob
  cases m S <;> rfl
@[simp] theorem V_var (i : Nat) : V cf (.var i) ρ S = rhoAt i ρ S := rfl
@[simp] theorem V_non : V cf .non ρ S = some (.non, S) := rfl
@[simp] theorem V_bl (b : Bool) : V cf (.bl b) ρ S = some (.bl b, S) := rfl
@[simp] theorem V_int (i : Int) : V cf (.int i) ρ S = some (.int i, S) := rfl
@[simp] theorem V_str (x : Str) : V cf (.str x) ρ S = some (.str x, S) := rfl
@[simp] theorem V_gcon (g : Nat) : V cf (.gcon g) ρ S = some (gc0 g, S) := rfl
@[simp] theorem V_gfn (f : Nat) : V cf (.gfn f) ρ S = some (.fn f, S) := rfl
@[simp] theorem Vs_nil : Vs cf .nil ρ S = some ([], S) := rfl
@[simp] theorem Vs_cons (e es : E) : Vs cf (.cons e es) ρ S = ob (V cf e ρ S) fun w S1 => ob (Vs cf es ρ S1) fun ws S2 => some (w :: ws, S2) := by
  show (_ >>= _ : M (List W)) S = _
  rw [ob_bind]; apply ob_congr; intro w S1
  rw [ob_bind]; try rfl
@[simp] theorem Vs_star (e es : E) : Vs cf (.star e es) ρ S = ob (V cf e ρ S) fun w S1 => ob (itemsOf w S1) fun us S2 => ob (Vs cf es ρ S2) fun ws S3 => some (us ++ ws, S3) := by
  show (_ >>= _ : M (List W)) S = _
  rw [ob_bind]; apply ob_congr; intro w S1
  rw [ob_bind]; apply ob_congr; intro us S2
  rw [ob_bind]; try rfl
def fitsO (n : Nat) {α : Type} (x : Option α) : Option α := if n ≤ lineN then x else none
theorem fits_ob {β : Type} (n : Nat) (f : Unit → Sto → Option β) : ob (M.fits n S) f = fitsO n (f () S) := by
  unfold fitsO
  show ob (if decide (n ≤ lineN) = true then _ else _) _ = _
  by_cases h : n ≤ lineN <;> simp [h, ob]
@[simp] theorem fitsO_ok {α : Type} {n : Nat} (h : n ≤ 16777216) (x : Option α) : fitsO n x = x := if_pos h
@[simp] theorem V_tup (es : E) : V cf (.tup es) ρ S = ob (Vs cf es ρ S) fun ws S1 => fitsO ws.length (some (.tup ws, S1)) := by
  show (_ >>= _ : M W) S = _
  rw [ob_bind]; apply ob_congr; intro ws S1
  rw [ob_bind, fits_ob]; try rfl
@[simp] theorem V_lst (es : E) : V cf (.lst es) ρ S = ob (Vs cf es ρ S) fun ws S1 => fitsO ws.length (some (.ref S1.length, S1 ++ [.lst ws])) := by
  show (_ >>= _ : M W) S = _
  rw [ob_bind]; apply ob_congr; intro ws S1
  rw [ob_bind, fits_ob]; try rfl
@[simp] theorem Vd_nil (p : List W × List W) : Vd cf .dnil ρ p S = some (p, S) := rfl
def grdO (b : Bool) {α : Type} (x : Option α) : Option α := if b = true then x else none
@[simp] theorem grdO_true {α : Type} (x : Option α) : grdO true x = x := rfl
theorem grd_ob {β : Type} (b : Bool) (f : Unit → Sto → Option β) : ob (M.grd b S) f = grdO b (f () S) := by
  unfold grdO
  show ob (if b = true then _ else _) _ = _
  cases b <;> rfl
@[simp] theorem Vd_pair (k v ds : E) (p : List W × List W) : Vd cf (.dpair k v ds) ρ p S = ob (V cf k ρ S) fun x S1 => ob (V cf v ρ S1) fun y S2 => grdO (keyFor p.1 x) (Vd cf ds ρ (dPut p.1 p.2 x y) S2) := by
  show (_ >>= _ : M (List W × List W)) S = _
  rw [ob_bind]; apply ob_congr; intro x S1
  rw [ob_bind]; apply ob_congr; intro y S2
  rw [ob_bind, grd_ob]; try rfl
@[simp] theorem Vd_star (e ds : E) (p : List W × List W) : Vd cf (.dstar e ds) ρ p S = ob (V cf e ρ S) fun x S1 => ob (pairsOf x S1) fun q S2 => grdO ((q.1.all fun k => keyFor p.1 k && keyFor q.1 k) && mergeOk p.1 q.1) (Vd cf ds ρ (dMerge p.1 p.2 q.1 q.2) S2) := by
  show (_ >>= _ : M (List W × List W)) S = _
  rw [ob_bind]; apply ob_congr; intro x S1
  rw [ob_bind]; apply ob_congr; intro y S2
  rw [ob_bind, grd_ob]; try rfl
@[simp] theorem V_dct (ds : E) : V cf (.dct ds) ρ S = ob (Vd cf ds ρ ([], []) S) fun p S1 => fitsO p.1.length (some (.ref S1.length, S1 ++ [.dct p.1 p.2])) := by
  show (_ >>= _ : M W) S = _
  rw [ob_bind]; apply ob_congr; intro ws S1
  rw [ob_bind, fits_ob]; try rfl
@[simp] theorem V_and (a b : E) : V cf (.and a b) ρ S = ob (Bo cf a ρ S) fun c S1 => if c = true then V cf b ρ S1 else some (.bl false, S1) := by
  show (_ >>= _ : M W) S = _
  rw [ob_bind]; apply ob_congr; intro c S1; cases c <;> rfl
@[simp] theorem V_or (a b : E) : V cf (.or a b) ρ S = ob (Bo cf a ρ S) fun c S1 => if c = true then some (.bl true, S1) else V cf b ρ S1 := by
  show (_ >>= _ : M W) S = _
  rw [ob_bind]; apply ob_congr; intro c S1; cases c <;> rfl
@[simp] theorem V_not (a : E) : V cf (.not a) ρ S = ob (Bo cf a ρ S) fun c S1 => some (.bl (!c), S1) := by
  show (_ >>= _ : M W) S = _
  rw [ob_bind]; try rfl
@[simp] theorem V_ifx (c a b : E) : V cf (.ifx c a b) ρ S = ob (Bo cf c ρ S) fun k S1 => if k = true then V cf a ρ S1 else V cf b ρ S1 := by
  show (_ >>= _ : M W) S = _
  rw [ob_bind]; apply ob_congr; intro c S1; cases c <;> rfl
@[simp] theorem V_cmp (o : Cop) (a b : E) : V cf (.cmp o a b) ρ S = ob (V cf a ρ S) fun x S1 => ob (V cf b ρ S1) fun y S2 => ob (wCmp o x y S2) fun c S3 => some (.bl c, S3) := by
  show (_ >>= _ : M W) S = _
  rw [ob_bind]; apply ob_congr; intro x S1
  rw [ob_bind]; apply ob_congr; intro y S2
  rw [ob_bind]; try rfl
@[simp] theorem V_chain (o p : Cop) (a b c : E) : V cf (.chain o p a b c) ρ S = ob (V cf a ρ S) fun x S1 => ob (V cf b ρ S1) fun y S2 => ob (wCmp o x y S2) fun c1 S3 => if c1 = true then (ob (V cf c ρ S3) fun z S4 => ob (wCmp p y z S4) fun c2 S5 => some (.bl c2, S5)) else some (.bl false, S3) := by
  show (_ >>= _ : M W) S = _
  rw [ob_bind]; apply ob_congr; intro x S1
  rw [ob_bind]; apply ob_congr; intro y S2
  rw [ob_bind]; apply ob_congr; intro c1 S3
  cases c1
  · rfl
  · show (_ >>= _ : M W) S3 = _
    rw [ob_bind]; apply ob_congr; intro z S4
    rw [ob_bind]; try rfl
@[simp] theorem V_isn (a : E) : V cf (.isn a) ρ S = ob (V cf a ρ S) fun x S1 => some (.bl (decide (x = .non)), S1) := by
  show (_ >>= _ : M W) S = _
  rw [ob_bind]; try rfl
@[simp] theorem V_notn (a : E) : V cf (.notn a) ρ S = ob (V cf a ρ S) fun x S1 => some (.bl (!decide (x = .non)), S1) := by
  show (_ >>= _ : M W) S = _
  rw [ob_bind]; try rfl
@[simp] theorem V_isb (a : E) (b : Bool) : V cf (.isb a b) ρ S = ob (V cf a ρ S) fun x S1 => wIsb x b S1 := by
  show (_ >>= _ : M W) S = _
  rw [ob_bind]; try rfl
@[simp] theorem V_bin (o : Bop) (a b : E) : V cf (.bin o a b) ρ S = ob (V cf a ρ S) fun x S1 => ob (V cf b ρ S1) fun y S2 => wBin o x y S2 := by
  show (_ >>= _ : M W) S = _
  rw [ob_bind]; apply ob_congr; intro x S1
  rw [ob_bind]; try rfl
@[simp] theorem V_ix (a b : E) : V cf (.ix a b) ρ S = ob (V cf a ρ S) fun x S1 => ob (V cf b ρ S1) fun y S2 => wIx x y S2 := by
  show (_ >>= _ : M W) S = _
  rw [ob_bind]; apply ob_congr; intro x S1
  rw [ob_bind]; try rfl
@[simp] theorem V_slc (a lo hi : E) : V cf (.slc a lo hi) ρ S = ob (V cf a ρ S) fun x S1 => ob (V cf lo ρ S1) fun l S2 => ob (V cf hi ρ S2) fun h S3 => wSlc x l h S3 := by
  show (_ >>= _ : M W) S = _
  rw [ob_bind]; apply ob_congr; intro x S1
  rw [ob_bind]; apply ob_congr; intro x S2
  rw [ob_bind]; try rfl
@[simp] theorem V_rev (a : E) : V cf (.rev a) ρ S = ob (V cf a ρ S) fun x S1 => wRev x S1 := by
  show (_ >>= _ : M W) S = _
  rw [ob_bind]; try rfl
@[simp] theorem V_call (f : Nat) (es : E) : V cf (.call f es) ρ S = ob (Vs cf es ρ S) fun ws S1 => cf f ws S1 := by
  show (_ >>= _ : M W) S = _
  rw [ob_bind]; try rfl
@[simp] theorem V_callv (i : Nat) (es : E) : V cf (.callv i es) ρ S = ob (rhoAt i ρ S) fun x S1 => ob (Vs cf es ρ S1) fun ws S2 => wCallV cf x ws S2 := by
  show (_ >>= _ : M W) S = _
  rw [ob_bind]; apply ob_congr; intro x S1
  rw [ob_bind]; try rfl
@[simp] theorem V_blt (b : Blt) (es : E) : V cf (.blt b es) ρ S = ob (Vs cf es ρ S) fun ws S1 => wBlt b ws S1 := by
  show (_ >>= _ : M W) S = _
  rw [ob_bind]; try rfl
@[simp] theorem V_skey (a : E) (f : Nat) : V cf (.skey a f) ρ S = ob (V cf a ρ S) fun x S1 => wSortKey cf f x S1 := by
  show (_ >>= _ : M W) S = _
  rw [ob_bind]; try rfl
@[simp] theorem V_mth (m : Mth) (a es : E) : V cf (.mth m a es) ρ S = ob (V cf a ρ S) fun x S1 => ob (wRecv m x S1) fun _ S2 => ob (Vs cf es ρ S2) fun ws S3 => wMth m x ws S3 := by
  show (_ >>= _ : M W) S = _
  rw [ob_bind]; apply ob_congr; intro x S1
  rw [ob_bind]; apply ob_congr; intro u S2
  rw [ob_bind]; try rfl
@[simp] theorem V_isi (k : Kinds) (a : E) : V cf (.isi k a) ρ S = ob (V cf a ρ S) fun x S1 => ob (wIsi k x S1) fun b S2 => some (.bl b, S2) := by
  show (_ >>= _ : M W) S = _
  rw [ob_bind]; apply ob_congr; intro x S1
  rw [ob_bind]; try rfl
/-- a comprehension's turn -/
def tn (t : P) (vs : List Nat) (ρ : Rho) (c e : E) (x : W) (S : Sto) : Option (List W × Sto) := match P.put t x (wipeR ρ vs) with
  | some ρ' => ob (Bo cf c ρ' S) fun b S1 => if b = true then (ob (V cf e ρ' S1) fun w S2 => some ([w], S2)) else some ([], S1)
  | none => none
theorem tn_eq (t : P) (vs : List Nat) (ρ : Rho) (c e : E) : turnOf t vs ρ (den gc0 cf c) (den gc0 cf e) = tn cf t vs ρ c e := by
  funext x S
  unfold turnOf tn
  cases P.put t x (wipeR ρ vs) with
  | none => rfl
  | some ρ' =>
    simp only
    unfold ob Bo V
    cases h : truth ((den gc0 cf c).v ρ') S with
    | none => rfl
    | some p =>
      obtain ⟨b, S1⟩ := p
      cases b
      · rfl
      · simp only [if_true]
        cases (den gc0 cf e).v ρ' S1 <;> rfl
@[simp] theorem V_lc (vs : List Nat) (t : P) (it c e : E) : V cf (.lc vs t it c e) ρ S = ob (Vi cf it ρ S) fun p S1 => ob (compL p.2 (tn cf t vs ρ c e) p.1 S1) fun ws S2 => some (.lst ws, S2) := by
  rw [← tn_eq]
  show (_ >>= _ : M W) S = _
  rw [ob_bind]; apply ob_congr; intro p S1
  rw [ob_bind]; try rfl
/-- .. of a comprehension in two -/
def tn2 (t : P) (vs vs1 : List Nat) (ρ : Rho) (c : E) (t1 : P) (it1 c1 e : E) (x : W) (S : Sto) : Option (List W × Sto) := match P.put t x (wipeR ρ vs) with
  | some ρ' => ob (Bo cf c ρ' S) fun b S1 => if b = true then (ob (Vi cf it1 ρ' S1) fun p S2 => compL p.2 (tn cf t1 vs1 ρ' c1 e) p.1 S2) else some ([], S1)
  | none => none
theorem tn2_eq (t : P) (vs vs1 : List Nat) (ρ : Rho) (c : E) (t1 : P) (it1 c1 e : E) : turn2 t vs vs1 ρ (den gc0 cf c) t1 (den gc0 cf it1) (den gc0 cf c1) (den gc0 cf e) = tn2 cf t vs vs1 ρ c t1 it1 c1 e := by
  funext x S
  unfold turn2 tn2
  cases P.put t x (wipeR ρ vs) with
  | none => rfl
  | some ρ' =>
    simp only
    unfold ob Bo Vi
    cases h : truth ((den gc0 cf c).v ρ') S with
    | none => rfl
    | some p =>
      obtain ⟨b, S1⟩ := p
      cases b
      · rfl
      · simp only [if_true]
        rw [tn_eq]
        cases (den gc0 cf it1).it ρ' S1 <;> rfl
@[simp] theorem V_lc2 (vs vs1 : List Nat) (t : P) (it c : E) (t1 : P) (it1 c1 e : E) : V cf (.lc2 vs vs1 t it c t1 it1 c1 e) ρ S = ob (Vi cf it ρ S) fun p S1 => ob (compL p.2 (tn2 cf t vs vs1 ρ c t1 it1 c1 e) p.1 S1) fun ws S2 => fitsO ws.length (some (.lst ws, S2)) := by
  rw [← tn2_eq]
  show (_ >>= _ : M W) S = _
  rw [ob_bind]; apply ob_congr; intro p S1
  rw [ob_bind]; apply ob_congr; intro ws S2
  rw [ob_bind, fits_ob]; try rfl
def tnd (t : P) (vs : List Nat) (ρ : Rho) (c k v : E) (x : W) (S : Sto) : Option (Option (W × W) × Sto) := match P.put t x (wipeR ρ vs) with
  | some ρ' => ob (Bo cf c ρ' S) fun b S1 => if b = true then (ob (V cf k ρ' S1) fun kw S2 => ob (V cf v ρ' S2) fun w S3 => some (some (kw, w), S3)) else some (none, S1)
  | none => none
theorem tnd_eq (t : P) (vs : List Nat) (ρ : Rho) (c k v : E) : turnD t vs ρ (den gc0 cf c) (den gc0 cf k) (den gc0 cf v) = tnd cf t vs ρ c k v := by
  funext x S
  unfold turnD tnd
  cases P.put t x (wipeR ρ vs) with
  | none => rfl
  | some ρ' =>
    simp only
    unfold ob Bo V
    cases h : truth ((den gc0 cf c).v ρ') S with
    | none => rfl
    | some p =>
      obtain ⟨b, S1⟩ := p
      cases b
      · rfl
      · simp only [if_true]
        cases h2 : (den gc0 cf k).v ρ' S1 with
        | none => rfl
        | some q =>
          obtain ⟨kw, S2⟩ := q
          simp only
          cases (den gc0 cf v).v ρ' S2 <;> rfl
@[simp] theorem V_dc (vs : List Nat) (t : P) (it c k v : E) : V cf (.dc vs t it c k v) ρ S = ob (Vi cf it ρ S) fun p S1 => ob (dcL p.2 (tnd cf t vs ρ c k v) p.1 ([], []) S1) fun q S2 => some (.ref S2.length, S2 ++ [.dct q.1 q.2]) := by
  rw [← tnd_eq]
  show (_ >>= _ : M W) S = _
  rw [ob_bind]; apply ob_congr; intro p S1
  rw [ob_bind]; try rfl
@[simp] theorem Vi_iter (a : E) : Vi cf (.iter a) ρ S = ob (V cf a ρ S) fun x S1 => wIter x S1 := by
  show (_ >>= _ : M (List W × List (Nat × Ob))) S = _
  rw [ob_bind]; try rfl
@[simp] theorem Vi_rng1 (a : E) : Vi cf (.rng1 a) ρ S = ob (V cf a ρ S) fun x S1 => wRng1 x S1 := by
  show (_ >>= _ : M (List W × List (Nat × Ob))) S = _
  rw [ob_bind]; try rfl
@[simp] theorem Vi_rng2 (a b : E) : Vi cf (.rng2 a b) ρ S = ob (V cf a ρ S) fun x S1 => ob (V cf b ρ S1) fun y S2 => wRng2 x y S2 := by
  show (_ >>= _ : M (List W × List (Nat × Ob))) S = _
  rw [ob_bind]; apply ob_congr; intro x S1
  rw [ob_bind]; try rfl
@[simp] theorem Vi_enum (a : E) : Vi cf (.enum a) ρ S = ob (V cf a ρ S) fun x S1 => wEnum x S1 := by
  show (_ >>= _ : M (List W × List (Nat × Ob))) S = _
  rw [ob_bind]; try rfl
@[simp] theorem Vi_zip (a b : E) : Vi cf (.zip a b) ρ S = ob (V cf a ρ S) fun x S1 => ob (V cf b ρ S1) fun y S2 => wZip x y S2 := by
  show (_ >>= _ : M (List W × List (Nat × Ob))) S = _
  rw [ob_bind]; apply ob_congr; intro x S1
  rw [ob_bind]; try rfl
@[simp] theorem Vi_items (a : E) : Vi cf (.items a) ρ S = ob (V cf a ρ S) fun x S1 => itemsD x S1 := by
  show (_ >>= _ : M (List W × List (Nat × Ob))) S = _
  rw [ob_bind]; try rfl
/-! ### statements -/
@[simp] theorem R_skip : R cf .skip ρ S = some (.nx, ρ, S) := rfl
@[simp] theorem R_brk : R cf .brk ρ S = some (.brk, ρ, S) := rfl
@[simp] theorem R_cont : R cf .cont ρ S = some (.cont, ρ, S) := rfl
@[simp] theorem R_seq (a b : C) : R cf (.seq a b) ρ S = sb (R cf a ρ S) fun ρ' S' => R cf b ρ' S' := by
  unfold R sb
  first
    | (rw [run]; done)
    | (rw [run]
       cases run gc0 cf a ρ S with
       | none => rfl
       | some p => obtain ⟨fl, p2⟩ := p; cases fl <;> rfl)
@[simp] theorem R_expr (e : E) : R cf (.expr e) ρ S = ob (V cf e ρ S) fun _ S' => some (.nx, ρ, S') := by
  unfold R ob V
  rw [run]
  cases (den gc0 cf e).v ρ S <;> rfl
def Tp (t : T) (w : W) (ρ : Rho) (S : Sto) : Option (Rho × Sto) := T.put gc0 cf t w ρ S
def Tps (t : T) (ws : List W) (ρ : Rho) (S : Sto) : Option (Rho × Sto) := T.puts gc0 cf t ws ρ S
@[simp] theorem R_asg (t : T) (e : E) : R cf (.asg t e) ρ S = ob (V cf e ρ S) fun w S1 => ob (Tp cf t w ρ S1) fun ρ2 S2 => some (.nx, ρ2, S2) := by
  unfold R ob V Tp
  rw [run]
  cases (den gc0 cf e).v ρ S with
  | none => rfl
  | some p =>
    obtain ⟨w, S1⟩ := p
    simp only
    cases T.put gc0 cf t w ρ S1 <;> rfl
@[simp] theorem Tp_nm (i : Nat) (w : W) : Tp cf (.nm i) w ρ S = some (ρ.set i (some w), S) := by unfold Tp; rw [T.put]
@[simp] theorem Tp_tp (ps : T) (ws : List W) : Tp cf (.tp ps) (.tup ws) ρ S = Tps cf ps ws ρ S := by unfold Tp Tps; rw [T.put]
@[simp] theorem Tps_nil : Tps cf .nil [] ρ S = some (ρ, S) := by unfold Tps; rw [T.puts]
@[simp] theorem Tps_cons (p ps : T) (w : W) (ws : List W) : Tps cf (.cons p ps) (w :: ws) ρ S = ob (Tp cf p w ρ S) fun ρ' S' => Tps cf ps ws ρ' S' := by
  unfold Tps Tp ob
  rw [T.puts]
  cases T.put gc0 cf p w ρ S <;> rfl
@[simp] theorem Tp_sub (o i : E) (w : W) : Tp cf (.sub o i) w ρ S = ob (V cf o ρ S) fun ow S1 => ob (V cf i ρ S1) fun iw S2 => ob (wSet ow iw w S2) fun _ S3 => some (ρ, S3) := by
  unfold Tp ob V
  rw [T.put]
  cases (den gc0 cf o).v ρ S with
  | none => rfl
  | some p =>
    obtain ⟨ow, S1⟩ := p
    simp only
    cases (den gc0 cf i).v ρ S1 with
    | none => rfl
    | some p =>
      obtain ⟨iw, S2⟩ := p
      simp only
      cases wSet ow iw w S2 <;> rfl
@[simp] theorem R_ite (c : E) (a b : C) : R cf (.ite c a b) ρ S = ob (Bo cf c ρ S) fun k S1 => if k = true then R cf a ρ S1 else R cf b ρ S1 := by
  unfold R ob Bo
  rw [run]
  cases truth ((den gc0 cf c).v ρ) S with
  | none => rfl
  | some p => obtain ⟨k, S1⟩ := p; cases k <;> rfl
@[simp] theorem R_ret (e : E) : R cf (.ret e) ρ S = ob (V cf e ρ S) fun w S1 => some (.ret w, ρ, S1) := by
  unfold R ob V
  rw [run]
  cases (den gc0 cf e).v ρ S <;> rfl
@[simp] theorem R_for (t : P) (it : E) (b : C) : R cf (.for_ t it b) ρ S = ob (Vi cf it ρ S) fun p S1 => forL p.2 t (fun ρ S => R cf b ρ S) p.1 ρ S1 := by
  unfold R ob Vi
  rw [run]
  cases (den gc0 cf it).it ρ S <;> rfl
theorem R_whl (c : E) (b : C) : R cf (.whl c b) ρ S = whileL (fun ρ S => Bo cf c ρ S) (fun ρ S => R cf b ρ S) turns ρ S := by
  unfold R Bo
  rw [run]
end
/-- a call -/
theorem callF_R {tb : Nat → Option Def} {n f : Nat} {d : Def} {ws : List W} (hd : tb f = some d) (hr : d.rest = false) (hl : ws.length = d.ps) (S : Sto) : callF gc0 tb (n + 1) f ws S = fin d.keep S.length (R (callF gc0 tb n) d.body (ws.map some ++ List.replicate (d.slots - ws.length) none) S) := by
  rw [callF, hd]
  unfold Def.bind
  simp only [hr, hl, Bool.false_eq_true, if_false, if_true]
  unfold fin R Def.rho
  split <;> simp_all
@[simp] theorem rho0 (w : W) (ρ : Rho) (S : Sto) : rhoAt 0 (some w :: ρ) S = some (w, S) := rfl
@[simp] theorem rhoS (i : Nat) (x : Option W) (ρ : Rho) (S : Sto) : rhoAt (i + 1) (x :: ρ) S = rhoAt i ρ S := rfl
theorem finish_no {n₀ : Nat} {w : W} {S : Sto} (hw : w.under 0 = true) (hS : underAll n₀ (S.take n₀) = true) : finish false n₀ w S = some (w, S.take n₀) := by
  unfold finish
  rw [if_neg Bool.false_ne_true, frz_no _ _ hw]
  simp only
  rw [if_pos ⟨under_le (Nat.zero_le _) w hw, hS⟩]
@[simp] theorem finish_0 {w : W} {S : Sto} (hw : w.under 0 = true) : finish false 0 w S = some (w, []) := by
  rw [finish_no hw (by simp [underAll])]; simp
end TZ

set_option Elab.async false
set_option linter.all false
set_option maxRecDepth 100000
set_option maxHeartbeats 1000000
/-! P3: equality of plain values; the operations as rules for simp. -/
namespace TZ
open PySem
mutual
/-- made of texts, numbers, None and tuples and lists of such -/
def W.nb : W → Bool
  | .non | .int _ | .str _ => true
  | .tup ws | .lst ws => nbs ws
  | _ => false
def nbs : List W → Bool
  | [] => true
  | w :: ws => W.nb w && nbs ws
end
mutual
theorem eqv_nb : ∀ a b : W, a.nb = true → b.nb = true → W.eqv a b = decide (a = b)
  | .bl x, b, h, _ | .fn x, b, h, _ | .ref x, b, h, _ | .dct x _, b, h, _ => by simp [W.nb] at h
  | .non, b, _, h => by cases b <;> simp_all [W.nb, W.eqv, W.py, PyData.eqv]
  | .int i, b, _, h => by
    cases b <;> simp_all [W.nb, W.eqv, W.py, PyData.eqv]
    rw [Bool.eq_iff_iff]; simp
  | .str i, b, _, h => by
    cases b <;> simp_all [W.nb, W.eqv, W.py, PyData.eqv]
    try (rw [Bool.eq_iff_iff]; simp)
  | .tup as, b, ha, h => by
    cases b with
    | tup bs =>
      have e := eqvs_nb as bs (by simpa [W.nb] using ha) (by simpa [W.nb] using h)
      simp only [W.eqv, W.py, PyData.eqv, e, W.tup.injEq]
    | _ => simp_all [W.nb, W.eqv, W.py, PyData.eqv]
  | .lst as, b, ha, h => by
    cases b with
    | lst bs =>
      have e := eqvs_nb as bs (by simpa [W.nb] using ha) (by simpa [W.nb] using h)
      simp only [W.eqv, W.py, PyData.eqv, e, W.lst.injEq]
    | _ => simp_all [W.nb, W.eqv, W.py, PyData.eqv]
theorem eqvs_nb : ∀ as bs : List W, nbs as = true → nbs bs = true → PyData.eqvAll (pys as) (pys bs) = decide (as = bs)
  | [], b, _, h => by cases b <;> simp [pys, PyData.eqvAll]
  | a :: as, b, ha, h => by
    cases b with
    | nil => simp [pys, PyData.eqvAll]
    | cons b bs =>
      simp only [nbs, Bool.and_eq_true] at ha h
      have e1 := eqv_nb a b ha.1 h.1
      unfold W.eqv at e1
      simp only [pys, PyData.eqvAll, e1, eqvs_nb as bs ha.2 h.2, List.cons.injEq, Bool.decide_and]
end
mutual
theorem flat_le : ∀ (a : W) {n m : Nat}, n ≤ m → a.flat n = true → a.flat m = true
  | .non, n, m, _, _ | .bl _, n, m, _, _ | .int _, n, m, _, _ | .str _, n, m, _, _ => by cases m <;> rfl
  | .tup ws, n, m, h, hf => by
    cases n with
    | zero => simp [W.flat] at hf
    | succ n =>
      cases m with
      | zero => omega
      | succ m => simp only [W.flat] at hf ⊢; exact flats_le ws (by omega) hf
  | .lst ws, n, m, h, hf => by
    cases n with
    | zero => simp [W.flat] at hf
    | succ n =>
      cases m with
      | zero => omega
      | succ m => simp only [W.flat] at hf ⊢; exact flats_le ws (by omega) hf
  | .dct _ _, n, m, _, hf | .ref _, n, m, _, hf | .fn _, n, m, _, hf => by cases n <;> simp [W.flat] at hf
theorem flats_le : ∀ (as : List W) {n m : Nat}, n ≤ m → flats n as = true → flats m as = true
  | [], _, _, _, _ => by simp [flats]
  | a :: as, n, m, h, hf => by
    simp only [flats, Bool.and_eq_true] at hf ⊢
    exact ⟨flat_le a h hf.1, flats_le as h hf.2⟩
end
/-- a plain value: no place, no bool, not deep -/
structure Pn (w : W) : Prop where
  u : w.under 0 = true
  b : w.nb = true
  f : w.flat 30 = true
theorem Pn.data {w : W} (h : Pn w) (S : Sto) : asData S w = some w := by
  unfold asData
  rw [frz_no 0 S h.u]
  exact if_pos (flat_le w (by decide) h.f)
theorem wEq_pn {a b : W} (ha : Pn a) (hb : Pn b) (S : Sto) : wEq a b S = some (decide (a = b), S) := by
  unfold wEq
  rw [ha.data, hb.data]
  simp [eqv_nb a b ha.b hb.b]
@[simp] theorem wEq_bl (a b : Bool) (S : Sto) : wEq (.bl a) (.bl b) S = some (decide (a = b), S) := by
  cases a <;> cases b <;> rfl
@[simp] theorem wEq_str (a b : Str) (S : Sto) : wEq (.str a) (.str b) S = some (decide (a = b), S) := by
  rw [wEq_pn ⟨rfl, rfl, rfl⟩ ⟨rfl, rfl, rfl⟩]; simp
@[simp] theorem wEq_int (a b : Int) (S : Sto) : wEq (.int a) (.int b) S = some (decide (a = b), S) := by
  rw [wEq_pn ⟨rfl, rfl, rfl⟩ ⟨rfl, rfl, rfl⟩]; simp
/-! ### subscripts, slices -/
@[simp] theorem wIx_tup (ws : List W) (i : Int) (S : Sto) : wIx (.tup ws) (.int i) S = match atOf ws i with | some w => some (w, S) | none => none := rfl
@[simp] theorem at_0 {α : Type} (a : α) (l : List α) : atOf (a :: l) 0 = some a := by
  unfold atOf ixOf
  simp
@[simp] theorem at_1 {α : Type} (a b : α) (l : List α) : atOf (a :: b :: l) 1 = some b := by
  unfold atOf ixOf
  rw [if_pos (by decide), if_pos (by simp; omega)]; rfl
@[simp] theorem at_2 {α : Type} (a b c : α) (l : List α) : atOf (a :: b :: c :: l) 2 = some c := by
  unfold atOf ixOf
  rw [if_pos (by decide), if_pos (by simp; omega)]; rfl
@[simp] theorem at_3 {α : Type} (a b c d : α) (l : List α) : atOf (a :: b :: c :: d :: l) 3 = some d := by
  unfold atOf ixOf
  rw [if_pos (by decide), if_pos (by simp; omega)]; rfl
@[simp] theorem at_4 {α : Type} (a b c d e : α) (l : List α) : atOf (a :: b :: c :: d :: e :: l) 4 = some e := by
  unfold atOf ixOf
  rw [if_pos (by decide), if_pos (by simp; omega)]; rfl
theorem cut_1 {α : Type} (a : α) (l : List α) : cutOf (a :: l) (some 1) none = l := by
  unfold cutOf plOf
  have : min (Int.toNat 1) (a :: l).length = 1 := by simp
  simp only [if_neg (show ¬ (1 : Int) < 0 by decide), this]
  simp
@[simp] theorem wSlc_1 (w : W) (ws : List W) (S : Sto) : wSlc (.tup (w :: ws)) (.int 1) .non S = some (.tup ws, S) := by
  show some (W.tup (cutOf (w :: ws) (some 1) none), S) = _
  rw [cut_1]
@[simp] theorem atL_last {l : List Cn} (h : l ≠ []) : atOf (l.map encC) (-1) = some (encC (lst l)) := by
  rw [atOf_last (by simpa using h), List.getLast?_map]
  unfold lst
  cases e : l.getLast? with
  | none => rw [List.getLast?_eq_none_iff] at e; exact absurd e h
  | some x => rfl
@[simp] theorem lineN_le {n : Nat} (h : n ≤ 16777216) : (n ≤ lineN) = True := eq_true h
/-! ### comparisons, sums -/
@[simp] theorem wCmp_eq (a b : W) (S : Sto) : wCmp .eq a b S = wEq a b S := rfl
@[simp] theorem wCmp_ne (a b : W) (S : Sto) : wCmp .ne a b S = ob (wEq a b S) fun c S' => some (!c, S') := by
  show (_ >>= _ : M Bool) S = _
  rw [ob_bind]; try rfl
@[simp] theorem wCmp_in (a b : W) (S : Sto) : wCmp .in_ a b S = wIn a b S := rfl
@[simp] theorem wCmp_ni (a b : W) (S : Sto) : wCmp .ni a b S = ob (wIn a b S) fun c S' => some (!c, S') := by
  show (_ >>= _ : M Bool) S = _
  rw [ob_bind]; try rfl
@[simp] theorem wCmp_lt (a b : Int) (S : Sto) : wCmp .lt (.int a) (.int b) S = some (decide (a < b), S) := rfl
@[simp] theorem wCmp_le (a b : Int) (S : Sto) : wCmp .le (.int a) (.int b) S = some (decide (a ≤ b), S) := rfl
@[simp] theorem wCmp_gt (a b : Int) (S : Sto) : wCmp .gt (.int a) (.int b) S = some (decide (a > b), S) := rfl
@[simp] theorem wCmp_ge (a b : Int) (S : Sto) : wCmp .ge (.int a) (.int b) S = some (decide (a ≥ b), S) := rfl
@[simp] theorem wBin_add (a b : Int) (S : Sto) : wBin .add (.int a) (.int b) S = some (.int (a + b), S) := rfl
@[simp] theorem wBin_sub (a b : Int) (S : Sto) : wBin .sub (.int a) (.int b) S = some (.int (a - b), S) := rfl
@[simp] theorem wBin_addt (a b : List W) (S : Sto) : wBin .add (.tup a) (.tup b) S = if a.length + b.length ≤ lineN then some (.tup (a ++ b), S) else none := rfl
@[simp] theorem itemsOf_tup (ws : List W) (S : Sto) : itemsOf (.tup ws) S = some (ws, S) := rfl
@[simp] theorem itemsOf_lst (ws : List W) (S : Sto) : itemsOf (.lst ws) S = some (ws, S) := rfl
@[simp] theorem wIter_tup (ws : List W) (S : Sto) : wIter (.tup ws) S = some ((ws, []), S) := rfl
@[simp] theorem wIter_lst (ws : List W) (S : Sto) : wIter (.lst ws) S = some ((ws, []), S) := rfl
@[simp] theorem len_tup (ws : List W) (S : Sto) : wBlt .len [.tup ws] S = some (.int ws.length, S) := rfl
@[simp] theorem len_lst (ws : List W) (S : Sto) : wBlt .len [.lst ws] S = some (.int ws.length, S) := rfl
@[simp] theorem tuple_tup (ws : List W) (S : Sto) : wBlt .tuple [.tup ws] S = some (.tup ws, S) := rfl
@[simp] theorem tuple_lst (ws : List W) (S : Sto) : wBlt .tuple [.lst ws] S = some (.tup ws, S) := rfl
theorem bls_map (bs : List Bool) : blsOf (bs.map W.bl) = some bs := by
  induction bs with
  | nil => rfl
  | cons b bs ih => simp only [List.map_cons, blsOf, ih]
theorem any_lst (bs : List Bool) (S : Sto) : wBlt .any [.lst (bs.map W.bl)] S = some (.bl (bs.any id), S) := by
  simp only [wBlt, bAny, listOf, Option.bind, bls_map]
theorem all_lst (bs : List Bool) (S : Sto) : wBlt .all [.lst (bs.map W.bl)] S = some (.bl (bs.all id), S) := by
  simp only [wBlt, bAll, listOf, Option.bind, bls_map]
theorem wIn_data {x : W} {ws : List W} (hs : ∀ y, x ≠ .str y ∨ True) (h : Pn x) (hw : Pn (.tup ws)) (S : Sto) : wIn x (.tup ws) S = some (decide (x ∈ ws), S) := by
  have e : wIn x (.tup ws) S = some (anyEqv x ws, S) := by
    unfold wIn
    have d1 := h.data S
    have d2 := hw.data S
    cases x <;> simp [dictOf, d1, d2]
  rw [e]
  congr 2
  have hb : nbs ws = true := by have := hw.b; simpa [W.nb] using this
  clear e hw
  unfold anyEqv
  induction ws with
  | nil => rfl
  | cons w ws ih =>
    simp only [nbs, Bool.and_eq_true] at hb
    rw [List.any_cons, eqv_nb w x hb.1 h.b, ih hb.2]
    rw [Bool.eq_iff_iff]
    simp only [Bool.or_eq_true, decide_eq_true_eq, List.mem_cons]
    exact ⟨fun h => h.elim (fun h => .inl h.symm) .inr, fun h => h.elim (fun h => .inl h.symm) .inr⟩
theorem nbs_strs (l : List Str) : nbs (l.map .str) = true := by
  induction l with
  | nil => rfl
  | cons a l ih => simp only [List.map_cons, nbs, ih, W.nb, Bool.and_true]
theorem flats_strs (l : List Str) (n : Nat) : flats n (l.map .str) = true := by
  induction l with
  | nil => rfl
  | cons a l ih =>
    simp only [List.map_cons, flats, ih, Bool.and_true]
    cases n <;> rfl
@[simp] theorem under_bl (b : Bool) (n : Nat) : (W.bl b).under n = true := (rfl)
@[simp] theorem under_int (b : Int) (n : Nat) : (W.int b).under n = true := (rfl)
@[simp] theorem under_str (b : Str) (n : Nat) : (W.str b).under n = true := (rfl)
@[simp] theorem under_non (n : Nat) : W.non.under n = true := (rfl)
@[simp] theorem under_tup (ws : List W) (n : Nat) : (W.tup ws).under n = unders n ws := (rfl)
@[simp] theorem under_lst (ws : List W) (n : Nat) : (W.lst ws).under n = unders n ws := (rfl)
@[simp] theorem unders_nil (n : Nat) : unders n [] = true := (rfl)
@[simp] theorem unders_cons (w : W) (ws : List W) (n : Nat) : unders n (w :: ws) = (w.under n && unders n ws) := (rfl)
theorem pn_strs (l : List Str) : Pn (.tup (l.map .str)) := by
  refine ⟨?_, ?_, ?_⟩
  · simp only [W.under]; exact unders_map _ _ _ fun _ _ => rfl
  · exact nbs_strs l
  · exact flats_strs l 29
theorem wIn_strs (x : Str) (l : List Str) (S : Sto) : wIn (.str x) (.tup (l.map .str)) S = some (decide (x ∈ l), S) := by
  rw [wIn_data (fun _ => .inr trivial) ⟨rfl, rfl, rfl⟩ (pn_strs l)]
  simp
@[simp] theorem wIn_8 (x : Str) (S : Sto) : wIn (.str x) (gc0 8) S = some (decide (x ∈ (["add", "unstage", "restore"] : List Str)), S) := wIn_strs x ["add", "unstage", "restore"] S
@[simp] theorem wIn_9 (x : Str) (S : Sto) : wIn (.str x) (gc0 9) S = some (decide (x ∈ (["soft", "mixed", "hard"] : List Str)), S) := wIn_strs x ["soft", "mixed", "hard"] S
@[simp] theorem wIn_10 (x : Str) (S : Sto) : wIn (.str x) (gc0 10) S = some (decide (x ∈ (["commit", "switch"] : List Str)), S) := wIn_strs x ["commit", "switch"] S
@[simp] theorem gc0_11 : gc0 11 = .str "same" := rfl
@[simp] theorem C_non (c : Cn) : (encC c = .non) = (c = none) := by cases c <;> simp [encC]
@[simp] theorem C_inj (a b : Cn) : (encC a = encC b) = (a = b) := by cases a <;> cases b <;> simp [encC]
@[simp] theorem encC_none : encC none = .non := rfl
@[simp] theorem encC_some (i : Int) : encC (some i) = .int i := rfl
@[simp] theorem under_L' (l : List Cn) (n : Nat) : unders n (l.map encC) = true := unders_map encC n l fun a _ => under_C a n
/-! ### refuses, switched, change -/
def Pl.ok (p : Pl) : Prop := p.here ≠ [] ∧ p.there ≠ []
def Pl.refuses (p : Pl) : Bool :=
  if lst p.here = lst p.there ∨ p.stage = lst p.there then false else decide (p.stage ≠ lst p.here ∨ p.work ≠ p.stage)
theorem a_refuses {tb : Nat → Option Def} (hd : tb 40 = some d_refuses) {p : Pl} (hp : p.ok) : Ans tb 1 40 [encPl p] (.bl p.refuses) := by
  refine ans_of (k := 0) (by simp [unders]) rfl fun n _ => ?_
  rw [callF_R hd rfl rfl]
  obtain ⟨h1, h2⟩ := hp
  simp [Bo_eq, List.replicate, encPl, encL, encF, encPr, d_refuses, h1, h2]
  unfold Pl.refuses
  repeat' split
  all_goals simp_all
def Pl.switched (p : Pl) : Pl :=
  if lst p.here = lst p.there ∨ p.stage = lst p.there then ⟨p.there, p.here, p.stage, p.work⟩ else ⟨p.there, p.here, lst p.there, lst p.there⟩
theorem a_switched {tb : Nat → Option Def} (hd : tb 41 = some d_switched) {p : Pl} (hp : p.ok) : Ans tb 1 41 [encPl p] (encPl p.switched) := by
  refine ans_of (k := 0) (by simp [unders]) (by simp) fun n _ => ?_
  rw [callF_R hd rfl rfl]
  obtain ⟨h1, h2⟩ := hp
  simp [Bo_eq, List.replicate, encPl, encL, encF, encPr, d_switched, h1, h2]
  unfold Pl.switched
  repeat' split
  all_goals simp_all [encPl, encL]
def wayS (a b : Cn) : Str := if a = b then "same" else if a = none then "new" else if b = none then "gone" else "changed"
theorem a_change {tb : Nat → Option Def} (hd : tb 50 = some d_change) (a b : Cn) : Ans tb 1 50 [encC a, encC b] (.str (wayS a b)) := by
  refine ans_of (k := 0) (by simp [unders]) rfl fun n _ => ?_
  rw [callF_R hd rfl rfl]
  simp [Bo_eq, List.replicate, encPl, encL, encF, encPr, d_change]
  unfold wayS
  repeat' split
  all_goals simp_all
end TZ

set_option Elab.async false
set_option linter.all false
set_option maxRecDepth 100000
set_option maxHeartbeats 1000000
/-! P4: names sorted, dicts with names, loops. -/
namespace TZ
open PySem
/-! ### texts that the program names -/
@[simp] theorem lit_inj (a b : String) : (Str.ofString a = Str.ofString b) = (a = b) := by
  apply propext
  constructor
  · intro h
    rw [Str.ofString_eq_toList, Str.ofString_eq_toList] at h
    simp only [Str.mk.injEq] at h
    have h := congrArg Array.toList h
    have e : a.toList = b.toList := (List.map_inj_right fun x y e => Char.toNat_inj.mp e).mp h
    exact String.toList_inj.mp e
  · rintro rfl
    rfl
/-! ### names in order -/
def nle (a b : Str) : Bool := decide (a.cps.toList ≤ b.cps.toList)
theorem str_ext {a b : Str} (h : a.cps.toList = b.cps.toList) : a = b := by
  cases a; cases b
  simp only [Str.mk.injEq]
  exact Array.toList_inj.mp h
theorem nle_trans (a b c : Str) (h1 : nle a b = true) (h2 : nle b c = true) : nle a c = true := by
  unfold nle at *
  simp only [decide_eq_true_eq] at *
  exact List.le_trans h1 h2
theorem nle_total (a b : Str) : (nle a b || nle b a) = true := by
  unfold nle
  simp only [Bool.or_eq_true, decide_eq_true_eq]
  exact List.le_total _ _
theorem nle_anti (a b : Str) (h1 : nle a b = true) (h2 : nle b a = true) : a = b := by
  unfold nle at *
  simp only [decide_eq_true_eq] at *
  exact str_ext (List.le_antisymm h1 h2)
theorem wLe2_str (a b : Str) : wLe2 (.str a) (.str b) = nle a b := by
  have e := congrFun (congrFun (PySem.W.dataLe_str (fun x : Str => x)) a) b
  exact e
theorem flats_strs' (l : List Str) : flats 30 (l.map .str) = true := flats_strs l 30
theorem alike_strs (l : List Str) : wAlike (l.map .str) = true := by
  unfold wAlike
  simp [PySem.W.alike, W.py]
theorem sorts_strs (l : List Str) : wSorts (l.map .str) = true := by
  unfold wSorts
  simp
theorem wSort_strs (l : List Str) : wSort (l.map .str) = some ((l.mergeSort nle).map .str) := by
  unfold wSort
  rw [if_pos ⟨flats_strs' l, alike_strs l, sorts_strs l⟩, List.map_mergeSort (s := wLe2)]
  intro a _ b _
  exact (wLe2_str a b).symm
/-- sorted names are the one row in order -/
theorem sort_is {l m : List Str} (hp : l.Perm m) (hm : m.Pairwise fun a b => nle a b = true) : l.mergeSort nle = m :=
  List.Perm.eq_of_pairwise (fun a b _ _ => nle_anti a b) (List.pairwise_mergeSort nle_trans nle_total l) hm ((List.mergeSort_perm l nle).trans hp)

/-! ### a dict with names -/
theorem eqv_str (a b : Str) : W.eqv (.str a) (.str b) = decide (a = b) := by
  rw [eqv_nb _ _ rfl rfl]; simp
theorem leafs (l : List Str) : (l.map W.str).all W.leaf = true := by
  simp [W.leaf]
@[simp] theorem keyFor_strs (l : List Str) (x : Str) : keyFor (l.map .str) (.str x) = true := by
  unfold keyFor
  rw [leafs]; rfl
theorem kIdx_strs (l : List Str) (x : Str) : kIdx (l.map .str) (.str x) = l.findIdx? (fun k => decide (k = x)) := by
  unfold kIdx
  rw [List.findIdx?_map]
  have e : ((fun k => W.eqv k (W.str x)) ∘ W.str) = fun k => decide (k = x) := funext fun k => eqv_str k x
  rw [e]
theorem dPut_new {l : List Str} {us : List W} {x : Str} {v : W} (h : x ∉ l) : dPut (l.map .str) us (.str x) v = ((l ++ [x]).map .str, us ++ [v]) := by
  unfold dPut
  rw [kIdx_strs]
  have e : l.findIdx? (fun k => decide (k = x)) = none := by
    rw [List.findIdx?_eq_none_iff]
    intro y hy
    exact decide_eq_false fun e => h (e ▸ hy)
  rw [e]; simp
/-- .. of typed rows -/
def rowAt {α : Type} : List (Str × α) → Str → Option α
  | [], _ => none
  | r :: rs, x => if r.1 = x then some r.2 else rowAt rs x
theorem dAt_rows {α : Type} (enc : α → W) (rs : List (Str × α)) (x : Str) : dAt (rs.map fun r => .str r.1) (rs.map fun r => enc r.2) (.str x) = (rowAt rs x).map enc := by
  unfold dAt
  have e : (rs.map fun r => W.str r.1) = (rs.map Prod.fst).map W.str := by simp
  rw [e, kIdx_strs]
  induction rs with
  | nil => rfl
  | cons r rs ih =>
    simp only [List.map_cons, List.findIdx?_cons, rowAt]
    by_cases h : r.1 = x
    · simp [h]
    · simp only [h, decide_false, Bool.false_eq_true, if_false]
      cases e2 : List.findIdx? (fun k => decide (k = x)) (rs.map Prod.fst) with
      | none => simpa [e2] using ih (by simp)
      | some i => simpa [e2] using ih (by simp)
theorem rowAt_mem {α : Type} {rs : List (Str × α)} {x : Str} {a : α} (h : rowAt rs x = some a) : (x, a) ∈ rs := by
  induction rs with
  | nil => simp [rowAt] at h
  | cons r rs ih =>
    unfold rowAt at h
    split at h
    · rename_i e
      cases h; cases e
      exact List.mem_cons_self
    · exact List.mem_cons_of_mem _ (ih h)
theorem rowAt_of {α : Type} {rs : List (Str × α)} (hn : (rs.map Prod.fst).Nodup) {x : Str} {a : α} (h : (x, a) ∈ rs) : rowAt rs x = some a := by
  induction rs with
  | nil => cases h
  | cons r rs ih =>
    simp only [List.map_cons, List.nodup_cons] at hn
    unfold rowAt
    rcases List.mem_cons.mp h with rfl | h'
    · simp
    · rw [if_neg, ih hn.2 h']
      intro e
      exact hn.1 (e ▸ List.mem_map.mpr ⟨_, h', rfl⟩)

/-! ### loops -/
theorem stands_nil (S : Sto) : stands S [] = true := rfl
theorem compL_pure {α β : Type} {src : List (Nat × Ob)} {f : W → Sto → Option (List β × Sto)} {S : Sto} (hs : stands S src = true) (enc : α → W) (g : α → List β) : ∀ l : List α, (∀ a ∈ l, f (enc a) S = some (g a, S)) → compL src f (l.map enc) S = some ((l.map g).flatten, S)
  | [], _ => by simp [compL, hs]
  | a :: l, h => by
    simp only [List.map_cons, compL, hs, if_true, h a List.mem_cons_self, compL_pure hs enc g l fun b hb => h b (List.mem_cons_of_mem _ hb), List.flatten_cons]
theorem compL_map {α : Type} {src : List (Nat × Ob)} {f : W → Sto → Option (List W × Sto)} {S : Sto} (hs : stands S src = true) (enc g : α → W) (l : List α) (h : ∀ a ∈ l, f (enc a) S = some ([g a], S)) : compL src f (l.map enc) S = some (l.map g, S) := by
  rw [compL_pure hs enc (fun a => [g a]) l h]
  congr 2
  induction l with
  | nil => rfl
  | cons a l ih => simp only [List.map_cons, List.flatten_cons, ih fun b hb => h b (List.mem_cons_of_mem _ hb)]; rfl
theorem compL_filter {α : Type} {src : List (Nat × Ob)} {f : W → Sto → Option (List W × Sto)} {S : Sto} (hs : stands S src = true) (enc g : α → W) (p : α → Bool) (l : List α) (h : ∀ a ∈ l, f (enc a) S = some (if p a = true then [g a] else [], S)) : compL src f (l.map enc) S = some ((l.filter p).map g, S) := by
  rw [compL_pure hs enc (fun a => if p a = true then [g a] else []) l h]
  congr 2
  clear h
  induction l with
  | nil => rfl
  | cons a l ih =>
    simp only [List.map_cons, List.flatten_cons, ih]
    cases e : p a <;> simp [e]
theorem dcL_rows {β : Type} {src : List (Nat × Ob)} {f : W → Sto → Option (Option (W × W) × Sto)} {S : Sto} (hs : stands S src = true) (enc : Str × β → W) (encV : β → W) : ∀ (l : List (Str × β)) (ks : List Str) (us : List W), (∀ a ∈ l, f (enc a) S = some (some (.str a.1, encV a.2), S)) → (ks ++ l.map Prod.fst).Nodup → dcL src f (l.map enc) (ks.map .str, us) S = some (((ks ++ l.map Prod.fst).map .str, us ++ l.map fun r => encV r.2), S)
  | [], ks, us, _, _ => by simp [dcL, hs]
  | a :: l, ks, us, h, hn => by
    have e : ks ++ (a :: l).map Prod.fst = (ks ++ [a.1]) ++ l.map Prod.fst := by simp
    rw [e] at hn ⊢
    have hx : a.1 ∉ ks := by
      intro hx
      rw [List.append_assoc] at hn
      have := (List.nodup_append.mp hn).2.2 _ hx a.1 (by simp)
      exact this rfl
    simp only [List.map_cons, dcL, hs, if_true, h a List.mem_cons_self, keyFor_strs, dPut_new hx]
    rw [dcL_rows hs enc encV l (ks ++ [a.1]) _ (fun b hb => h b (List.mem_cons_of_mem _ hb)) hn]
    simp
theorem forL_inv {α σ : Type} {src : List (Nat × Ob)} {t : P} {f : Rho → Sto → Option (Fl × Rho × Sto)} (Inv : σ → Rho → Sto → Prop) (enc : α → W) (step : σ → α → σ) (hs : ∀ s ρ S, Inv s ρ S → stands S src = true) : ∀ (l : List α), (∀ s ρ S, ∀ a ∈ l, Inv s ρ S → ∃ ρ', P.put t (enc a) ρ = some ρ' ∧ ∃ ρ2 S2, f ρ' S = some (.nx, ρ2, S2) ∧ Inv (step s a) ρ2 S2) → ∀ s ρ S, Inv s ρ S → ∃ ρ2 S2, forL src t f (l.map enc) ρ S = some (.nx, ρ2, S2) ∧ Inv (l.foldl step s) ρ2 S2
  | [], _, s, ρ, S, hi => ⟨ρ, S, by simp [forL, hs _ _ _ hi], hi⟩
  | a :: l, h, s, ρ, S, hi => by
    obtain ⟨ρ', e1, ρ2, S2, e2, hi2⟩ := h s ρ S a List.mem_cons_self hi
    obtain ⟨ρ3, S3, e3, hi3⟩ := forL_inv Inv enc step hs l (fun s ρ S b hb => h s ρ S b (List.mem_cons_of_mem _ hb)) _ _ _ hi2
    refine ⟨ρ3, S3, ?_, hi3⟩
    simp only [List.map_cons, forL, hs _ _ _ hi, if_true, e1, e2]
    exact e3
/-- a loop whose state is drawn, too: some state of the kind comes out -/
theorem forL_some {α : Type} {src : List (Nat × Ob)} {t : P} {f : Rho → Sto → Option (Fl × Rho × Sto)} (Inv : List α → Rho → Sto → Prop) (enc : α → W) (hs : ∀ s ρ S, Inv s ρ S → stands S src = true) : ∀ (l : List α) (d : List α), (∀ d a ρ S, a ∈ l → Inv d ρ S → ∃ ρ', P.put t (enc a) ρ = some ρ' ∧ ∃ ρ2 S2, f ρ' S = some (.nx, ρ2, S2) ∧ Inv (d ++ [a]) ρ2 S2) → ∀ ρ S, Inv d ρ S → ∃ ρ2 S2, forL src t f (l.map enc) ρ S = some (.nx, ρ2, S2) ∧ Inv (d ++ l) ρ2 S2
  | [], d, _, ρ, S, hi => ⟨ρ, S, by simp [forL, hs _ _ _ hi], by simpa using hi⟩
  | a :: l, d, h, ρ, S, hi => by
    obtain ⟨ρ', e1, ρ2, S2, e2, hi2⟩ := h d a ρ S List.mem_cons_self hi
    obtain ⟨ρ3, S3, e3, hi3⟩ := forL_some Inv enc hs l (d ++ [a]) (fun d b ρ S hb => h d b ρ S (List.mem_cons_of_mem _ hb)) _ _ hi2
    refine ⟨ρ3, S3, ?_, by simpa using hi3⟩
    simp only [List.map_cons, forL, hs _ _ _ hi, if_true, e1, e2]
    exact e3
end TZ

set_option Elab.async false
set_option linter.all false
set_option maxRecDepth 100000
set_option maxHeartbeats 1000000
/-! P5: what the program's defs on places answer. -/
namespace TZ
open PySem
theorem any_map {α : Type} (p : α → Bool) (l : List α) (S : Sto) : wBlt .any [.lst (l.map fun a => .bl (p a))] S = some (.bl (l.any p), S) := by
  have e : (l.map fun a => W.bl (p a)) = (l.map p).map W.bl := by simp
  rw [e, any_lst]
  simp
theorem all_map {α : Type} (p : α → Bool) (l : List α) (S : Sto) : wBlt .all [.lst (l.map fun a => .bl (p a))] S = some (.bl (l.all p), S) := by
  have e : (l.map fun a => W.bl (p a)) = (l.map p).map W.bl := by simp
  rw [e, all_lst]
  simp
def Pl.all (p : Pl) : List Cn := p.here ++ (p.there ++ [p.stage, p.work])
def Pl.empty (p : Pl) : Bool := p.all.all fun c => decide (c = none)
theorem a_is_empty {tb : Nat → Option Def} (hd : tb 32 = some d_is_empty) {p : Pl} (hp : p.all.length ≤ 16777216) : Ans tb 1 32 [encPl p] (.bl p.empty) := by
  refine ans_of (k := 0) (by simp [unders]) rfl fun n _ => ?_
  rw [callF_R hd rfl rfl]
  have e : p.here.map encC ++ (p.there.map encC ++ [encC p.stage, encC p.work]) = p.all.map encC := by simp [Pl.all]
  have hp' : p.here.length + (p.there.length + 2) ≤ 16777216 := by simpa [Pl.all] using hp
  simp [Bo_eq, List.replicate, encPl, encL, encF, encPr, d_is_empty]
  rw [e, fitsO_ok hp']
  simp only [ob_some, wIter_tup]
  rw [compL_map rfl encC (fun c => .bl (decide (c = none)))]
  · simp [all_map, Pl.empty]
  · intro a _
    simp [tn, P.put, wipeR, Bo_eq]
@[simp] theorem unders_append (n : Nat) (a b : List W) : unders n (a ++ b) = (unders n a && unders n b) := by
  induction a with
  | nil => simp
  | cons w a ih => simp [ih, Bool.and_assoc]
/-! ### one file's step -/
def Cmd.file? : Cmd → Option Str
  | .write f _ | .add f | .unstage f | .restore f => some f
  | _ => none
def Pl.own (p : Pl) : Cmd → Pl
  | .write _ v => { p with work := v }
  | .add _ => { p with stage := p.work }
  | .unstage _ => { p with stage := lst p.here }
  | .restore _ => { p with work := p.stage }
  | _ => p
theorem a_own_done {tb : Nat → Option Def} (hd : tb 2 = some d_own_done) {p : Pl} (hp : p.ok) (c : Cmd) (hc : c.file? ≠ none) : Ans tb 1 2 [encPl p, encCmd c] (encPl (p.own c)) := by
  refine ans_of (k := 0) (by simp [unders]) (by simp) fun n _ => ?_
  rw [callF_R hd rfl rfl]
  obtain ⟨h1, h2⟩ := hp
  cases c <;> first | (exact absurd rfl hc) | skip
  all_goals (simp [Bo_eq, List.replicate, encPl, encL, encF, encPr, d_own_done, encCmd, h1, h2, Pl.own])
def Pl.cut (p : Pl) (c : Cut) (k : Nat) : Pl :=
  let line := p.here.take (p.here.length - k)
  ⟨line, p.there, if c = .soft then p.stage else lst line, if c = .hard ∧ (p.stage ≠ none ∨ lst line ≠ none) then lst line else p.work⟩
theorem wSlc_to {ws : List W} {k : Nat} (hk : k ≤ ws.length) (S : Sto) : wSlc (.tup ws) .non (.int ((ws.length : Int) - (k : Int))) S = some (.tup (ws.take (ws.length - k)), S) := by
  show some (W.tup (cutOf ws none (some ((ws.length : Int) - k))), S) = _
  have e : cutOf ws none (some ((ws.length : Int) - k)) = ws.take (ws.length - k) := by
    unfold cutOf plOf
    have : ¬ ((ws.length : Int) - k) < 0 := by omega
    simp only [if_neg this]
    have : min ((ws.length : Int) - k).toNat ws.length = ws.length - k := by omega
    simp [this]
  rw [e]
theorem a_cut {tb : Nat → Option Def} (hd : tb 42 = some d_cut) {p : Pl} (hp : p.ok) (c : Cut) {k : Nat} (hk : k < p.here.length) : Ans tb 1 42 [encPl p, .str c.str, .int k] (encPl (p.cut c k)) := by
  refine ans_of (k := 0) (by simp [unders]) (by simp) fun n _ => ?_
  rw [callF_R hd rfl rfl]
  obtain ⟨h1, h2⟩ := hp
  have e0 : k ≤ (p.here.map encC).length := by simp; omega
  have e1 := fun S => wSlc_to e0 S
  simp only [List.length_map] at e1
  have h3 : p.here.take (p.here.length - k) ≠ [] := by
    intro e
    have := congrArg List.length e
    simp at this
    omega
  have e2 := atL_last h3
  rw [List.map_take] at e2
  simp [Bo_eq, List.replicate, encPl, encL, encF, encPr, d_cut, h1, h2, e1]
  generalize hline : p.here.take (p.here.length - k) = line at h3 e2
  have e3 : (p.here.map encC).take (p.here.length - k) = line.map encC := by rw [← hline, List.map_take]
  rw [e3] at e2 ⊢
  cases c <;> simp [Bo_eq, List.replicate, encPl, encL, encF, encPr, Cut.str, h3, Pl.cut, hline] <;> (repeat' split) <;> simp_all
/-- a command on one file -/
def Pl.step (p : Pl) (name : Str) : Cmd → Pl
  | .write f v => if f = name then p.own (.write f v) else p
  | .add f => if f = name then p.own (.add f) else p
  | .unstage f => if f = name then p.own (.unstage f) else p
  | .restore f => if f = name then p.own (.restore f) else p
  | .commit => { p with here := p.here ++ [p.stage] }
  | .cut c k => p.cut c k
  | .switch => p.switched
theorem a_file_done {tb : Nat → Option Def} (hd : tb 43 = some d_file_done) (h2 : tb 2 = some d_own_done) (h42 : tb 42 = some d_cut) (h41 : tb 41 = some d_switched) {p : Pl} (hp : p.ok) (hl : p.here.length < 16777216) (name : Str) (c : Cmd) (hc : ∀ x k, c = .cut x k → k < p.here.length) : Ans tb 2 43 [encPl p, .str name, encCmd c] (encPl (p.step name c)) := by
  refine ans_of (k := 1) (by simp [unders]) (by simp) fun n hn => ?_
  have hS : wf [] = true := rfl
  rw [callF_R hd rfl rfl]
  cases c with
  | cut x k =>
    have q := a_cut h42 hp x (hc x k rfl) n hn [] hS
    have e : x.str ∈ (["soft", "mixed", "hard"] : List Str) := by cases x <;> decide
    have e1 : x.str ∉ (["add", "unstage", "restore"] : List Str) := by cases x <;> decide
    have e2 : x.str ≠ "write" := by cases x <;> decide
    simp [Bo_eq, List.replicate, d_file_done, encCmd, Pl.step, q, e, e1, e2]
  | switch =>
    have q := a_switched h41 hp n hn [] hS
    simp [Bo_eq, List.replicate, d_file_done, encCmd, Pl.step, q]
  | commit =>
    have hl' : p.here.length + 1 ≤ 16777216 := hl
    simp [Bo_eq, List.replicate, encPl, encL, encF, encPr, d_file_done, encCmd, Pl.step, hl']
  | write f v =>
    have q := a_own_done h2 hp (.write f v) (by simp [Cmd.file?]) n hn [] hS
    by_cases h : f = name <;> simp [encCmd, h] at q <;> simp [Bo_eq, List.replicate, d_file_done, encCmd, Pl.step, q, h, Pl.own]
  | add f =>
    have q := a_own_done h2 hp (.add f) (by simp [Cmd.file?]) n hn [] hS
    by_cases h : f = name <;> simp [encCmd, h] at q <;> simp [Bo_eq, List.replicate, d_file_done, encCmd, Pl.step, q, h, Pl.own]
  | unstage f =>
    have q := a_own_done h2 hp (.unstage f) (by simp [Cmd.file?]) n hn [] hS
    by_cases h : f = name <;> simp [encCmd, h] at q <;> simp [Bo_eq, List.replicate, d_file_done, encCmd, Pl.step, q, h, Pl.own]
  | restore f =>
    have q := a_own_done h2 hp (.restore f) (by simp [Cmd.file?]) n hn [] hS
    by_cases h : f = name <;> simp [encCmd, h] at q <;> simp [Bo_eq, List.replicate, d_file_done, encCmd, Pl.step, q, h, Pl.own]
/-! ### projects -/
def Pr.ok (p : Pr) : Prop := 1 ≤ p.nh ∧ 1 ≤ p.nt ∧ p.nh < 1000 ∧ p.nt < 1000 ∧ (p.fs.map Prod.fst).Pairwise (fun a b => nle a b = true ∧ a ≠ b) ∧ ∀ f ∈ p.fs, f.2.here.length = p.nh ∧ f.2.there.length = p.nt
theorem Pr.ok.pl {p : Pr} (h : p.ok) {f : Fi} (hf : f ∈ p.fs) : f.2.ok := by
  obtain ⟨h1, h2, _, _, _, h3⟩ := h
  have h4 := h3 f hf
  constructor
  · intro e
    rw [e] at h4
    simp at h4; omega
  · intro e
    rw [e] at h4
    simp at h4; omega
def Pr.refuses (p : Pr) : Cmd → Bool
  | .cut _ k => decide (p.nh ≤ k)
  | .switch => p.fs.any fun f => f.2.refuses
  | _ => false
theorem encF_eq (f : Fi) : encF f = .tup (.str f.1 :: [encL f.2.here, encL f.2.there, encC f.2.stage, encC f.2.work]) := rfl
theorem a_is_refused {tb : Nat → Option Def} (hd : tb 44 = some d_is_refused) (h40 : tb 40 = some d_refuses) {p : Pr} (hp : p.ok) (c : Cmd) : Ans tb 2 44 [encPr p, encCmd c] (.bl (p.refuses c)) := by
  refine ans_of (k := 1) (by simp [unders]) rfl fun n hn => ?_
  rw [callF_R hd rfl rfl]
  cases c with
  | switch =>
    simp [Bo_eq, List.replicate, d_is_refused, encCmd, encPr, Pr.refuses]
    rw [compL_map rfl encF (fun f => .bl f.2.refuses)]
    · simp [any_map]
    · intro f hf
      have q := a_refuses h40 (hp.pl hf) n hn [] rfl
      simp [tn, P.put, wipeR, Bo_eq, encF_eq]
      rw [show W.tup [encL f.2.here, encL f.2.there, encC f.2.stage, encC f.2.work] = encPl f.2 from rfl, q]
      rfl
  | cut x k =>
    have e : x.str ∈ (["soft", "mixed", "hard"] : List Str) := by cases x <;> decide
    simp [Bo_eq, List.replicate, d_is_refused, encCmd, encPr, Pr.refuses, e]
  | _ => simp [Bo_eq, List.replicate, d_is_refused, encCmd, encPr, Pr.refuses]
def Pr.counts (p : Pr) : Cmd → Nat × Nat
  | .commit => (p.nh + 1, p.nt)
  | .switch => (p.nt, p.nh)
  | .cut _ k => (p.nh - k, p.nt)
  | _ => (p.nh, p.nt)
theorem a_counts {tb : Nat → Option Def} (hd : tb 45 = some d_counts_after) {p : Pr} (c : Cmd) (hc : ∀ x k, c = .cut x k → k ≤ p.nh) : Ans tb 1 45 [encPr p, encCmd c] (.tup [.int (p.counts c).1, .int (p.counts c).2]) := by
  refine ans_of (k := 0) (by simp [unders]) rfl fun n hn => ?_
  rw [callF_R hd rfl rfl]
  cases c with
  | cut x k =>
    have e : x.str ∈ (["soft", "mixed", "hard"] : List Str) := by cases x <;> decide
    have e1 : x.str ≠ "commit" := by cases x <;> decide
    have e2 : x.str ≠ "switch" := by cases x <;> decide
    have e3 := hc x k rfl
    have e4 : (p.nh : Int) - k = ((p.nh - k : Nat) : Int) := by omega
    simp [Bo_eq, List.replicate, d_counts_after, encCmd, encPr, Pr.counts, e, e1, e2, e4]
  | _ => simp [Bo_eq, List.replicate, d_counts_after, encCmd, encPr, Pr.counts]
end TZ

set_option Elab.async false
set_option linter.all false
set_option maxRecDepth 100000
set_option maxHeartbeats 1000000
/-! P6: done, after, refused. -/
namespace TZ
open PySem
/-! ### rows by name -/
section
variable {α : Type}
def putR : List (Str × α) → Str → α → List (Str × α)
  | [], x, v => [(x, v)]
  | r :: rs, x, v => if r.1 = x then (x, v) :: rs else r :: putR rs x v
theorem putR_names (rs : List (Str × α)) (x : Str) (v : α) : (putR rs x v).map Prod.fst = if x ∈ rs.map Prod.fst then rs.map Prod.fst else rs.map Prod.fst ++ [x] := by
  induction rs with
  | nil => rfl
  | cons r rs ih =>
    unfold putR
    by_cases h : r.1 = x
    · simp [h]
    · rw [if_neg h, List.map_cons, ih]
      have h' : ¬ x = r.1 := fun e => h e.symm
      by_cases h2 : x ∈ rs.map Prod.fst
      · rw [if_pos h2, if_pos (by simp at h2 ⊢; exact .inr h2), List.map_cons]
      · rw [if_neg h2, if_neg (by simp at h2 ⊢; exact ⟨h', h2⟩), List.map_cons]; rfl
theorem rowAt_put (rs : List (Str × α)) (x y : Str) (v : α) : rowAt (putR rs x v) y = if x = y then some v else rowAt rs y := by
  induction rs with
  | nil => rfl
  | cons r rs ih =>
    unfold putR
    by_cases h : r.1 = x
    · rw [if_pos h]
      by_cases h2 : x = y
      · simp [rowAt, h2]
      · simp only [rowAt, h, if_neg h2]
    · rw [if_neg h]
      simp only [rowAt, ih]
      by_cases h2 : r.1 = y
      · have : ¬ x = y := fun e => h (h2.trans e.symm)
        simp [h2, this]
      · simp [h2]
theorem dPut_rows (enc : α → W) (rs : List (Str × α)) (x : Str) (v : α) : dPut (rs.map fun r => .str r.1) (rs.map fun r => enc r.2) (.str x) (enc v) = ((putR rs x v).map (fun r => .str r.1), (putR rs x v).map fun r => enc r.2) := by
  unfold dPut
  have e : (rs.map fun r => W.str r.1) = (rs.map Prod.fst).map W.str := by simp
  have ek : kIdx (rs.map fun r => W.str r.1) (.str x) = (rs.map Prod.fst).findIdx? (fun k => decide (k = x)) := by rw [e, kIdx_strs]
  rw [ek]
  clear ek e
  induction rs with
  | nil => rfl
  | cons r rs ih =>
    simp only [List.map_cons, List.findIdx?_cons]
    unfold putR
    by_cases h : r.1 = x
    · simp [h]
    · simp only [h, decide_false, Bool.false_eq_true, if_false]
      cases e2 : List.findIdx? (fun k => decide (k = x)) (rs.map Prod.fst) with
      | none =>
        simp only [e2] at ih
        simp only [Option.map_none, List.cons_append, List.map_cons, Prod.mk.injEq] at ih ⊢
        exact ⟨by rw [ih.1], by rw [ih.2]⟩
      | some i =>
        simp only [e2] at ih
        simp only [Option.map_some, List.map_cons, List.set_cons_succ, Prod.mk.injEq] at ih ⊢
        exact ⟨by rw [ih.1], by rw [ih.2]⟩
def mergeR (rs qs : List (Str × α)) : List (Str × α) := qs.foldl (fun rs q => putR rs q.1 q.2) rs
theorem dMerge_rows (enc : α → W) (qs rs : List (Str × α)) : dMerge (rs.map fun r => .str r.1) (rs.map fun r => enc r.2) (qs.map fun r => .str r.1) (qs.map fun r => enc r.2) = ((mergeR rs qs).map (fun r => .str r.1), (mergeR rs qs).map fun r => enc r.2) := by
  induction qs generalizing rs with
  | nil => rfl
  | cons q qs ih =>
    simp only [List.map_cons, dMerge, dPut_rows]
    exact ih _
theorem rowAt_merge {qs : List (Str × α)} (hn : (qs.map Prod.fst).Nodup) (rs : List (Str × α)) (y : Str) : rowAt (mergeR rs qs) y = (rowAt qs y).or (rowAt rs y) := by
  induction qs generalizing rs with
  | nil => rfl
  | cons q qs ih =>
    simp only [List.map_cons, List.nodup_cons] at hn
    show rowAt (mergeR (putR rs q.1 q.2) qs) y = _
    rw [ih hn.2, rowAt_put]
    simp only [rowAt]
    by_cases h : q.1 = y
    · subst h
      have : rowAt qs q.1 = none := by
        cases e : rowAt qs q.1 with
        | none => rfl
        | some a => exact absurd (List.mem_map.mpr ⟨_, rowAt_mem e, rfl⟩) hn.1
      simp [this]
    · simp [h]
theorem merge_nodup {qs : List (Str × α)} (rs : List (Str × α)) (hn : (rs.map Prod.fst).Nodup) : ((mergeR rs qs).map Prod.fst).Nodup := by
  induction qs generalizing rs with
  | nil => exact hn
  | cons q qs ih =>
    refine ih (putR rs q.1 q.2) ?_
    rw [putR_names]
    split
    · exact hn
    · rename_i h
      rw [List.nodup_append]
      exact ⟨hn, by simp, fun a ha b hb e => h (by simp at hb; rw [← hb, ← e]; exact ha)⟩
theorem merge_names {qs : List (Str × α)} (rs : List (Str × α)) (y : Str) : y ∈ (mergeR rs qs).map Prod.fst ↔ y ∈ rs.map Prod.fst ∨ y ∈ qs.map Prod.fst := by
  induction qs generalizing rs with
  | nil => simp [mergeR]
  | cons q qs ih =>
    have := ih (putR rs q.1 q.2)
    rw [putR_names] at this
    show y ∈ (mergeR (putR rs q.1 q.2) qs).map Prod.fst ↔ _
    rw [this]
    split
    · rename_i h
      simp only [List.map_cons, List.mem_cons]
      constructor
      · rintro (h1 | h1) <;> simp [h1]
      · rintro (h1 | h1 | h1)
        · exact .inl h1
        · subst h1; exact .inl h
        · exact .inr h1
    · simp only [List.mem_append, List.map_cons, List.mem_cons, List.not_mem_nil, or_false]
      constructor
      · rintro ((h1 | h1) | h1) <;> simp [h1]
      · rintro (h1 | h1 | h1) <;> simp [h1]
/-! ### rows in order -/
def ordered (l : List Str) : Prop := l.Pairwise fun a b => nle a b = true ∧ a ≠ b
theorem ordered.nodup {l : List Str} (h : ordered l) : l.Nodup := List.Pairwise.imp (fun h => h.2) h
theorem ordered.le {l : List Str} (h : ordered l) : l.Pairwise fun a b => nle a b = true := List.Pairwise.imp (fun h => h.1) h
def insR : List (Str × α) → Str → α → List (Str × α)
  | [], x, v => [(x, v)]
  | r :: rs, x, v => if nle x r.1 = true then (x, v) :: r :: rs else r :: insR rs x v
theorem insR_mem (rs : List (Str × α)) (x : Str) (v : α) (q : Str × α) : q ∈ insR rs x v ↔ q = (x, v) ∨ q ∈ rs := by
  induction rs with
  | nil => simp [insR]
  | cons r rs ih =>
    unfold insR
    split
    · simp
    · simp only [List.mem_cons, ih]
      constructor
      · rintro (h | h | h) <;> simp [h]
      · rintro (h | h | h) <;> simp [h]
theorem insR_names (rs : List (Str × α)) (x : Str) (v : α) (y : Str) : y ∈ (insR rs x v).map Prod.fst ↔ y = x ∨ y ∈ rs.map Prod.fst := by
  simp only [List.mem_map, insR_mem]
  constructor
  · rintro ⟨q, rfl | h, rfl⟩
    · exact .inl rfl
    · exact .inr ⟨q, h, rfl⟩
  · rintro (rfl | ⟨q, h, rfl⟩)
    · exact ⟨_, .inl rfl, rfl⟩
    · exact ⟨q, .inr h, rfl⟩
theorem insR_ordered {rs : List (Str × α)} {x : Str} (v : α) (h : ordered (rs.map Prod.fst)) (hx : x ∉ rs.map Prod.fst) : ordered ((insR rs x v).map Prod.fst) := by
  induction rs with
  | nil => simp [insR, ordered]
  | cons r rs ih =>
    have h0 := h
    unfold ordered at h
    simp only [List.map_cons, List.pairwise_cons] at h
    have hx2 : x ≠ r.1 ∧ x ∉ rs.map Prod.fst := by
      constructor
      · intro e; exact hx (by rw [e]; simp)
      · intro e; exact hx (by rw [List.map_cons]; exact List.mem_cons_of_mem _ e)
    unfold insR
    split
    · rename_i hle
      unfold ordered
      simp only [List.map_cons, List.pairwise_cons]
      refine ⟨fun b hb => ?_, h⟩
      rcases List.mem_cons.mp hb with rfl | hb
      · exact ⟨hle, hx2.1⟩
      · exact ⟨nle_trans _ _ _ hle (h.1 b hb).1, fun e => hx2.2 (e ▸ hb)⟩
    · rename_i hle
      have hle2 : nle r.1 x = true := by
        have := nle_total x r.1
        simp only [Bool.not_eq_true] at hle
        rw [hle] at this; simpa using this
      unfold ordered
      simp only [List.map_cons, List.pairwise_cons]
      refine ⟨fun b hb => ?_, ih h.2 hx2.2⟩
      rw [insR_names] at hb
      rcases hb with rfl | hb
      · exact ⟨hle2, fun e => hx2.1 e.symm⟩
      · exact h.1 b hb
theorem rowAt_ins {rs : List (Str × α)} {x : Str} (v : α) (hx : x ∉ rs.map Prod.fst) (h : ordered (rs.map Prod.fst)) (y : Str) : rowAt (insR rs x v) y = if x = y then some v else rowAt rs y := by
  have hn := (insR_ordered v h hx).nodup
  by_cases e : x = y
  · subst e
    rw [if_pos rfl]
    exact rowAt_of hn ((insR_mem _ _ _ _).mpr (.inl rfl))
  · rw [if_neg e]
    cases q : rowAt rs y with
    | some a => exact rowAt_of hn ((insR_mem _ _ _ _).mpr (.inr (rowAt_mem q)))
    | none =>
      cases q2 : rowAt (insR rs x v) y with
      | none => rfl
      | some a =>
        rcases (insR_mem _ _ _ _).mp (rowAt_mem q2) with h2 | h2
        · cases h2; exact absurd rfl e
        · rw [rowAt_of h.nodup h2] at q; cases q
end
/-! ### done -/
def blank (p : Pr) : Pl := ⟨List.replicate p.nh none, List.replicate p.nt none, none, none⟩
/-- the rows that a command goes over -/
def Pr.rows (p : Pr) (c : Cmd) : List Fi := match c.file? with
  | some f => if f ∈ p.fs.map Prod.fst then p.fs else insR p.fs f (blank p)
  | none => p.fs
def Pr.done (p : Pr) (c : Cmd) : Pr := if p.refuses c = true then p else
  ⟨(p.counts c).1, (p.counts c).2, ((p.rows c).map fun r => (r.1, r.2.step r.1 c)).filter fun r => !r.2.empty⟩
theorem rows_ordered {p : Pr} (hp : p.ok) (c : Cmd) : ordered ((p.rows c).map Prod.fst) := by
  unfold Pr.rows
  split
  · split
    · exact hp.2.2.2.2.1
    · rename_i h; exact insR_ordered _ hp.2.2.2.2.1 h
  · exact hp.2.2.2.2.1
theorem rows_len {p : Pr} (hp : p.ok) (c : Cmd) : ∀ f ∈ p.rows c, f.2.here.length = p.nh ∧ f.2.there.length = p.nt := by
  unfold Pr.rows
  split
  · split
    · exact hp.2.2.2.2.2
    · intro f hf
      rcases (insR_mem _ _ _ _).mp hf with rfl | hf
      · simp [blank]
      · exact hp.2.2.2.2.2 f hf
  · exact hp.2.2.2.2.2
end TZ

set_option Elab.async false
set_option linter.all false
set_option maxRecDepth 100000
set_option maxHeartbeats 2000000
/-! P7: what done answers. -/
namespace TZ
open PySem
theorem rep_ones {α : Type} (a : α) (n : Nat) : rep n [a] = List.replicate n a := by
  unfold rep
  induction n with
  | zero => rfl
  | succ n ih => rw [List.replicate_succ, List.flatten_cons, ih]; rfl
theorem wMul_none {n : Nat} (h1 : 1 ≤ n) (h2 : n < 1000) (S : Sto) : wBin .mul (.tup [.non]) (.int n) S = some (encL (List.replicate n none), S) := by
  simp only [wBin, wMul]
  rw [if_pos ⟨by simp, by simp, by omega, by omega⟩]
  simp [rep_ones, encL]
theorem rows_enc (fs : List Fi) : fs.map encF = fs.map fun r => .tup (.str r.1 :: [encL r.2.here, encL r.2.there, encC r.2.stage, encC r.2.work]) := rfl
theorem ordered.keep {p : Pr} {l : List Fi} (h : ordered (l.map Prod.fst)) (g : Fi → Fi) (hg : ∀ f, (g f).1 = f.1) (q : Fi → Bool) : ordered (((l.map g).filter q).map Prod.fst) := by
  have e : ((l.map g).map Prod.fst) = l.map Prod.fst := by
    rw [List.map_map]
    apply List.map_congr_left
    intro a _
    exact hg a
  rw [← e] at h
  exact List.Pairwise.sublist (List.Sublist.map _ List.filter_sublist) h
theorem rowAt_some {α : Type} {rs : List (Str × α)} (hn : (rs.map Prod.fst).Nodup) {f : Str × α} (h : f ∈ rs) : rowAt rs f.1 = some f.2 := rowAt_of hn h
theorem own_here (p : Pl) (c : Cmd) : (p.own c).here = p.here ∧ (p.own c).there = p.there := by cases c <;> exact ⟨rfl, rfl⟩
theorem switched_here (p : Pl) : p.switched.here = p.there ∧ p.switched.there = p.here := by
  unfold Pl.switched
  split <;> exact ⟨rfl, rfl⟩
/-- the lengths after a step -/
theorem step_counts {p : Pr} (f : Str) (c : Cmd) {q : Pl} (h1 : q.here.length = p.nh) (h2 : q.there.length = p.nt) : (q.step f c).here.length = (p.counts c).1 ∧ (q.step f c).there.length = (p.counts c).2 := by
  cases c with
  | commit => simp [Pl.step, Pr.counts, h1, h2]
  | cut x k =>
    simp only [Pl.step, Pl.cut, Pr.counts, List.length_take, h1, h2, and_true]
    omega
  | switch => simp [Pl.step, Pr.counts, h1, h2, switched_here]
  | _ =>
    simp only [Pl.step, Pr.counts]
    split <;> simp [own_here, h1, h2]
theorem step_len {p : Pr} (hp : p.ok) {f : Str} (c : Cmd) {q : Pl} (h1 : q.here.length = p.nh) (h2 : q.there.length = p.nt) : (q.step f c).all.length ≤ 16777216 := by
  have h := step_counts f c h1 h2
  obtain ⟨_, _, h3, h4, _⟩ := hp
  have h5 : (p.counts c).1 ≤ 1001 ∧ (p.counts c).2 ≤ 1001 := by cases c <;> simp [Pr.counts] <;> omega
  simp only [Pl.all, List.length_append, List.length_cons, List.length_nil]
  omega
/-- the defs that done calls -/
structure Tb1 (tb : Nat → Option Def) : Prop where
  empty : tb 32 = some d_is_empty
  refuses : tb 40 = some d_refuses
  switched : tb 41 = some d_switched
  cut : tb 42 = some d_cut
  own : tb 2 = some d_own_done
  file : tb 43 = some d_file_done
  is_refused : tb 44 = some d_is_refused
  counts : tb 45 = some d_counts_after
  done : tb 46 = some d_done
section
variable {tb : Nat → Option Def} {p : Pr} {c : Cmd}
@[simp] theorem wIx_P0 (p : Pr) (S : Sto) : wIx (encPr p) (.int 0) S = some (.int p.nh, S) := by simp [encPr]
@[simp] theorem wIx_P1 (p : Pr) (S : Sto) : wIx (encPr p) (.int 1) S = some (.int p.nt, S) := by simp [encPr]
@[simp] theorem wIx_P2 (p : Pr) (S : Sto) : wIx (encPr p) (.int 2) S = some (.tup (p.fs.map encF), S) := by simp [encPr]
theorem wIx_C1 {c : Cmd} {f : Str} (h : c.file? = some f) (S : Sto) : wIx (encCmd c) (.int 1) S = some (.str f, S) := by
  cases c <;> simp [Cmd.file?] at h <;> simp [encCmd, h]
/-- does it name a file -/
def condE : E := .or (.cmp .in_ (.ix (.var 1) (.int 0)) (.gcon 8)) (.cmp .eq (.ix (.var 1) (.int 0)) (.str "write"))
theorem cond_ok (cf : Nat → List W → M W) (c : Cmd) (a : Option W) (ρ : Rho) (S : Sto) : Bo cf condE (a :: some (encCmd c) :: ρ) S = some (c.file?.isSome, S) := by
  cases c with
  | cut x k =>
    have e1 : x.str ∉ (["add", "unstage", "restore"] : List Str) := by cases x <;> decide
    have e2 : x.str ≠ "write" := by cases x <;> decide
    simp [Bo_eq, condE, encCmd, Cmd.file?, e1, e2]
  | _ => simp [Bo_eq, condE, encCmd, Cmd.file?]
/-- the last lines of done -/
def tailC : C := .seq (.asg (.nm 5) (.lc [6] (.nm 6) (.iter (.blt .sorted (.cons (.var 2) .nil))) (.bl true) (.tup (.cons (.var 6) (.star (.call 43 (.cons (.ix (.var 2) (.var 6)) (.cons (.var 6) (.cons (.var 1) .nil)))) .nil)))))
  (.ret (.tup (.star (.call 45 (.cons (.var 0) (.cons (.var 1) .nil))) (.cons (.blt .tuple (.cons (.lc [3] (.nm 3) (.iter (.var 5)) (.not (.call 32 (.cons (.slc (.var 3) (.int 1) .non) .nil))) (.var 3)) .nil)) .nil))))
theorem tail_ok (T : Tb1 tb) (hp : p.ok) (hc : ∀ x k, c = .cut x k → k < p.nh) {n : Nat} (hn : 2 ≤ n) {rs : List Fi} (hr : ordered (rs.map Prod.fst)) (hl : ∀ f ∈ rs, f.2.here.length = p.nh ∧ f.2.there.length = p.nt) {r : Nat} {ks : List Str} {us : List W} {S : Sto} (hks : ks.mergeSort nle = rs.map Prod.fst) (hat : ∀ f ∈ rs, dAt (ks.map .str) us (.str f.1) = some (encPl f.2)) (hSr : S[r]? = some (.dct (ks.map .str) us)) (hS : wf S = true) {x3 x4 : Option W} :
    ∃ ρ' S', R (callF gc0 tb n) tailC [some (encPr p), some (encCmd c), some (.ref r), x3, x4, none, none] S = some (.ret (encPr ⟨(p.counts c).1, (p.counts c).2, (rs.map fun r => (r.1, r.2.step r.1 c)).filter fun r => !r.2.empty⟩), ρ', S') := by
  have hrl : r < S.length := by
    rcases Nat.lt_or_ge r S.length with h | h
    · exact h
    · rw [List.getElem?_eq_none h] at hSr; cases hSr
  have e1 : wBlt .sorted [.ref r] S = some (.ref S.length, S ++ [.lst ((rs.map Prod.fst).map .str)]) := by
    simp only [wBlt, bSorted, dictOf, hSr, leafs, if_true, wSort_strs, hks]
    try rfl
  have hS' : wf (S ++ [.lst ((rs.map Prod.fst).map .str)]) = true := by
    unfold wf at hS ⊢
    rw [List.all_append, Bool.and_eq_true]
    constructor
    · rw [List.all_eq_true] at hS ⊢
      intro o ho
      rw [List.length_append]
      have := hS o ho
      cases o with
      | lst ws => exact unders_le (Nat.le_add_right _ _) ws this
      | dct ks us =>
        simp only [Ob.under, Bool.and_eq_true] at this ⊢
        exact ⟨unders_le (Nat.le_add_right _ _) ks this.1, unders_le (Nat.le_add_right _ _) us this.2⟩
    · simp only [List.all_cons, List.all_nil, Bool.and_true, Ob.under]
      exact unders_map _ _ _ fun _ _ => rfl
  generalize hSg : S ++ [.lst ((rs.map Prod.fst).map .str)] = S1 at e1 hS'
  have hSr1 : S1[r]? = some (.dct (ks.map .str) us) := by rw [← hSg, List.getElem?_append_left hrl, hSr]
  have hSl : S1[S.length]? = some (.lst ((rs.map Prod.fst).map .str)) := by rw [← hSg]; simp
  have hst : stands S1 [(S.length, .lst ((rs.map Prod.fst).map .str))] = true := by simp [stands, hSl]
  have hpl : ∀ f ∈ rs, f.2.ok := by
    intro f hf
    have h4 := hl f hf
    obtain ⟨h1, h2, _⟩ := hp
    constructor
    · intro e; rw [e] at h4; simp at h4; omega
    · intro e; rw [e] at h4; simp at h4; omega
  have e2 : wIter (.ref S.length) S1 = some (((rs.map Prod.fst).map .str, [(S.length, .lst ((rs.map Prod.fst).map .str))]), S1) := by
    unfold wIter
    simp [dictOf, seqOf, listOf, srcOf, hSl]
  have e3 : ((rs.map Prod.fst).map W.str) = rs.map fun f => W.str f.1 := by simp
  have e4 := a_counts T.counts (p := p) c (fun x k h => Nat.le_of_lt (hc x k h)) n (by omega) S1 hS'
  have e5 : ∀ x y, compL [(S.length, .lst ((rs.map Prod.fst).map .str))] (tn (callF gc0 tb n) (.nm 6) [6] [some (encPr p), some (encCmd c), some (.ref r), x, y, none, none] (.bl true) (.tup (.cons (.var 6) (.star (.call 43 (.cons (.ix (.var 2) (.var 6)) (.cons (.var 6) (.cons (.var 1) .nil)))) .nil)))) ((rs.map Prod.fst).map .str) S1 = some (rs.map fun f => encF (f.1, f.2.step f.1 c), S1) := by
    intro x y
    rw [e3, ← e3] 
    conv => lhs; arg 3; rw [e3]
    rw [compL_map hst (fun f : Fi => W.str f.1) (fun f => encF (f.1, f.2.step f.1 c)) rs]
    intro f hf
    have q := a_file_done T.file T.own T.cut T.switched (hpl f hf) (by have := (hl f hf).1; obtain ⟨_, _, h3, _⟩ := hp; omega) f.1 c (fun x k h => by rw [(hl f hf).1]; exact hc x k h) n hn S1 hS'
    have q2 : wIx (.ref r) (.str f.1) S1 = some (encPl f.2, S1) := by
      simp only [wIx, dictOf, hSr1, keyFor_strs, if_true, hat f hf]
    simp [tn, P.put, wipeR, Bo_eq, q, q2]
    rfl
  have e6 : ∀ x y z, compL [] (tn (callF gc0 tb n) (.nm 3) [3] [some (encPr p), some (encCmd c), some (.ref r), x, y, z, none] (.not (.call 32 (.cons (.slc (.var 3) (.int 1) .non) .nil))) (.var 3)) (rs.map fun f => encF (f.1, f.2.step f.1 c)) S1 = some (((rs.map fun r => (r.1, r.2.step r.1 c)).filter fun r => !r.2.empty).map encF, S1) := by
    intro x y z
    have e : (rs.map fun f => encF (f.1, f.2.step f.1 c)) = (rs.map fun r => (r.1, r.2.step r.1 c)).map encF := by rw [List.map_map]; rfl
    rw [e, compL_filter rfl encF encF (fun r => !r.2.empty)]
    intro f hf
    obtain ⟨g, hg, rfl⟩ := List.mem_map.mp hf
    have q := a_is_empty T.empty (p := g.2.step g.1 c) (step_len hp c (hl g hg).1 (hl g hg).2) n (by omega) S1 hS'
    simp [tn, P.put, wipeR, Bo_eq, encF_eq]
    rw [show W.tup [encL (g.2.step g.1 c).here, encL (g.2.step g.1 c).there, encC (g.2.step g.1 c).stage, encC (g.2.step g.1 c).work] = encPl (g.2.step g.1 c) from rfl, q]
    cases (g.2.step g.1 c).empty <;> rfl
  refine ⟨[some (encPr p), some (encCmd c), some (.ref r), x3, x4, some (.lst (rs.map fun f => encF (f.1, f.2.step f.1 c))), none], S1, ?_⟩
  unfold tailC
  simp [-List.map_map, e1, e2, e5, e4, e6]
  rfl
theorem insR_length {α : Type} (rs : List (Str × α)) (x : Str) (v : α) : (insR rs x v).length = rs.length + 1 := by
  induction rs with
  | nil => rfl
  | cons r rs ih =>
    unfold insR
    split <;> simp [ih]
theorem rows_length (p : Pr) (c : Cmd) : (p.rows c).length ≤ p.fs.length + 1 := by
  unfold Pr.rows
  split
  · split
    · omega
    · rw [insR_length]; exact Nat.le_refl _
  · omega
/-- the dict of the rows -/
theorem wf_dct {ks us : List W} (h1 : unders 0 ks = true) (h2 : unders 0 us = true) : ∀ {S : Sto}, wf S = true → wf (S ++ [.dct ks us]) = true := by
  intro S hS
  unfold wf at hS ⊢
  rw [List.all_append, Bool.and_eq_true]
  constructor
  · rw [List.all_eq_true] at hS ⊢
    intro o ho
    exact obUnder_le (by simp) o (hS o ho)
  · simp only [List.all_cons, List.all_nil, Bool.and_true, Ob.under, Bool.and_eq_true]
    exact ⟨unders_le (Nat.zero_le _) _ h1, unders_le (Nat.zero_le _) _ h2⟩
theorem dAt_of {rs : List Fi} (h : (rs.map Prod.fst).Nodup) {f : Fi} (hf : f ∈ rs) : dAt ((rs.map Prod.fst).map .str) (rs.map fun r => encPl r.2) (.str f.1) = some (encPl f.2) := by
  have e := dAt_rows encPl rs f.1
  rw [rowAt_of h hf] at e
  rw [show (rs.map Prod.fst).map W.str = rs.map fun r => W.str r.1 by simp]
  exact e
theorem dc_ok {n : Nat} (hp : p.ok) : dcL [] (tnd (callF gc0 tb n) (.nm 3) [3] [some (encPr p), some (encCmd c), none, none, none, none, none] (.bl true) (.ix (.var 3) (.int 0)) (.slc (.var 3) (.int 1) .non)) (p.fs.map encF) ([], []) [] = some (((p.fs.map Prod.fst).map .str, p.fs.map fun r => encPl r.2), []) := by
  have e := dcL_rows (S := []) (src := []) (f := tnd (callF gc0 tb n) (.nm 3) [3] [some (encPr p), some (encCmd c), none, none, none, none, none] (.bl true) (.ix (.var 3) (.int 0)) (.slc (.var 3) (.int 1) .non)) rfl encF encPl p.fs [] [] ?_ ?_
  · simpa using e
  · intro f _
    simp [tnd, P.put, wipeR, Bo_eq, encF_eq]
    rfl
  · simpa using ordered.nodup hp.2.2.2.2.1
theorem a_done (T : Tb1 tb) (hp : p.ok) (hsz : p.fs.length < 1000) : Ans tb 3 46 [encPr p, encCmd c] (encPr (p.done c)) := by
  refine ans_of (k := 2) (by simp [unders]) (by simp) fun n hn => ?_
  rw [callF_R T.done rfl rfl]
  have q1 := a_is_refused T.is_refused T.refuses hp c n hn [] rfl
  have hd : d_done.body = .seq (.ite (.call 44 (.cons (.var 0) (.cons (.var 1) .nil))) (.ret (.var 0)) .skip) (.seq (.asg (.nm 2) (.dc [3] (.nm 3) (.iter (.ix (.var 0) (.int 2))) (.bl true) (.ix (.var 3) (.int 0)) (.slc (.var 3) (.int 1) .non)))
  (.seq (.ite condE
  (.seq (.asg (.nm 4) (.tup (.cons (.bin .mul (.tup (.cons .non .nil)) (.ix (.var 0) (.int 0))) (.cons (.bin .mul (.tup (.cons .non .nil)) (.ix (.var 0) (.int 1))) (.cons .non (.cons .non .nil))))))
  (.asg (.nm 2) (.dct (.dpair (.ix (.var 1) (.int 1)) (.var 4) (.dstar (.var 2) .dnil)))))
  .skip) tailC)) := rfl
  rw [hd]
  unfold Pr.done
  have q1' : Bo (callF gc0 tb n) (.call 44 (.cons (.var 0) (.cons (.var 1) .nil))) [some (encPr p), some (encCmd c), none, none, none, none, none] [] = some (p.refuses c, []) := by
    simp [Bo_eq, q1]
  by_cases hr : p.refuses c = true
  · simp [List.replicate, q1', hr, d_done]
  · rw [Bool.not_eq_true] at hr
    have q3 := dc_ok (tb := tb) (c := c) (n := n) hp
    have hc : ∀ x k, c = .cut x k → k < p.nh := by
      rintro x k rfl
      simpa [Pr.refuses] using hr
    have hS1 : wf [Ob.dct ((p.fs.map Prod.fst).map .str) (p.fs.map fun r => encPl r.2)] = true := wf_dct (unders_map _ _ _ fun _ _ => rfl) (unders_map _ _ _ fun _ _ => under_Pl _ _) (S := []) rfl
    have hnd := ordered.nodup hp.2.2.2.2.1
    simp [-List.map_map, List.replicate, q1', q3, d_done, hr, cond_ok]
    cases hf : c.file? with
    | none =>
      have hrw : p.rows c = p.fs := by unfold Pr.rows; rw [hf]
      obtain ⟨ρ', S', e⟩ := tail_ok (x3 := none) (x4 := none) T hp hc hn hp.2.2.2.2.1 hp.2.2.2.2.2 (sort_is (List.Perm.refl _) (ordered.le hp.2.2.2.2.1)) (fun f hf => dAt_of hnd hf) (r := 0) rfl hS1
      simp [-List.map_map, e, hrw]
    | some f =>
      have m1 : (p.fs.map Prod.fst).map W.str = p.fs.map fun r => W.str r.1 := by simp
      have e7 : dMerge [W.str f] [encPl (blank p)] ((p.fs.map Prod.fst).map .str) (p.fs.map fun r => encPl r.2) = (((mergeR [(f, blank p)] p.fs).map Prod.fst).map .str, (mergeR [(f, blank p)] p.fs).map fun r => encPl r.2) := by
        rw [m1]
        have := dMerge_rows encPl p.fs [(f, blank p)]
        simp only [List.map_cons, List.map_nil] at this
        rw [this]; simp
      have e8 : ((((p.fs.map Prod.fst).map W.str).all fun k => keyFor [W.str f] k && keyFor ((p.fs.map Prod.fst).map .str) k) && mergeOk [W.str f] ((p.fs.map Prod.fst).map .str)) = true := by
        have k1 : ∀ x : Str, keyFor [W.str f] (.str x) = true := keyFor_strs [f]
        rw [Bool.and_eq_true]
        constructor
        · rw [List.all_eq_true]
          intro w hw
          obtain ⟨x, _, rfl⟩ := List.mem_map.mp hw
          rw [k1, keyFor_strs]; rfl
        · unfold mergeOk
          simp only [Bool.and_eq_true, decide_eq_true_eq]
          refine ⟨?_, rfl⟩
          simp [lineN]; omega
      have e9 : dPut [] [] (W.str f) (encPl (blank p)) = ([W.str f], [encPl (blank p)]) := rfl
      have hb : W.tup [encL (List.replicate p.nh none), encL (List.replicate p.nt none), W.non, W.non] = encPl (blank p) := rfl
      have e10 := wMul_none hp.1 hp.2.2.1
      have e11 := wMul_none hp.2.1 hp.2.2.2.1
      have e12 : ∀ x : Str, keyFor [] (W.str x) = true := fun x => rfl
      have hM : ((mergeR [(f, blank p)] p.fs).map Prod.fst).Nodup := merge_nodup _ (by simp)
      have hS2 : wf ([Ob.dct ((p.fs.map Prod.fst).map .str) (p.fs.map fun r => encPl r.2)] ++ [Ob.dct (((mergeR [(f, blank p)] p.fs).map Prod.fst).map .str) ((mergeR [(f, blank p)] p.fs).map fun r => encPl r.2)]) = true := wf_dct (unders_map _ _ _ fun _ _ => rfl) (unders_map _ _ _ fun _ _ => under_Pl _ _) hS1
      have hro := rows_ordered hp c
      have h1 : ((mergeR [(f, blank p)] p.fs).map Prod.fst).Perm ((p.rows c).map Prod.fst) := by
        rw [List.perm_ext_iff_of_nodup hM hro.nodup]
        intro y
        rw [merge_names]
        unfold Pr.rows
        rw [hf]
        simp only [List.map_cons, List.map_nil, List.mem_cons, List.not_mem_nil, or_false]
        split
        · rename_i h
          exact ⟨fun h' => h'.elim (fun e => e ▸ h) id, .inr⟩
        · rw [insR_names]
      have h2 : ∀ r ∈ p.rows c, dAt (((mergeR [(f, blank p)] p.fs).map Prod.fst).map .str) ((mergeR [(f, blank p)] p.fs).map fun r => encPl r.2) (.str r.1) = some (encPl r.2) := by
        intro r hr
        have e := dAt_rows encPl (mergeR [(f, blank p)] p.fs) r.1
        have e2 : rowAt (mergeR [(f, blank p)] p.fs) r.1 = some r.2 := by
          rw [rowAt_merge hnd]
          have h3 := rowAt_of hro.nodup hr
          unfold Pr.rows at h3
          rw [hf] at h3
          simp only at h3
          split at h3
          · rw [h3]; rfl
          · rename_i hx
            rw [rowAt_ins _ hx hp.2.2.2.2.1] at h3
            split at h3
            · rename_i hfr
              subst hfr
              cases e4 : rowAt p.fs r.1 with
              | none => simpa [rowAt] using h3
              | some a => exact absurd (List.mem_map.mpr ⟨_, rowAt_mem e4, rfl⟩) hx
            · rw [h3]; rfl
        rw [e2] at e
        rw [show ((mergeR [(f, blank p)] p.fs).map Prod.fst).map W.str = (mergeR [(f, blank p)] p.fs).map fun r => W.str r.1 by simp]
        exact e
      have e13 : (mergeR [(f, blank p)] p.fs).length ≤ 16777216 := by
        have := h1.length_eq
        simp only [List.length_map] at this
        have h3 := rows_length p c
        omega
      obtain ⟨ρ', S', e⟩ := tail_ok (x3 := none) (x4 := some (encPl (blank p))) T hp hc hn hro (rows_len hp c) (ks := (mergeR [(f, blank p)] p.fs).map Prod.fst) (us := (mergeR [(f, blank p)] p.fs).map fun r => encPl r.2) (sort_is h1 (ordered.le hro)) h2 (r := 1) rfl hS2
      simp only [List.cons_append, List.nil_append] at e
      simp [-List.map_map, -List.all_map, -Bool.and_eq_true, -List.all_eq_true, e10, e11, hb, wIx_C1 hf, e9, e12, pairsOf, dictOf, e8, e7, e13, e]
end
end TZ

set_option Elab.async false
set_option linter.all false
set_option maxRecDepth 100000
set_option maxHeartbeats 2000000
/-! P8: programs run; status. -/
namespace TZ
open PySem
/-! ### a list handed back -/
theorem frz_lst {r : Nat} {ws : List W} {S : Sto} (hS : S[r]? = some (.lst ws)) (hw : unders 0 ws = true) : W.frz 0 S (.ref r) = some (.lst ws) := by
  unfold W.frz
  simp only [W.mapR, thaw, Nat.not_lt_zero, if_false, hS]
  rw [mapRs_no _ ws hw]; rfl
theorem fin_lst {r : Nat} {ws : List W} {S : Sto} (hS : S[r]? = some (.lst ws)) (hw : unders 0 ws = true) : finish false 0 (.ref r) S = some (.lst ws, []) := by
  unfold finish
  rw [if_neg Bool.false_ne_true, frz_lst hS hw]
  simp only
  rw [if_pos ⟨by simp [hw], by simp [underAll]⟩]
  simp
theorem append_ok {r : Nat} {ws : List W} {S : Sto} (hS : S[r]? = some (.lst ws)) (hl : ws.length < 16777216) (w : W) : wMth .append (.ref r) [w] S = some (.non, S.set r (.lst (ws ++ [w]))) := by
  simp only [wMth, mAppend, hS]
  exact if_pos hl
theorem recv_append {r : Nat} {ws : List W} {S : Sto} (hS : S[r]? = some (.lst ws)) : wRecv .append (.ref r) S = some ((), S) := by
  unfold wRecv
  simp [listOf, hS]
theorem forL_pre {α : Type} {src : List (Nat × Ob)} {t : P} {f : Rho → Sto → Option (Fl × Rho × Sto)} (Inv : List α → Rho → Sto → Prop) (enc : α → W) (hs : ∀ d ρ S, Inv d ρ S → stands S src = true) (l : List α) (h : ∀ d a r ρ S, l = d ++ a :: r → Inv d ρ S → ∃ ρ', P.put t (enc a) ρ = some ρ' ∧ ∃ ρ2 S2, f ρ' S = some (.nx, ρ2, S2) ∧ Inv (d ++ [a]) ρ2 S2) {ρ : Rho} {S : Sto} (hi : Inv [] ρ S) : ∃ ρ2 S2, forL src t f (l.map enc) ρ S = some (.nx, ρ2, S2) ∧ Inv l ρ2 S2 := by
  have key : ∀ (r d : List α) (ρ : Rho) (S : Sto), l = d ++ r → Inv d ρ S → ∃ ρ2 S2, forL src t f (r.map enc) ρ S = some (.nx, ρ2, S2) ∧ Inv l ρ2 S2 := by
    intro r
    induction r with
    | nil =>
      intro d ρ S e hi
      rw [List.append_nil] at e
      exact ⟨ρ, S, by simp [forL, hs _ _ _ hi], e ▸ hi⟩
    | cons a r ih =>
      intro d ρ S e hi
      obtain ⟨ρ', e1, ρ2, S2, e2, hi2⟩ := h d a r ρ S e hi
      obtain ⟨ρ3, S3, e3, hi3⟩ := ih (d ++ [a]) ρ2 S2 (by simp [e]) hi2
      refine ⟨ρ3, S3, ?_, hi3⟩
      simp only [List.map_cons, forL, hs _ _ _ hi, if_true, e1, e2]
      exact e3
  exact key l [] ρ S rfl hi
/-! ### the kind is kept -/
def Pr.okB (B : Nat) (p : Pr) : Prop := 1 ≤ p.nh ∧ 1 ≤ p.nt ∧ p.nh ≤ B ∧ p.nt ≤ B ∧ p.fs.length ≤ B ∧ ordered (p.fs.map Prod.fst) ∧ ∀ f ∈ p.fs, f.2.here.length = p.nh ∧ f.2.there.length = p.nt
theorem Pr.okB.ok {B : Nat} {p : Pr} (h : p.okB B) (hB : B < 1000) : p.ok := ⟨h.1, h.2.1, by have := h.2.2.1; omega, by have := h.2.2.2.1; omega, h.2.2.2.2.2.1, h.2.2.2.2.2.2⟩
theorem Pr.okB.mono {B C : Nat} {p : Pr} (h : p.okB B) (hB : B ≤ C) : p.okB C := ⟨h.1, h.2.1, Nat.le_trans h.2.2.1 hB, Nat.le_trans h.2.2.2.1 hB, Nat.le_trans h.2.2.2.2.1 hB, h.2.2.2.2.2⟩
theorem done_okB {B : Nat} {p : Pr} (h : p.okB B) (hB : B < 1000) (c : Cmd) : (p.done c).okB (B + 1) := by
  unfold Pr.done
  split
  · exact h.mono (Nat.le_succ _)
  · rename_i hr
    have hok := h.ok hB
    obtain ⟨h1, h2, h3, h4, h5, h6, h7⟩ := h
    have hc : 1 ≤ (p.counts c).1 ∧ 1 ≤ (p.counts c).2 ∧ (p.counts c).1 ≤ B + 1 ∧ (p.counts c).2 ≤ B + 1 := by
      cases c with
      | cut x k =>
        simp only [Pr.refuses, decide_eq_true_eq] at hr
        simp only [Pr.counts]
        omega
      | _ => simp only [Pr.counts]; omega
    refine ⟨hc.1, hc.2.1, hc.2.2.1, hc.2.2.2, ?_, ?_, ?_⟩
    · refine Nat.le_trans (List.length_filter_le _ _) ?_
      rw [List.length_map]
      exact Nat.le_trans (rows_length p c) (by omega)
    · exact ordered.keep (p := p) (rows_ordered hok c) (fun r => (r.1, r.2.step r.1 c)) (fun _ => rfl) _
    · intro f hf
      obtain ⟨hf, _⟩ := List.mem_filter.mp hf
      obtain ⟨g, hg, rfl⟩ := List.mem_map.mp hf
      have hg2 := rows_len hok c g hg
      exact step_counts g.1 c hg2.1 hg2.2
def Pr.after (p : Pr) (cs : List Cmd) : Pr := cs.foldl Pr.done p
theorem after_okB {B : Nat} {p : Pr} (h : p.okB B) : ∀ (cs : List Cmd), B + cs.length < 1000 → (p.after cs).okB (B + cs.length) := by
  intro cs
  induction cs generalizing p B with
  | nil => intro _; exact h
  | cons c cs ih =>
    intro hB
    rw [List.length_cons] at hB
    have := ih (done_okB h (by omega) c) (by omega)
    rw [List.length_cons]
    exact this.mono (by omega)
def encProg (cs : List Cmd) : W := .tup (cs.map encCmd)
@[simp] theorem under_Prog (cs : List Cmd) (n : Nat) : (encProg cs).under n = true := by
  show unders n (cs.map encCmd) = true
  exact unders_map _ _ _ fun _ _ => under_Cmd _ _
theorem a_after {tb : Nat → Option Def} (T : Tb1 tb) (hd : tb 47 = some d_after) {B : Nat} {p : Pr} (hp : p.okB B) (cs : List Cmd) (hB : B + cs.length < 1000) : Ans tb 4 47 [encPr p, encProg cs] (encPr (p.after cs)) := by
  refine ans_of (k := 3) (by simp [unders]) (by simp) fun n hn => ?_
  rw [callF_R hd rfl rfl]
  have q : ∀ x, ∃ ρ2 S2, forL [] (.nm 2) (fun ρ S => R (callF gc0 tb n) (.asg (.nm 0) (.call 46 (.cons (.var 0) (.cons (.var 2) .nil)))) ρ S) (cs.map encCmd) [some (encPr p), some (encProg cs), x] [] = some (.nx, ρ2, S2) ∧ S2 = [] ∧ ∃ y, ρ2 = [some (encPr (p.after cs)), some (encProg cs), y] := by
    intro x
    refine forL_pre (fun d ρ S => S = [] ∧ ∃ y, ρ = [some (encPr (p.after d)), some (encProg cs), y]) encCmd (fun _ _ _ _ => rfl) cs ?_ ⟨rfl, x, rfl⟩
    rintro d c r ρ S e ⟨rfl, y, rfl⟩
    have hl : B + d.length < 1000 := by have := congrArg List.length e; simp at this; omega
    have hk := after_okB hp d hl
    have q := a_done (c := c) T (hk.ok hl) (by have := hk.2.2.2.2.1; omega) n hn [] rfl
    have ea : p.after (d ++ [c]) = (p.after d).done c := by simp [Pr.after]
    refine ⟨_, rfl, [some (encPr (p.after (d ++ [c]))), some (encProg cs), some (encCmd c)], [], ?_, rfl, _, rfl⟩
    rw [ea]
    simp [q]
  obtain ⟨ρ2, S2, e, rfl, y, rfl⟩ := q none
  simp [d_after, List.replicate, encProg] at e ⊢
  rw [e]
  simp
/-! ### the commands that are refused -/
def refStep (s : List Nat × Pr) (q : Cmd × Nat) : List Nat × Pr := (if s.2.refuses q.1 = true then s.1 ++ [q.2] else s.1, s.2.done q.1)
def Pr.refused (p : Pr) (cs : List Cmd) : List Nat := (cs.zipIdx.foldl refStep ([], p)).1
theorem refStep_after (p : Pr) (l : List Nat) (d : List (Cmd × Nat)) : (d.foldl refStep (l, p)).2 = p.after (d.map Prod.fst) := by
  induction d generalizing p l with
  | nil => rfl
  | cons q d ih =>
    rw [List.foldl_cons, List.map_cons]
    exact ih _ _
theorem refStep_len (p : Pr) (l : List Nat) (d : List (Cmd × Nat)) : (d.foldl refStep (l, p)).1.length ≤ l.length + d.length := by
  induction d generalizing p l with
  | nil => exact Nat.le_refl _
  | cons q d ih =>
    rw [List.foldl_cons, List.length_cons]
    refine Nat.le_trans (ih _ _) ?_
    dsimp only
    split
    · simp; omega
    · omega
def encNs (l : List Nat) : List W := l.map fun (i : Nat) => W.int i
theorem under_Ns (l : List Nat) (n : Nat) : unders n (encNs l) = true := unders_map _ _ _ fun _ _ => rfl
theorem wf_lst {ws : List W} (h : unders 0 ws = true) : wf [Ob.lst ws] = true := by
  simp [wf, Ob.under, unders_le (Nat.zero_le _) ws h]
theorem enumE {α : Type} (enc : α → W) (l : List α) (k : Nat) : ((l.map enc).zipIdx k).map (fun q => W.tup [.int (Int.ofNat q.2), q.1]) = (l.zipIdx k).map fun q => W.tup [.int q.2, enc q.1] := by
  induction l generalizing k with
  | nil => rfl
  | cons a l ih => simp only [List.map_cons, List.zipIdx_cons, ih]; rfl
theorem a_refused {tb : Nat → Option Def} (T : Tb1 tb) (hd : tb 49 = some d_refused) {B : Nat} {p : Pr} (hp : p.okB B) (cs : List Cmd) (hB : B + cs.length < 1000) : Ans tb 4 49 [encPr p, encProg cs] (.lst (encNs (p.refused cs))) := by
  refine ans_of (k := 3) (by simp [unders]) (by simp [under_Ns]) fun n hn => ?_
  rw [callF_R hd rfl rfl]
  have q : ∀ x y, ∃ ρ2 S2, forL [] (.tp (.cons (.nm 4) (.cons (.nm 5) .nil))) (fun ρ S => R (callF gc0 tb n) (.seq (.ite (.call 44 (.cons (.var 3) (.cons (.var 5) .nil)))
  (.expr (.mth .append (.var 2) (.cons (.var 4) .nil)))
  .skip)
  (.asg (.nm 3) (.call 46 (.cons (.var 3) (.cons (.var 5) .nil))))) ρ S) (cs.zipIdx.map fun q => W.tup [.int q.2, encCmd q.1]) [some (encPr p), some (encProg cs), some (.ref 0), some (encPr p), x, y] [.lst []] = some (.nx, ρ2, S2) ∧ S2 = [.lst (encNs (p.refused cs))] ∧ ∃ x y, ρ2 = [some (encPr p), some (encProg cs), some (.ref 0), some (encPr (cs.zipIdx.foldl refStep ([], p)).2), x, y] := by
    intro x y
    refine forL_pre (fun d ρ S => S = [.lst (encNs (d.foldl refStep ([], p)).1)] ∧ ∃ x y, ρ = [some (encPr p), some (encProg cs), some (.ref 0), some (encPr (d.foldl refStep ([], p)).2), x, y]) (fun q => W.tup [.int q.2, encCmd q.1]) (fun _ _ _ _ => rfl) _ ?_ ⟨rfl, x, y, rfl⟩
    rintro d ⟨c, i⟩ r ρ S e ⟨rfl, x, y, rfl⟩
    have hl0 : d.length + 1 ≤ cs.length := by
      have := congrArg List.length e
      simp at this; omega
    have hl := refStep_len p [] d
    rw [refStep_after]
    have hk := after_okB hp (d.map Prod.fst) (by simp; omega)
    have q := a_done (c := c) T (hk.ok (by simp; omega)) (by have := hk.2.2.2.2.1; simp at this; omega) n hn
    have q2 := a_is_refused T.is_refused T.refuses (hk.ok (by simp; omega)) c n (by omega) _ (wf_lst (under_Ns (d.foldl refStep ([], p)).1 0))
    generalize hf : (d.foldl refStep ([], p)).1 = found at hl q2 ⊢
    have q1 := q _ (wf_lst (under_Ns found 0))
    have q3 := q _ (wf_lst (under_Ns (found ++ [i]) 0))
    have hs : d.foldl refStep ([], p) = (found, p.after (d.map Prod.fst)) := Prod.ext hf (refStep_after p [] d)
    refine ⟨_, rfl, [some (encPr p), some (encProg cs), some (.ref 0), some (encPr ((d ++ [(c, i)]).foldl refStep ([], p)).2), some (.int i), some (encCmd c)], [.lst (encNs ((d ++ [(c, i)]).foldl refStep ([], p)).1)], ?_, rfl, _, _, rfl⟩
    have ha := append_ok (r := 0) (S := [.lst (encNs found)]) (ws := encNs found) rfl (by simp [encNs] at hl ⊢; omega) (.int i)
    have hr := recv_append (r := 0) (S := [.lst (encNs found)]) (ws := encNs found) rfl
    have hap : encNs found ++ [.int i] = encNs (found ++ [i]) := by simp [encNs]
    rw [hap] at ha
    have e3 : (d ++ [(c, i)]).foldl refStep ([], p) = refStep (found, p.after (d.map Prod.fst)) (c, i) := by rw [List.foldl_append, hs]; rfl
    rw [e3]
    unfold refStep
    by_cases hr2 : (p.after (d.map Prod.fst)).refuses c = true
    · rw [hr2] at q2
      simp at ha
      simp [Bo_eq, q2, q3, ha, hr, hr2]
    · rw [Bool.not_eq_true] at hr2
      rw [hr2] at q2
      simp [Bo_eq, q2, q1, hr2]
  obtain ⟨ρ2, S2, e, rfl, y, z, rfl⟩ := q none none
  have he := enumE encCmd cs 0
  have e2 : wEnum (encProg cs) [.lst []] = some ((cs.zipIdx.map fun q => W.tup [.int q.2, encCmd q.1], []), [.lst []]) := by
    unfold wEnum encProg
    simp only [seqOf, srcOf]
    rw [he]
  have hfin := fin_lst (r := 0) (S := [.lst (encNs (p.refused cs))]) rfl (under_Ns _ 0)
  simp [d_refused, List.replicate, e2] at e ⊢
  rw [e]
  simp [hfin]
end TZ

set_option Elab.async false
set_option linter.all false
set_option maxRecDepth 100000
set_option maxHeartbeats 2000000
/-! P9: status, is_clean, blocking, and the laws' own words for them. -/
namespace TZ
open PySem
abbrev Row3 := Str × Str × Str
def encR3 (r : Row3) : W := .tup [.str r.1, .str r.2.1, .str r.2.2]
@[simp] theorem under_R3 (r : Row3) (n : Nat) : (encR3 r).under n = true := rfl
theorem under_R3s (l : List Row3) (n : Nat) : unders n (l.map encR3) = true := unders_map _ _ _ fun _ _ => rfl
def rowOf (f : Fi) : Row3 := (f.1, wayS (lst f.2.here) f.2.stage, wayS f.2.stage f.2.work)
def dueRow (f : Fi) : Bool := !decide ((rowOf f).2 = (("same" : Str), ("same" : Str)))
def Pr.status (p : Pr) : List Row3 := (p.fs.filter dueRow).map rowOf
theorem wEq_R3 (a b c d : Str) (S : Sto) : wEq (.tup [.str a, .str b]) (.tup [.str c, .str d]) S = some (decide ((a, b) = (c, d)), S) := by
  rw [wEq_pn ⟨rfl, rfl, rfl⟩ ⟨rfl, rfl, rfl⟩]
  simp
theorem a_status {tb : Nat → Option Def} (hd : tb 51 = some d_status) (h50 : tb 50 = some d_change) {p : Pr} (hp : p.ok) (hl : p.fs.length < 1000) : Ans tb 2 51 [encPr p] (.lst (p.status.map encR3)) := by
  refine ans_of (k := 1) (by simp [unders]) (by simp [under_R3s]) fun n hn => ?_
  rw [callF_R hd rfl rfl]
  have q : ∀ a b c d e f, ∃ ρ2 S2, forL [] (.tp (.cons (.nm 2) (.cons (.nm 3) (.cons (.nm 4) (.cons (.nm 5) (.cons (.nm 6) .nil)))))) (fun ρ S => R (callF gc0 tb n) (.seq (.asg (.nm 7) (.tup (.cons (.var 2) (.cons (.call 50 (.cons (.ix (.var 3) (.int (-1))) (.cons (.var 5) .nil))) (.cons (.call 50 (.cons (.var 5) (.cons (.var 6) .nil))) .nil)))))
  (.ite (.cmp .ne (.slc (.var 7) (.int 1) .non) (.tup (.cons (.gcon 11) (.cons (.gcon 11) .nil))))
  (.expr (.mth .append (.var 1) (.cons (.var 7) .nil)))
  .skip)) ρ S) (p.fs.map encF) [some (encPr p), some (.ref 0), a, b, c, d, e, f] [.lst []] = some (.nx, ρ2, S2) ∧ S2 = [.lst (p.status.map encR3)] ∧ ∃ a b c d e f, ρ2 = [some (encPr p), some (.ref 0), a, b, c, d, e, f] := by
    intro a b c d e f
    refine forL_pre (fun d ρ S => S = [.lst (((d.filter dueRow).map rowOf).map encR3)] ∧ ∃ a b c d e f, ρ = [some (encPr p), some (.ref 0), a, b, c, d, e, f]) encF (fun _ _ _ _ => rfl) _ ?_ ⟨rfl, a, b, c, d, e, f, rfl⟩
    rintro d f r ρ S e ⟨rfl, x2, x3, x4, x5, x6, x7, rfl⟩
    have hf : f ∈ p.fs := by rw [e]; simp
    have hl0 : d.length < 1000 := by have := congrArg List.length e; simp at this; omega
    have hl2 : (d.filter dueRow).length < 1000 := Nat.lt_of_le_of_lt (List.length_filter_le _ _) hl0
    have hfo := hp.pl hf
    generalize hrows : (d.filter dueRow).map rowOf = rows
    have hl3 : rows.length < 1000 := by rw [← hrows, List.length_map]; exact hl2
    have q1 := a_change h50 (lst f.2.here) f.2.stage n hn _ (wf_lst (under_R3s rows 0))
    have q2 := a_change h50 f.2.stage f.2.work n hn _ (wf_lst (under_R3s rows 0))
    have ha := append_ok (r := 0) (S := [.lst (rows.map encR3)]) (ws := rows.map encR3) rfl (by simp; omega) (encR3 (rowOf f))
    have hr := recv_append (r := 0) (S := [.lst (rows.map encR3)]) (ws := rows.map encR3) rfl
    have hix := atL_last hfo.1
    refine ⟨_, rfl, [some (encPr p), some (.ref 0), some (.str f.1), some (encL f.2.here), some (encL f.2.there), some (encC f.2.stage), some (encC f.2.work), some (encR3 (rowOf f))], [.lst ((((d ++ [f]).filter dueRow).map rowOf).map encR3)], ?_, rfl, _, _, _, _, _, _, rfl⟩
    rw [List.filter_append, List.map_append, hrows]
    by_cases hdue : dueRow f = true
    · have h2 : ¬ (wayS (lst f.2.here) f.2.stage = "same" ∧ wayS f.2.stage f.2.work = "same") := by
        unfold dueRow rowOf at hdue
        simp only [Bool.not_eq_true', decide_eq_false_iff_not, Prod.mk.injEq] at hdue
        exact hdue
      have e1 : [f].filter dueRow = [f] := by simp [hdue]
      rw [e1]
      simp [Bo_eq, encL, hix, q1, q2, wEq_R3, h2, hr]
      rw [show W.tup [W.str f.1, W.str (wayS (lst f.2.here) f.2.stage), W.str (wayS f.2.stage f.2.work)] = encR3 (rowOf f) from rfl, ha]
      simp [h2]
    · have h2 : wayS (lst f.2.here) f.2.stage = "same" ∧ wayS f.2.stage f.2.work = "same" := by
        simpa [dueRow, rowOf] using hdue
      have e1 : [f].filter dueRow = [] := by simp [hdue]
      rw [e1]
      have h3 := h2.1
      have h4 := h2.2
      simp [Bo_eq, encL, hix, q1, q2, wEq_R3, h3, h4, hr]
      simp [encR3, rowOf, h3, h4]
  obtain ⟨ρ2, S2, e, rfl, a, b, c, d, e5, e6, rfl⟩ := q none none none none none none
  have hfin := fin_lst (r := 0) (S := [.lst (p.status.map encR3)]) rfl (under_R3s _ 0)
  simp [d_status, List.replicate] at e ⊢
  rw [e]
  simp [hfin]
theorem nbs_map {α : Type} (f : α → W) : ∀ l : List α, (∀ a ∈ l, (f a).nb = true) → nbs (l.map f) = true
  | [], _ => rfl
  | a :: l, h => by
    simp only [List.map_cons, nbs, Bool.and_eq_true]
    exact ⟨h a List.mem_cons_self, nbs_map f l fun b hb => h b (List.mem_cons_of_mem _ hb)⟩
theorem flats_map {α : Type} (f : α → W) (n : Nat) : ∀ l : List α, (∀ a ∈ l, (f a).flat n = true) → flats n (l.map f) = true
  | [], _ => by simp [flats]
  | a :: l, h => by
    simp only [List.map_cons, flats, Bool.and_eq_true]
    exact ⟨h a List.mem_cons_self, flats_map f n l fun b hb => h b (List.mem_cons_of_mem _ hb)⟩
theorem pn_R3s (l : List Row3) : Pn (.lst (l.map encR3)) := ⟨under_R3s l 0, nbs_map _ _ fun _ _ => rfl, flats_map encR3 29 _ fun _ _ => rfl⟩
theorem pn_nil : Pn (.lst []) := ⟨rfl, rfl, rfl⟩
/-- a fresh list of no items, as data -/
theorem wEq_ref {a : W} (ha : Pn a) {r : Nat} {ws : List W} {S : Sto} (hS : S[r]? = some (.lst ws)) (hw : Pn (.lst ws)) : wEq a (.ref r) S = some (decide (a = .lst ws), S) := by
  unfold wEq
  have : asData S (.ref r) = some (.lst ws) := by
    unfold asData
    rw [frz_lst hS hw.u]
    exact if_pos (flat_le _ (by decide) hw.f)
  rw [ha.data, this]
  simp [eqv_nb a (.lst ws) ha.b hw.b]
theorem a_is_clean {tb : Nat → Option Def} (hd : tb 52 = some d_is_clean) (h51 : tb 51 = some d_status) (h50 : tb 50 = some d_change) {p : Pr} (hp : p.ok) (hl : p.fs.length < 1000) : Ans tb 3 52 [encPr p] (.bl (decide (p.status = []))) := by
  refine ans_of (k := 2) (by simp [unders]) rfl fun n hn => ?_
  rw [callF_R hd rfl rfl]
  have q := a_status h51 h50 hp hl n hn [] rfl
  have q2 := wEq_ref (pn_R3s p.status) (r := 0) (S := [.lst []]) (ws := []) rfl pn_nil
  simp [Bo_eq, d_is_clean, List.replicate, q, q2]
def Pr.blocking (p : Pr) : List Str := (p.fs.filter fun f => f.2.refuses).map Prod.fst
theorem a_blocking {tb : Nat → Option Def} (hd : tb 53 = some d_blocking) (h40 : tb 40 = some d_refuses) {p : Pr} (hp : p.ok) : Ans tb 2 53 [encPr p] (.lst (p.blocking.map .str)) := by
  refine ans_of (k := 1) (by simp [unders]) (by simp) fun n hn => ?_
  rw [callF_R hd rfl rfl]
  simp [Bo_eq, d_blocking, List.replicate]
  rw [compL_filter rfl encF (fun f => .str f.1) (fun f => f.2.refuses)]
  · have hu : unders 0 (p.blocking.map .str) = true := unders_map _ _ _ fun _ _ => rfl
    simp [Pr.blocking] at hu ⊢
  · intro f hf
    have q := a_refuses h40 (hp.pl hf) n hn [] rfl
    simp [tn, P.put, wipeR, Bo_eq, encF_eq]
    rw [show W.tup [encL f.2.here, encL f.2.there, encC f.2.stage, encC f.2.work] = encPl f.2 from rfl, q]
    cases f.2.refuses <;> rfl
theorem a_way {tb : Nat → Option Def} (hd : tb 59 = some d_law_way) (a b : Cn) : Ans tb 1 59 [encC a, encC b] (.str (wayS a b)) := by
  refine ans_of (k := 0) (by simp [unders]) rfl fun n _ => ?_
  rw [callF_R hd rfl rfl]
  simp [Bo_eq, List.replicate, encPl, encL, encF, encPr, d_law_way]
  unfold wayS
  repeat' split
  all_goals simp_all
end TZ

set_option Elab.async false
set_option linter.all false
set_option maxRecDepth 100000
set_option maxHeartbeats 4000000
/-! P10: the tape of draws; what is alike. -/
namespace TZ
open PySem
theorem atOf_mod {ns : List Int} (h : 0 < ns.length) (i : Int) : ∃ v, atOf (ns.map W.int) (i % (ns.length : Int)) = some (.int v) := by
  have h1 := Int.emod_nonneg i (show (ns.length : Int) ≠ 0 by omega)
  have h2 := Int.emod_lt_of_pos i (show (0 : Int) < (ns.length : Int) by omega)
  have h3 : (i % (ns.length : Int)).toNat < ns.length := by omega
  refine ⟨ns[(i % (ns.length : Int)).toNat], ?_⟩
  unfold atOf ixOf
  rw [List.length_map, if_pos h1, if_pos h2]
  simp only [List.getElem?_map, List.getElem?_eq_getElem h3, Option.map_some]
theorem modb (x : Int) : -bigN < x % 2305843009213693951 ∧ x % 2305843009213693951 < bigN := by
  unfold bigN
  have h1 := Int.emod_nonneg x (show (2305843009213693951 : Int) ≠ 0 by decide)
  have h2 := Int.emod_lt_of_pos x (show (0 : Int) < 2305843009213693951 by decide)
  omega
theorem at3_0 (a b c : W) : atOf [a, b, c] 0 = some a := rfl
theorem at3_1 (a b c : W) : atOf [a, b, c] 1 = some b := rfl
theorem at3_2 (a b c : W) : atOf [a, b, c] 2 = some c := rfl
theorem ix3_1 : ixOf 3 1 = some 1 := rfl
theorem ix3_2 : ixOf 3 2 = some 2 := rfl
/-- the tape's store: the cells, the tape -/
def tp (ns : List Int) (i c : Int) (rest : Sto) : Sto := .lst (ns.map .int) :: .lst [.ref 0, .int i, .int c] :: rest
section
variable {gc : Nat → W} {tb : Nat → Option Def} {n : Nat} {ns : List Int} {i c many v : Int} {rest : Sto}
theorem draw_a (hm : 0 < many) (hm2 : many < bigN) (hc : c < many) (hl : 0 < ns.length)
    (hv : atOf (ns.map W.int) (i % (ns.length : Int)) = some (.int v)) (hg1 : ¬ (ns.length : Int) ≤ i) (hg2 : ¬ v < 1000000000000000000) :
    ∃ ρ', run gc (callF gc tb n) d_law_draw.body [some (.ref 1), some (.int many), none, none, none] (tp ns i c rest) = some (.ret (.int (v % many)), ρ', tp ns (i + 1) (v / many) rest) := by
  have hl2 : (0 : Int) < (ns.length : Int) := by omega
  refine ⟨[some (.ref 1), some (.int many), some (.int 2305843009213693951), some (.int v), some (.int (v % many))], ?_⟩
  unfold tp
  simp [d_law_draw, run, den, bA, pA, rA1, rhoAt, T.put, truth, wCmp, wLt, wGt, wGe, wIx, dictOf, seqOf, listOf, wBlt, bLen, wBin, wMod, wFdiv, wMul, wAdd, wPow, wSub, wSet, hl, hl2, hg1, hg2, hc, hm, hm2, hv, List.length_map, at3_0, at3_1, at3_2, ix3_1, ix3_2]


def mix (v i : Int) : Int :=
  let a := (v + 1000003 * i) % 2305843009213693951
  let b := (a * a + 1181783497276652981 * a + 2049848353892358983) % 2305843009213693951
  (b * b + 1442695040888963407) % 2305843009213693951
theorem draw_b (hm : 0 < many) (hm2 : many < bigN) (hc : c < many) (hl : 0 < ns.length)
    (hv : atOf (ns.map W.int) (i % (ns.length : Int)) = some (.int v)) (hg : (ns.length : Int) ≤ i ∨ v < 1000000000000000000) :
    ∃ ρ', run gc (callF gc tb n) d_law_draw.body [some (.ref 1), some (.int many), none, none, none] (tp ns i c rest) = some (.ret (.int (mix v i % many)), ρ', tp ns (i + 1) (mix v i / many) rest) := by
  have hl2 : (0 : Int) < (ns.length : Int) := by omega
  refine ⟨[some (.ref 1), some (.int many), some (.int 2305843009213693951), some (.int (mix v i)), some (.int (mix v i % many))], ?_⟩
  unfold tp mix
  have b1 := modb (v + 1000003 * i)
  have b2 := modb ((v + 1000003 * i) % 2305843009213693951 * ((v + 1000003 * i) % 2305843009213693951) + 1181783497276652981 * ((v + 1000003 * i) % 2305843009213693951) + 2049848353892358983)
  generalize hx1 : (v + 1000003 * i) % 2305843009213693951 = x1 at b1 b2
  generalize hx2 : (x1 * x1 + 1181783497276652981 * x1 + 2049848353892358983) % 2305843009213693951 = x2 at b2
  have c1 : -bigN < 1000003 ∧ (1000003 : Int) < bigN := by decide
  have c2 : -bigN < 1181783497276652981 ∧ (1181783497276652981 : Int) < bigN := by decide
  by_cases hg1 : (ns.length : Int) ≤ i
  · simp [d_law_draw, run, den, bA, pA, rA1, rhoAt, T.put, truth, wCmp, wLt, wGt, wGe, wIx, dictOf, seqOf, listOf, wBlt, bLen, wBin, wMod, wFdiv, wMul, wAdd, wPow, wSub, wSet, hc, hm, hm2, List.length_map, at3_0, at3_1, at3_2, ix3_1, ix3_2, hl, hl2, hg1, hv, hx1, hx2, b1, b2, c1, c2]
  · have hg2 : v < 1000000000000000000 := by omega
    simp [d_law_draw, run, den, bA, pA, rA1, rhoAt, T.put, truth, wCmp, wLt, wGt, wGe, wIx, dictOf, seqOf, listOf, wBlt, bLen, wBin, wMod, wFdiv, wMul, wAdd, wPow, wSub, wSet, hc, hm, hm2, List.length_map, at3_0, at3_1, at3_2, ix3_1, ix3_2, hl, hl2, hg1, hg2, hv, hx1, hx2, b1, b2, c1, c2]
theorem draw_c (hm : 0 < many) (hm2 : many < bigN) (hc : c < many) (hl : ns = []) :
    ∃ ρ', run gc (callF gc tb n) d_law_draw.body [some (.ref 1), some (.int many), none, none, none] (tp ns i c rest) = some (.ret (.int (mix 0 i % many)), ρ', tp ns (i + 1) (mix 0 i / many) rest) := by
  subst hl
  refine ⟨[some (.ref 1), some (.int many), some (.int 2305843009213693951), some (.int (mix 0 i)), some (.int (mix 0 i % many))], ?_⟩
  unfold tp mix
  have b1 := modb (1000003 * i)
  have b2 := modb ((1000003 * i) % 2305843009213693951 * ((1000003 * i) % 2305843009213693951) + 1181783497276652981 * ((1000003 * i) % 2305843009213693951) + 2049848353892358983)
  rw [Int.zero_add]
  generalize hx1 : (1000003 * i) % 2305843009213693951 = x1 at b1 b2
  generalize hx2 : (x1 * x1 + 1181783497276652981 * x1 + 2049848353892358983) % 2305843009213693951 = x2 at b2
  have c1 : -bigN < 1000003 ∧ (1000003 : Int) < bigN := by decide
  have c2 : -bigN < 1181783497276652981 ∧ (1181783497276652981 : Int) < bigN := by decide
  by_cases hg1 : (0 : Int) ≤ i
  · simp [d_law_draw, run, den, bA, pA, rA1, rhoAt, T.put, truth, wCmp, wLt, wGt, wGe, wIx, dictOf, seqOf, listOf, wBlt, bLen, wBin, wMod, wFdiv, wMul, wAdd, wPow, wSub, wSet, hc, hm, hm2, List.length_map, at3_0, at3_1, at3_2, ix3_1, ix3_2, hg1, hx1, hx2, b1, b2, c1, c2]
  · simp [d_law_draw, run, den, bA, pA, rA1, rhoAt, T.put, truth, wCmp, wLt, wGt, wGe, wIx, dictOf, seqOf, listOf, wBlt, bLen, wBin, wMod, wFdiv, wMul, wAdd, wPow, wSub, wSet, hc, hm, hm2, List.length_map, at3_0, at3_1, at3_2, ix3_1, ix3_2, hg1, hx1, hx2, b1, b2, c1, c2]
theorem draw_d (hm : 0 < many) (hm2 : many < bigN) (hc : ¬ c < many) :
    ∃ ρ', run gc (callF gc tb n) d_law_draw.body [some (.ref 1), some (.int many), none, none, none] (tp ns i c rest) = some (.ret (.int (c % many)), ρ', tp ns i (c / many) rest) := by
  refine ⟨[some (.ref 1), some (.int many), some (.int 2305843009213693951), none, some (.int (c % many))], ?_⟩
  unfold tp
  simp [d_law_draw, run, den, bA, pA, rA1, rhoAt, T.put, truth, wCmp, wLt, wGt, wGe, wIx, dictOf, seqOf, listOf, wBlt, bLen, wBin, wMod, wFdiv, wMul, wAdd, wPow, wSub, wSet, hc, hm, hm2, List.length_map, at3_0, at3_1, at3_2, ix3_1, ix3_2]
/-- a draw: some number below many; the tape goes on -/
theorem draw_any (hm : 0 < many) (hm2 : many < bigN) : ∃ ρ' d i' c', run gc (callF gc tb n) d_law_draw.body [some (.ref 1), some (.int many), none, none, none] (tp ns i c rest) = some (.ret (.int d), ρ', tp ns i' c' rest) ∧ 0 ≤ d ∧ d < many := by
  have hb : ∀ x : Int, 0 ≤ x % many ∧ x % many < many := fun x => ⟨Int.emod_nonneg x (by omega), Int.emod_lt_of_pos x hm⟩
  by_cases hc : c < many
  · cases ns with
    | nil =>
      obtain ⟨ρ', h⟩ := draw_c (gc := gc) (tb := tb) (n := n) (ns := []) (i := i) (rest := rest) hm hm2 hc rfl
      exact ⟨ρ', _, _, _, h, hb _⟩
    | cons a as =>
      have hl : 0 < (a :: as).length := by simp
      obtain ⟨v, hv⟩ := atOf_mod hl i
      by_cases hg : ((a :: as).length : Int) ≤ i ∨ v < 1000000000000000000
      · obtain ⟨ρ', h⟩ := draw_b (gc := gc) (tb := tb) (n := n) (rest := rest) hm hm2 hc hl hv hg
        exact ⟨ρ', _, _, _, h, hb _⟩
      · rw [not_or] at hg
        obtain ⟨ρ', h⟩ := draw_a (gc := gc) (tb := tb) (n := n) (rest := rest) hm hm2 hc hl hv hg.1 hg.2
        exact ⟨ρ', _, _, _, h, hb _⟩
  · obtain ⟨ρ', h⟩ := draw_d (gc := gc) (tb := tb) (n := n) (ns := ns) (i := i) (rest := rest) hm hm2 hc
    exact ⟨ρ', _, _, _, h, hb _⟩
end


/-! ### a draw, as a call -/
/-- nothing behind the tape means a place that is not there -/
def wfR (rest : Sto) : Prop := ∀ o ∈ rest, o.under (rest.length + 2) = true
theorem unders_ints (n : Nat) (ns : List Int) : unders n (ns.map W.int) = true := unders_map _ _ _ fun _ _ => rfl
theorem wf_tp {ns : List Int} {i c : Int} {rest : Sto} (h : wfR rest) : wf (tp ns i c rest) = true := by
  unfold wf tp
  rw [List.all_eq_true]
  intro o ho
  simp only [List.mem_cons] at ho
  rcases ho with rfl | rfl | ho
  · exact unders_ints _ _
  · simp [Ob.under, W.under]
  · have := h o ho
    simpa using this
theorem finish_at {w : W} {S S' : Sto} (hw : w.under 0 = true) (hS : wf S = true) (h : S'.take S.length = S) : finish false S.length w S' = some (w, S) := by
  rw [finish_no hw, h]
  rw [h]
  unfold underAll
  exact hS
theorem finish_tp {w : W} {ns : List Int} {i c i' c' : Int} {rest : Sto} (more : Sto) (hw : w.under 0 = true) (h : wfR rest) : finish false (tp ns i c rest).length w (tp ns i' c' (rest ++ more)) = some (w, tp ns i' c' rest) := by
  have e : (tp ns i c rest).length = (tp ns i' c' rest).length := rfl
  rw [e]
  refine finish_at hw (wf_tp h) ?_
  have e2 : tp ns i' c' (rest ++ more) = tp ns i' c' rest ++ more := rfl
  rw [e2]
  simp
theorem a_draw {tb : Nat → Option Def} (hd : tb 0 = some d_law_draw) {n : Nat} (hn : 1 ≤ n) {many : Int} (hm : 0 < many) (hm2 : many < bigN) (ns : List Int) (i c : Int) {rest : Sto} (hr : wfR rest) : ∃ d i' c', callF gc0 tb n 0 [.ref 1, .int many] (tp ns i c rest) = some (.int d, tp ns i' c' rest) ∧ 0 ≤ d ∧ d < many := by
  cases n with
  | zero => omega
  | succ n =>
    obtain ⟨ρ', d, i', c', h, h1, h2⟩ := draw_any (gc := gc0) (tb := tb) (n := n) (ns := ns) (i := i) (c := c) (rest := rest) hm hm2
    refine ⟨d, i', c', ?_, h1, h2⟩
    rw [callF_R hd rfl rfl]
    have h' : R (callF gc0 tb n) d_law_draw.body (List.map some [W.ref 1, W.int many] ++ List.replicate (d_law_draw.slots - [W.ref 1, W.int many].length) none) (tp ns i c rest) = some (.ret (.int d), ρ', tp ns i' c' rest) := h
    rw [h']
    have := finish_tp (ns := ns) (i := i) (c := c) (i' := i') (c' := c') [] (w := .int d) rfl hr
    rw [List.append_nil] at this
    exact this
/-! ### alike -/
/-- alike to itself -/
def LkS (tb : Nat → Option Def) (k : Nat) (x y : W) (S : Sto) : Prop := ∀ n, k ≤ n → callF gc0 tb n 1 [x, y] S = some (.bl true, S)
theorem like_leaf {tb : Nat → Option Def} (hd : tb 1 = some d_law_like) {v : W} (h : v.leaf = true) {S : Sto} (hS : wf S = true) : LkS tb 1 v v S := by
  intro n hn
  cases n with
  | zero => omega
  | succ n =>
    rw [callF_R hd rfl rfl]
    have hfin : ∀ b : Bool, finish false S.length (.bl b) S = some (.bl b, S) := fun b => finish_at rfl hS (by simp)
    cases v with
    | non =>
      have e : ∀ S, wEq .non .non S = some (true, S) := fun S => by rw [wEq_pn ⟨rfl, rfl, rfl⟩ ⟨rfl, rfl, rfl⟩]; simp
      simp [Bo_eq, d_law_like, List.replicate, wIsi, hfin, e]
    | _ => first | (simp [Bo_eq, d_law_like, List.replicate, wIsi, hfin]; done) | (simp [W.leaf] at h)
theorem like_seq {tb : Nat → Option Def} (hd : tb 1 = some d_law_like) {x y : W} {ws : List W} {S : Sto} (hS : wf S = true) {k : Nat} (hxy : (x = .tup ws ∧ y = .tup ws) ∨ (listOf S x = some ws ∧ listOf S y = some ws)) (hl : ws.length ≤ 4000000) (h : ∀ w ∈ ws, LkS tb k w w S) : LkS tb (k + 1) x y S := by
  intro n hn
  cases n with
  | zero => omega
  | succ n =>
    rw [callF_R hd rfl rfl]
    have hcomp : ∀ (hx : ∀ i : Nat, i < ws.length → ∃ w ∈ ws, wIx x (.int i) S = some (w, S) ∧ wIx y (.int i) S = some (w, S)), compL [] (tn (callF gc0 tb n) (.nm 2) [2] [some x, some y, none] (.not (.call 1 (.cons (.ix (.var 0) (.var 2)) (.cons (.ix (.var 1) (.var 2)) .nil)))) (.var 2)) ((List.range ws.length).map fun (i : Nat) => W.int (Int.ofNat i)) S = some ([], S) := by
      intro hx
      rw [compL_filter rfl (fun (i : Nat) => W.int (Int.ofNat i)) (fun (i : Nat) => W.int (Int.ofNat i)) (fun _ => false)]
      · simp
      · intro i hi
        obtain ⟨w, hw, e1, e2⟩ := hx i (List.mem_range.mp hi)
        have q := h w hw n (by omega)
        simp [tn, P.put, wipeR, Bo_eq, e1, e2, q]
    have hrng : wRng1 (.int (ws.length : Int)) S = some (((List.range ws.length).map fun (i : Nat) => W.int (Int.ofNat i), []), S) := by
      unfold wRng1
      simp only
      rw [if_pos (by omega)]
      simp
    have heq : wEq (.lst []) (.ref S.length) (S ++ [.lst []]) = some (true, S ++ [.lst []]) := by
      have e : (S ++ [Ob.lst []])[S.length]? = some (.lst []) := by simp
      rw [wEq_ref pn_nil e pn_nil]
      simp
    have hfin : finish false S.length (.bl true) (S ++ [.lst []]) = some (.bl true, S) := finish_at rfl hS (by simp)
    have hat : ∀ i : Nat, i < ws.length → atOf ws (i : Int) = some (ws[i]?.getD .non) ∧ ws[i]?.getD .non ∈ ws := by
      intro i hi
      unfold atOf ixOf
      rw [if_pos (by omega), if_pos (by omega)]
      simp [hi]
    rcases hxy with ⟨rfl, rfl⟩ | ⟨hx, hy⟩
    · have hx : ∀ i : Nat, i < ws.length → ∃ w ∈ ws, wIx (.tup ws) (.int i) S = some (w, S) ∧ wIx (.tup ws) (.int i) S = some (w, S) := by
        intro i hi
        obtain ⟨e1, e2⟩ := hat i hi
        exact ⟨_, e2, by simp [e1], by simp [e1]⟩
      have hc := hcomp hx
      have hisi : ∀ k : Kinds, wIsi k (.tup ws) S = some (k.tuple, S) := fun k => rfl
      simp [Bo_eq, d_law_like, List.replicate, hisi, hrng] at hc ⊢
      rw [hc]
      simp [heq, hfin]
    · have hd0 : ∀ z, listOf S z = some ws → dictOf S z = none ∧ seqOf S z = some ws := by
        intro z hz
        cases z with
        | lst us => exact ⟨rfl, hz⟩
        | ref r =>
          refine ⟨?_, hz⟩
          unfold listOf at hz
          unfold dictOf
          cases e : S[r]? with
          | none => simp [e] at hz
          | some o => cases o <;> simp [e] at hz ⊢
        | _ => simp [listOf] at hz
      have hz : ∀ z, listOf S z = some ws → ∀ i : Nat, i < ws.length → wIx z (.int i) S = some (ws[i]?.getD .non, S) := by
        intro z hz i hi
        obtain ⟨e1, e2⟩ := hat i hi
        obtain ⟨d1, d2⟩ := hd0 z hz
        cases z <;> first | (simp [listOf] at hz; done) | (unfold wIx; simp only [d1, d2, e1])
      have hc := hcomp fun i hi => ⟨_, (hat i hi).2, hz x hx i hi, hz y hy i hi⟩
      have hisi : ∀ z, listOf S z = some ws → ∀ k : Kinds, wIsi k z S = some (k.list, S) := by
        intro z hz k
        cases z <;> first | (simp [listOf] at hz; done) | (unfold wIsi; simp only [hz])
      have hlen : ∀ z, listOf S z = some ws → wBlt .len [z] S = some (.int ws.length, S) := by
        intro z hz
        obtain ⟨d1, d2⟩ := hd0 z hz
        cases z <;> first | (simp [listOf] at hz; done) | (simp only [wBlt, bLen, d2])
      have i1 := hisi x hx
      have i2 := hisi y hy
      have l1 := hlen x hx
      have l2 := hlen y hy
      simp [Bo_eq, d_law_like, List.replicate, i1, i2, l1, l2, hrng] at hc ⊢
      rw [hc]
      simp [heq, hfin]
end TZ

set_option Elab.async false
set_option linter.all false
set_option maxRecDepth 100000
set_option maxHeartbeats 4000000
/-! P11: drawn contents, files, projects. -/
namespace TZ
open PySem
/-! ### the store behind the tape -/
section
variable {ns : List Int} {i c : Int} {rest : Sto}
@[simp] theorem tp_app (more : Sto) : tp ns i c rest ++ more = tp ns i c (rest ++ more) := rfl
@[simp] theorem tp_len : (tp ns i c rest).length = rest.length + 2 := rfl
@[simp] theorem tp_get (k : Nat) : (tp ns i c rest)[k + 2]? = rest[k]? := rfl
@[simp] theorem tp_set (k : Nat) (o : Ob) : (tp ns i c rest).set (k + 2) o = tp ns i c (rest.set k o) := rfl
theorem wfR_app {more : Sto} (h : wfR rest) (hm : ∀ o ∈ more, o.under 0 = true) : wfR (rest ++ more) := by
  intro o ho
  rcases List.mem_append.mp ho with h1 | h1
  · exact obUnder_le (by simp) o (h o h1)
  · exact obUnder_le (Nat.zero_le _) o (hm o h1)
theorem get_app0 (a : Ob) (more : Sto) : (rest ++ a :: more)[rest.length]? = some a := by simp
theorem get_app1 (a b : Ob) (more : Sto) : (rest ++ a :: b :: more)[rest.length + 1]? = some b := by
  rw [List.getElem?_append_right (by omega)]
  simp
theorem set_app0 (a b : Ob) (more : Sto) : (rest ++ a :: more).set rest.length b = rest ++ b :: more := by simp
theorem set_app1 (a b o : Ob) (more : Sto) : (rest ++ a :: b :: more).set (rest.length + 1) o = rest ++ a :: o :: more := by
  rw [List.set_append_right _ _ (by omega)]
  simp
end
theorem atOf_lt {α : Type} {l : List α} {d : Int} (h1 : 0 ≤ d) (h2 : d < l.length) : ∃ x ∈ l, atOf l d = some x := by
  unfold atOf ixOf
  rw [if_pos h1, if_pos h2]
  have h3 : d.toNat < l.length := by omega
  exact ⟨l[d.toNat], List.getElem_mem h3, by simp [h3]⟩
theorem wIx_ref {S : Sto} {r : Nat} {ws : List W} (hS : S[r]? = some (.lst ws)) (i : Int) : wIx (.ref r) (.int i) S = match atOf ws i with | some w => some (w, S) | none => none := by
  unfold wIx
  simp only [dictOf, seqOf, listOf, hS]
  try rfl
def contents : List Cn := [none, some 1, some 2, some 3, some 1000000]
/-- drawn: some value of the kind, and the tape goes on -/
def Drawn {α : Type} (tb : Nat → Option Def) (k f : Nat) (args : List W) (enc : α → W) (P : α → Prop) (R : Sto → Prop) : Prop := ∀ n, k ≤ n → ∀ ns i c rest, wfR rest → R rest → ∃ v i' c', callF gc0 tb n f (.ref 1 :: args) (tp ns i c rest) = some (enc v, tp ns i' c' rest) ∧ P v
@[simp] theorem pow6 (S : Sto) : wBin .pow (.int 10) (.int 6) S = some (.int 1000000, S) := by
  simp [wBin, wPow]
theorem a_content {tb : Nat → Option Def} (hd : tb 9 = some d_law_content) (h0 : tb 0 = some d_law_draw) : Drawn tb 2 9 [] encC (fun v => v ∈ contents) (fun _ => True) := by
  intro n hn ns i c rest hr _
  cases n with
  | zero => omega
  | succ n =>
    have hr2 : wfR (rest ++ [.lst [.non, .int 1, .int 2, .int 1, .int 3, .int 1000000]]) := wfR_app hr (by simp [Ob.under])
    obtain ⟨d, i', c', e, h1, h2⟩ := a_draw h0 (n := n) (by omega) (many := 6) (by decide) (by decide) ns i c hr2
    obtain ⟨x, hx, e2⟩ := atOf_lt (l := [none, some 1, some 2, some 1, some 3, some 1000000].map encC) h1 (by simpa using h2)
    obtain ⟨v, hv, rfl⟩ := List.mem_map.mp hx
    refine ⟨v, i', c', ?_, ?_⟩
    · rw [callF_R hd rfl rfl]
      have e3 := wIx_ref (S := tp ns i' c' (rest ++ [.lst [.non, .int 1, .int 2, .int 1, .int 3, .int 1000000]])) (r := rest.length + 2) (ws := [.non, .int 1, .int 2, .int 1, .int 3, .int 1000000]) ((tp_get _).trans (get_app0 _ [])) d
      simp at e2
      rw [e2] at e3
      have hfin := finish_tp (ns := ns) (i := i) (c := c) (i' := i') (c' := c') [.lst [.non, .int 1, .int 2, .int 1, .int 3, .int 1000000]] (under_C v 0) hr
      simp at hfin
      simp [d_law_content, List.replicate, e, e3, hfin]
    · simp only [List.mem_cons, List.not_mem_nil, or_false] at hv
      rcases hv with rfl | rfl | rfl | rfl | rfl | rfl <;> simp [contents]
/-- a content picked from a row of four -/
theorem pick4 {S : Sto} {r : Nat} {a b c d : Cn} (hS : S[r]? = some (.lst [encC a, encC b, encC c, encC d])) {k : Int} (h1 : 0 ≤ k) (h2 : k < 4) : ∃ v, v ∈ [a, b, c, d] ∧ wIx (.ref r) (.int k) S = some (encC v, S) := by
  obtain ⟨x, hx, e2⟩ := atOf_lt (l := [a, b, c, d].map encC) h1 (by simpa using h2)
  obtain ⟨v, hv, rfl⟩ := List.mem_map.mp hx
  refine ⟨v, hv, ?_⟩
  rw [wIx_ref hS]
  simp at e2
  rw [e2]
end TZ

set_option Elab.async false
set_option linter.all false
set_option maxRecDepth 100000
set_option maxHeartbeats 4000000
/-! P12: a drawn file. -/
namespace TZ
open PySem
theorem rng1_nat {n : Nat} (h : n ≤ 4000000) (S : Sto) : wRng1 (.int n) S = some (((List.range n).map fun (i : Nat) => W.int (Int.ofNat i), []), S) := by
  unfold wRng1
  simp only
  rw [if_pos (by omega)]
  simp
theorem atLst_last {r : Nat} {l : List Cn} {S : Sto} (hS : S[r]? = some (.lst (l.map encC))) (h : l ≠ []) : wIx (.ref r) (.int (-1)) S = some (encC (lst l), S) := by
  rw [wIx_ref hS, atL_last h]
theorem lst_mem {l : List Cn} (h : l ≠ []) : lst l ∈ l := by
  unfold lst
  cases e : l.getLast? with
  | none => rw [List.getLast?_eq_none_iff] at e; exact absurd e h
  | some x => exact List.mem_of_getLast? e
/-- all of the kind -/
def cons_ (l : List Cn) : Prop := ∀ x ∈ l, x ∈ contents
theorem cons_app {l : List Cn} (h : cons_ l) {v : Cn} (hv : v ∈ contents) : cons_ (l ++ [v]) := by
  intro x hx
  rcases List.mem_append.mp hx with h1 | h1
  · exact h x h1
  · simp only [List.mem_cons, List.not_mem_nil, or_false] at h1
    exact h1 ▸ hv
section
variable {tb : Nat → Option Def} {n : Nat} {ns : List Int} {rest : Sto}
/-- two lists at work, behind the tape -/
abbrev two (rest : Sto) (a b : List Cn) (more : Sto) : Sto := rest ++ .lst (a.map encC) :: .lst (b.map encC) :: more
theorem wfR_two (hr : wfR rest) (a b : List Cn) {more : Sto} (hm : ∀ o ∈ more, o.under 0 = true) : wfR (two rest a b more) := by
  refine wfR_app hr ?_
  intro o ho
  simp only [List.mem_cons] at ho
  rcases ho with rfl | rfl | ho
  · exact under_L' a 0
  · exact under_L' b 0
  · exact hm o ho
theorem two_a (i c : Int) (a b : List Cn) (more : Sto) : (tp ns i c (two rest a b more))[rest.length + 2]? = some (.lst (a.map encC)) := (tp_get _).trans (get_app0 _ _)
theorem two_b (i c : Int) (a b : List Cn) (more : Sto) : (tp ns i c (two rest a b more))[rest.length + 1 + 2]? = some (.lst (b.map encC)) := (tp_get _).trans (get_app1 _ _ _)
theorem two_more (i c : Int) (a b : List Cn) (o : Ob) (more : Sto) : (tp ns i c (two rest a b (o :: more)))[rest.length + 2 + 2]? = some o := by
  rw [tp_get, List.getElem?_append_right (by omega)]
  simp
theorem add_a {i c : Int} {a b : List Cn} {more : Sto} (h : a.length < 1000) (v : Cn) : wMth .append (.ref (rest.length + 2)) [encC v] (tp ns i c (two rest a b more)) = some (.non, tp ns i c (two rest (a ++ [v]) b more)) := by
  rw [append_ok (two_a i c a b more) (by simp; omega), tp_set, set_app0]
  simp [two]
theorem add_b {i c : Int} {a b : List Cn} {more : Sto} (h : b.length < 1000) (v : Cn) : wMth .append (.ref (rest.length + 1 + 2)) [encC v] (tp ns i c (two rest a b more)) = some (.non, tp ns i c (two rest a (b ++ [v]) more)) := by
  rw [append_ok (two_b i c a b more) (by simp; omega), tp_set, set_app1]
  simp [two]
def rhoF (rest : Sto) (name : Str) (here there : Nat) (y a b : Option W) : Rho := [some (.ref 1), some (.str name), some (.int here), some (.int there), some (.ref (rest.length + 2)), some (.ref (rest.length + 1 + 2)), y, a, b]
theorem file_loop1 (h9 : tb 9 = some d_law_content) (h0 : tb 0 = some d_law_draw) (hn : 2 ≤ n) (hr : wfR rest) (name : Str) {here there : Nat} (h1 : here < 1000) (i c : Int) (y : Option W) : ∃ ρ2 S2, forL [] (.nm 6) (fun ρ S => R (callF gc0 tb n) (.expr (.mth .append (.var 4) (.cons (.call 9 (.cons (.var 0) .nil)) .nil))) ρ S) ((List.range here).map fun (i : Nat) => W.int (Int.ofNat i)) (rhoF rest name here there y none none) (tp ns i c (two rest [] [] [])) = some (.nx, ρ2, S2) ∧ ∃ i c a y, S2 = tp ns i c (two rest a [] []) ∧ a.length = here ∧ cons_ a ∧ ρ2 = rhoF rest name here there y none none := by
  have key : ∀ (d : List Nat) (z : Nat) (r : List Nat) (ρ : Rho) (S : Sto), List.range here = d ++ z :: r → (fun d ρ S => ∃ i c a y, S = tp ns i c (two rest a [] []) ∧ a.length = d.length ∧ cons_ a ∧ ρ = rhoF rest name here there y none none) d ρ S → ∃ ρ', P.put (.nm 6) (W.int (Int.ofNat z)) ρ = some ρ' ∧ ∃ ρ2 S2, (fun ρ S => R (callF gc0 tb n) (.expr (.mth .append (.var 4) (.cons (.call 9 (.cons (.var 0) .nil)) .nil))) ρ S) ρ' S = some (.nx, ρ2, S2) ∧ (fun d ρ S => ∃ i c a y, S = tp ns i c (two rest a [] []) ∧ a.length = d.length ∧ cons_ a ∧ ρ = rhoF rest name here there y none none) (d ++ [z]) ρ2 S2 := by
    rintro d k r ρ S e ⟨i, c, a, y, rfl, hl, ha, rfl⟩
    have hd : a.length < 1000 := by
      have := congrArg List.length e
      simp at this; omega
    obtain ⟨v, i', c', e1, hv⟩ := a_content h9 h0 n hn ns i c _ (wfR_two hr a [] (more := []) (fun o h => (by cases h))) trivial
    refine ⟨_, rfl, rhoF rest name here there (some (.int (Int.ofNat k))) none none, tp ns i' c' (two rest (a ++ [v]) [] []), ?_, i', c', a ++ [v], _, rfl, by simp [hl], cons_app ha hv, rfl⟩
    have e2 := recv_append (two_a (ns := ns) (rest := rest) i c a [] [])
    have e3 := add_a (ns := ns) (rest := rest) (i := i') (c := c') (b := []) (more := []) hd v
    simp only [R_expr, V_mth, rhoF, List.set_cons_succ, List.set_cons_zero, V_var, rhoS, rho0, ob_some, Vs_cons, Vs_nil, V_call, e2, e1, e3]
  obtain ⟨ρ2, S2, e, hi⟩ := forL_pre (f := fun ρ S => R (callF gc0 tb n) (.expr (.mth .append (.var 4) (.cons (.call 9 (.cons (.var 0) .nil)) .nil))) ρ S) (t := .nm 6) (src := []) (fun d ρ S => ∃ i c a y, S = tp ns i c (two rest a [] []) ∧ a.length = d.length ∧ cons_ a ∧ ρ = rhoF rest name here there y none none) (fun (i : Nat) => W.int (Int.ofNat i)) (fun _ _ _ _ => rfl) (List.range here) key (ρ := rhoF rest name here there y none none) (S := tp ns i c (two rest [] [] [])) ⟨i, c, [], y, rfl, rfl, fun x h => (by cases h), rfl⟩
  obtain ⟨i, c, a, y, h2, h3, h4, h5⟩ := hi
  exact ⟨ρ2, S2, e, i, c, a, y, h2, by rw [h3, List.length_range], h4, h5⟩
def body2 : C := .expr (.mth .append (.var 5) (.cons (.ifx (.cmp .eq (.call 0 (.cons (.var 0) (.cons (.int 2) .nil))) (.int 0)) (.call 9 (.cons (.var 0) .nil)) (.ix (.var 4) (.int (-1)))) .nil))
theorem file_loop2 (h9 : tb 9 = some d_law_content) (h0 : tb 0 = some d_law_draw) (hn : 2 ≤ n) (hr : wfR rest) (name : Str) {here there : Nat} (h1 : there < 1000) {a : List Cn} (ha : a ≠ []) (hca : cons_ a) (i c : Int) (y : Option W) : ∃ ρ2 S2, forL [] (.nm 6) (fun ρ S => R (callF gc0 tb n) body2 ρ S) ((List.range there).map fun (i : Nat) => W.int (Int.ofNat i)) (rhoF rest name here there y none none) (tp ns i c (two rest a [] [])) = some (.nx, ρ2, S2) ∧ ∃ i c b y, S2 = tp ns i c (two rest a b []) ∧ b.length = there ∧ cons_ b ∧ ρ2 = rhoF rest name here there y none none := by
  have key : ∀ (d : List Nat) (z : Nat) (r : List Nat) (ρ : Rho) (S : Sto), List.range there = d ++ z :: r → (fun d ρ S => ∃ i c b y, S = tp ns i c (two rest a b []) ∧ b.length = d.length ∧ cons_ b ∧ ρ = rhoF rest name here there y none none) d ρ S → ∃ ρ', P.put (.nm 6) (W.int (Int.ofNat z)) ρ = some ρ' ∧ ∃ ρ2 S2, (fun ρ S => R (callF gc0 tb n) body2 ρ S) ρ' S = some (.nx, ρ2, S2) ∧ (fun d ρ S => ∃ i c b y, S = tp ns i c (two rest a b []) ∧ b.length = d.length ∧ cons_ b ∧ ρ = rhoF rest name here there y none none) (d ++ [z]) ρ2 S2 := by
    rintro d k r ρ S e ⟨i, c, b, y, rfl, hl, hb, rfl⟩
    have hd : b.length < 1000 := by
      have := congrArg List.length e
      simp at this; omega
    have hw := wfR_two hr a b (more := []) (fun o h => (by cases h))
    obtain ⟨q, i1, c1, e0, h2, h3⟩ := a_draw h0 (n := n) (by omega) (many := 2) (by decide) (by decide) ns i c hw
    have e2 := recv_append (two_b (ns := ns) (rest := rest) i c a b [])
    by_cases hq : q = 0
    · obtain ⟨v, i', c', e1, hv⟩ := a_content h9 h0 n hn ns i1 c1 _ hw trivial
      refine ⟨_, rfl, rhoF rest name here there (some (.int (Int.ofNat k))) none none, tp ns i' c' (two rest a (b ++ [v]) []), ?_, i', c', b ++ [v], _, rfl, by simp [hl], cons_app hb hv, rfl⟩
      have e3 := add_b (ns := ns) (rest := rest) (i := i') (c := c') (a := a) (more := []) hd v
      simp [body2, rhoF, Bo_eq, e0, e2, e1, e3, hq, -List.append_eq]
    · refine ⟨_, rfl, rhoF rest name here there (some (.int (Int.ofNat k))) none none, tp ns i1 c1 (two rest a (b ++ [lst a]) []), ?_, i1, c1, b ++ [lst a], _, rfl, by simp [hl], cons_app hb (hca _ (lst_mem ha)), rfl⟩
      have e3 := add_b (ns := ns) (rest := rest) (i := i1) (c := c1) (a := a) (more := []) hd (lst a)
      have e4 := atLst_last (two_a (ns := ns) (rest := rest) i1 c1 a b []) ha
      simp [body2, rhoF, Bo_eq, e0, e2, e4, e3, hq]
  obtain ⟨ρ2, S2, e, hi⟩ := forL_pre (f := fun ρ S => R (callF gc0 tb n) body2 ρ S) (t := .nm 6) (src := []) (fun d ρ S => ∃ i c b y, S = tp ns i c (two rest a b []) ∧ b.length = d.length ∧ cons_ b ∧ ρ = rhoF rest name here there y none none) (fun (i : Nat) => W.int (Int.ofNat i)) (fun _ _ _ _ => rfl) (List.range there) key (ρ := rhoF rest name here there y none none) (S := tp ns i c (two rest a [] [])) ⟨i, c, [], y, rfl, rfl, fun x h => (by cases h), rfl⟩
  obtain ⟨i, c, b, y, h2, h3, h4, h5⟩ := hi
  exact ⟨ρ2, S2, e, i, c, b, y, h2, by rw [h3, List.length_range], h4, h5⟩
end
end TZ

set_option Elab.async false
set_option linter.all false
set_option maxRecDepth 100000
set_option maxHeartbeats 4000000
/-! P13: a drawn file, whole. -/
namespace TZ
open PySem
section
variable {tb : Nat → Option Def} {n : Nat} {ns : List Int} {rest : Sto}
theorem tuple_ref {r : Nat} {ws : List W} {S : Sto} (hS : S[r]? = some (.lst ws)) : wBlt .tuple [.ref r] S = some (.tup ws, S) := by
  simp only [wBlt, bTuple, seqOf, listOf, hS]
/-- one of four contents -/
theorem four_ok (h0 : tb 0 = some d_law_draw) (hn : 1 ≤ n) {T : Sto} (hT : wfR T) {es : E} {ρ : Rho} {S : Sto} {i c : Int} {x y z w : Cn} (he : Vs (callF gc0 tb n) es ρ S = some ([encC x, encC y, encC z, encC w], tp ns i c T)) (hρ : ∀ S, rhoAt 0 ρ S = some (.ref 1, S)) : ∃ v i' c', v ∈ [x, y, z, w] ∧ V (callF gc0 tb n) (.ix (.lst es) (.call 0 (.cons (.var 0) (.cons (.int 4) .nil)))) ρ S = some (encC v, tp ns i' c' (T ++ [.lst [encC x, encC y, encC z, encC w]])) := by
  have hT2 : wfR (T ++ [.lst [encC x, encC y, encC z, encC w]]) := wfR_app hT (by simp [Ob.under])
  obtain ⟨d, i', c', e, h1, h2⟩ := a_draw h0 hn (many := 4) (by decide) (by decide) ns i c hT2
  obtain ⟨v, hv, e2⟩ := pick4 (S := tp ns i' c' (T ++ [.lst [encC x, encC y, encC z, encC w]])) (r := T.length + 2) ((tp_get _).trans (get_app0 _ [])) h1 h2
  refine ⟨v, i', c', hv, ?_⟩
  simp [he, hρ, e, e2]
def FileOk (here there : Nat) (p : Pl) : Prop := p.here.length = here ∧ p.there.length = there ∧ cons_ p.all
theorem a_file (h16 : tb 16 = some d_law_file) (h9 : tb 9 = some d_law_content) (h0 : tb 0 = some d_law_draw) (name : Str) {here there : Nat} (h1 : 1 ≤ here) (h2 : 1 ≤ there) (h3 : here < 1000) (h4 : there < 1000) : Drawn tb 3 16 [.str name, .int here, .int there] encF (fun f => f.1 = name ∧ FileOk here there f.2) (fun _ => True) := by
  intro n hn ns i c rest hr _
  cases n with
  | zero => omega
  | succ n =>
    obtain ⟨ρ2, S2, e1, i1, c1, a, y1, rfl, hla, hca, rfl⟩ := file_loop1 (ns := ns) (there := there) h9 h0 (n := n) (by omega) hr name h3 i c none
    have ha : a ≠ [] := by intro e; rw [e] at hla; simp at hla; omega
    obtain ⟨ρ3, S3, e2, i2, c2, b, y2, rfl, hlb, hcb, rfl⟩ := file_loop2 (ns := ns) (here := here) h9 h0 (n := n) (by omega) hr name h4 ha hca i1 c1 y1
    have hb : b ≠ [] := by intro e; rw [e] at hlb; simp at hlb; omega
    have hw1 := wfR_two hr a b (more := []) (fun o h => by cases h)
    obtain ⟨v1, i3, c3, e3, hv1⟩ := a_content h9 h0 n (by omega) ns i2 c2 _ hw1 trivial
    have la1 := atLst_last (two_a (ns := ns) (rest := rest) i2 c2 a b []) ha
    have lb1 := atLst_last (two_b (ns := ns) (rest := rest) i2 c2 a b []) hb
    have la2 := atLst_last (two_a (ns := ns) (rest := rest) i3 c3 a b []) ha
    obtain ⟨st, i4, c4, hst, e4⟩ := four_ok (tb := tb) (n := n) (ns := ns) h0 (by omega) hw1 (es := .cons (.ix (.var 4) (.int (-1))) (.cons (.ix (.var 5) (.int (-1))) (.cons (.call 9 (.cons (.var 0) .nil)) (.cons (.ix (.var 4) (.int (-1))) .nil)))) (ρ := rhoF rest name here there y2 none none) (S := tp ns i2 c2 (two rest a b [])) (i := i3) (c := c3) (x := lst a) (y := lst b) (z := v1) (w := lst a) (by
      simp only [Vs_cons, Vs_nil, V_ix, V_var, V_int, V_call, rhoF, rhoS, rho0, ob_some, la1, lb1, e3, la2]) (fun S => rfl)
    have hstc : st ∈ contents := by
      simp only [List.mem_cons, List.not_mem_nil, or_false] at hst
      rcases hst with rfl | rfl | rfl | rfl
      · exact hca _ (lst_mem ha)
      · exact hcb _ (lst_mem hb)
      · exact hv1
      · exact hca _ (lst_mem ha)
    generalize ho1 : Ob.lst [encC (lst a), encC (lst b), encC v1, encC (lst a)] = o1 at e4
    have hu1 : o1.under 0 = true := by rw [← ho1]; simp [Ob.under]
    have hT : two rest a b [] ++ [o1] = two rest a b [o1] := by simp [two]
    rw [hT] at e4
    have hw2 := wfR_two hr a b (more := [o1]) (fun o h => by simp at h; exact h ▸ hu1)
    obtain ⟨v2, i5, c5, e5, hv2⟩ := a_content h9 h0 n (by omega) ns i4 c4 _ hw2 trivial
    have lb2 := atLst_last (two_b (ns := ns) (rest := rest) i5 c5 a b [o1]) hb
    obtain ⟨wk, i6, c6, hwk, e6⟩ := four_ok (tb := tb) (n := n) (ns := ns) h0 (by omega) hw2 (es := .cons (.var 7) (.cons (.call 9 (.cons (.var 0) .nil)) (.cons (.var 7) (.cons (.ix (.var 5) (.int (-1))) .nil)))) (ρ := rhoF rest name here there y2 (some (encC st)) none) (S := tp ns i4 c4 (two rest a b [o1])) (i := i5) (c := c5) (x := st) (y := v2) (z := st) (w := lst b) (by
      simp only [Vs_cons, Vs_nil, V_ix, V_var, V_int, V_call, rhoF, rhoS, rho0, ob_some, lb2, e5]) (fun S => rfl)
    have hwkc : wk ∈ contents := by
      simp only [List.mem_cons, List.not_mem_nil, or_false] at hwk
      rcases hwk with rfl | rfl | rfl | rfl
      · exact hstc
      · exact hv2
      · exact hstc
      · exact hcb _ (lst_mem hb)
    generalize ho2 : Ob.lst [encC st, encC v2, encC st, encC (lst b)] = o2 at e6
    have hT : two rest a b [o1] ++ [o2] = two rest a b [o1, o2] := by simp [two]
    rw [hT] at e6
    refine ⟨(name, ⟨a, b, st, wk⟩), i6, c6, ?_, rfl, hla, hlb, ?_⟩
    · rw [callF_R h16 rfl rfl]
      have t1 := tuple_ref (two_a (ns := ns) (rest := rest) i6 c6 a b [o1, o2])
      have t2 := tuple_ref (two_b (ns := ns) (rest := rest) i6 c6 a b [o1, o2])
      have hfin := finish_tp (ns := ns) (i := i) (c := c) (i' := i6) (c' := c6) (.lst (a.map encC) :: .lst (b.map encC) :: [o1, o2]) (under_F (name, ⟨a, b, st, wk⟩) 0) hr
      have r1 := rng1_nat (n := here) (by omega) (tp ns i c (two rest [] [] []))
      have r2 := rng1_nat (n := there) (by omega) (tp ns i1 c1 (two rest a [] []))
      have s1 : R (callF gc0 tb n) (.asg (.tp (.cons (.nm 4) (.cons (.nm 5) .nil))) (.tup (.cons (.lst .nil) (.cons (.lst .nil) .nil)))) [some (.ref 1), some (.str name), some (.int here), some (.int there), none, none, none, none, none] (tp ns i c rest) = some (.nx, rhoF rest name here there none none none, tp ns i c (two rest [] [] [])) := by
        simp [rhoF, two]
      have s2 : R (callF gc0 tb n) (.for_ (.nm 6) (.rng1 (.var 2)) (.expr (.mth .append (.var 4) (.cons (.call 9 (.cons (.var 0) .nil)) .nil)))) (rhoF rest name here there none none none) (tp ns i c (two rest [] [] [])) = some (.nx, rhoF rest name here there y1 none none, tp ns i1 c1 (two rest a [] [])) := by
        rw [R_for, Vi_rng1, V_var, show rhoAt 2 (rhoF rest name here there none none none) (tp ns i c (two rest [] [] [])) = some (.int here, tp ns i c (two rest [] [] [])) from rfl, ob_some, r1, ob_some]
        exact e1
      have s3 : R (callF gc0 tb n) (.for_ (.nm 6) (.rng1 (.var 3)) body2) (rhoF rest name here there y1 none none) (tp ns i1 c1 (two rest a [] [])) = some (.nx, rhoF rest name here there y2 none none, tp ns i2 c2 (two rest a b [])) := by
        rw [R_for, Vi_rng1, V_var, show rhoAt 3 (rhoF rest name here there y1 none none) (tp ns i1 c1 (two rest a [] [])) = some (.int there, tp ns i1 c1 (two rest a [] [])) from rfl, ob_some, r2, ob_some]
        exact e2
      show fin false (tp ns i c rest).length (R (callF gc0 tb n) (.seq (.asg (.tp (.cons (.nm 4) (.cons (.nm 5) .nil))) (.tup (.cons (.lst .nil) (.cons (.lst .nil) .nil)))) (.seq (.for_ (.nm 6) (.rng1 (.var 2)) (.expr (.mth .append (.var 4) (.cons (.call 9 (.cons (.var 0) .nil)) .nil)))) (.seq (.for_ (.nm 6) (.rng1 (.var 3)) body2) _))) [some (.ref 1), some (.str name), some (.int here), some (.int there), none, none, none, none, none] (tp ns i c rest)) = _
      rw [R_seq, s1, sb_nx, R_seq, s2, sb_nx, R_seq, s3, sb_nx, R_seq, R_asg, e4, ob_some, Tp_nm, ob_some, sb_nx, R_seq, R_asg]
      rw [show (rhoF rest name here there y2 none none).set 7 (some (encC st)) = rhoF rest name here there y2 (some (encC st)) none from rfl, e6, ob_some, Tp_nm, ob_some, sb_nx, R_ret]
      rw [show (rhoF rest name here there y2 (some (encC st)) none).set 8 (some (encC wk)) = rhoF rest name here there y2 (some (encC st)) (some (encC wk)) from rfl]
      simp only [V_tup, Vs_cons, Vs_nil, V_var, V_blt, rhoF, rhoS, rho0, ob_some, t1, t2, List.length_cons, List.length_nil]
      rw [fitsO_ok (by decide), ob_some, fin_ret]
      exact hfin
    · intro x hx
      simp only [Pl.all, List.mem_append, List.mem_cons, List.not_mem_nil, or_false] at hx
      rcases hx with hx | hx | rfl | rfl
      · exact hca x hx
      · exact hcb x hx
      · exact hstc
      · exact hwkc
end
end TZ

set_option Elab.async false
set_option linter.all false
set_option maxRecDepth 100000
set_option maxHeartbeats 4000000
/-! P14: a drawn project. -/
namespace TZ
open PySem
theorem cut_3 {α : Type} (a b c : α) (l : List α) : cutOf (a :: b :: c :: l) (some 3) none = l := by
  unfold cutOf plOf
  have : min (Int.toNat 3) (a :: b :: c :: l).length = 3 := by simp
  simp only [if_neg (show ¬ (3 : Int) < 0 by decide), this]
  simp
@[simp] theorem wSlc_3 (a b c : W) (ws : List W) (S : Sto) : wSlc (.tup (a :: b :: c :: ws)) (.int 3) .non S = some (.tup ws, S) := by
  show some (W.tup (cutOf (a :: b :: c :: ws) (some 3) none), S) = _
  rw [cut_3]
theorem nb_C (c : Cn) : (encC c).nb = true := by cases c <;> rfl
theorem pn_C (c : Cn) : Pn (encC c) := ⟨under_C c 0, nb_C c, flat_C c 30⟩
theorem pn_Cs (l : List Cn) : Pn (.lst (l.map encC)) := ⟨under_L' l 0, nbs_map _ _ fun a _ => nb_C a, flats_map encC 29 _ fun a _ => flat_C a 29⟩
theorem a_bare {tb : Nat → Option Def} (hd : tb 17 = some d_law_bare) {f : Fi} (h : f.2.all.length ≤ 16777216) : Ans tb 1 17 [encF f] (.bl f.2.empty) := by
  refine ans_of (k := 0) (by simp [unders]) rfl fun n hn => ?_
  rw [callF_R hd rfl rfl]
  have h' : f.2.here.length + (f.2.there.length + 2) ≤ 16777216 := by simpa [Pl.all] using h
  have h1 : f.2.here.length + f.2.there.length ≤ lineN := by unfold lineN; omega
  have h2 : f.2.here.length + f.2.there.length + (0 + 1 + 1) ≤ lineN := by unfold lineN; omega
  have e : f.2.here.map encC ++ (f.2.there.map encC ++ [encC f.2.stage, encC f.2.work]) = f.2.all.map encC := by simp [Pl.all]
  have q2 := wEq_ref (pn_Cs (f.2.all.filter fun c => !decide (c = none))) (r := 0) (S := [.lst []]) (ws := []) rfl pn_nil
  have q1 := compL_filter (src := []) (S := []) (f := tn (callF gc0 tb n) (.nm 1) [1] [some (encF f), none] (.notn (.var 1)) (.var 1)) rfl encC encC (fun c => !decide (c = none)) f.2.all (by
    intro c _
    cases c <;> simp [tn, P.put, wipeR, Bo_eq])
  have e3 : encF f = .tup (.str f.1 :: .tup (f.2.here.map encC) :: .tup (f.2.there.map encC) :: [encC f.2.stage, encC f.2.work]) := rfl
  rw [e3] at q1
  simp [d_law_bare, List.replicate, e3, h1, h2, e, q1, q2, -Bool.not_eq_true, -decide_not, -Bool.decide_eq_true] at q1 ⊢
  rw [Bool.eq_iff_iff]
  simp [Pl.empty]
theorem list_kind {S : Sto} {z : W} {ws : List W} (hz : listOf S z = some ws) : dictOf S z = none ∧ seqOf S z = some ws := by
  cases z with
  | lst us => exact ⟨rfl, hz⟩
  | ref r =>
    refine ⟨?_, hz⟩
    unfold listOf at hz
    unfold dictOf
    cases e : S[r]? with
    | none => simp [e] at hz
    | some o => cases o <;> simp [e] at hz ⊢
  | _ => simp [listOf] at hz
theorem wIx_list {S : Sto} {z : W} {ws : List W} (hz : listOf S z = some ws) (i : Int) : wIx z (.int i) S = match atOf ws i with | some w => some (w, S) | none => none := by
  obtain ⟨d1, d2⟩ := list_kind hz
  cases z <;> first | (simp [listOf] at hz; done) | (unfold wIx; simp only [d1, d2]; try (cases atOf ws i <;> rfl))
theorem len_list {S : Sto} {z : W} {ws : List W} (hz : listOf S z = some ws) : wBlt .len [z] S = some (.int ws.length, S) := by
  obtain ⟨d1, d2⟩ := list_kind hz
  cases z <;> first | (simp [listOf] at hz; done) | (simp only [wBlt, bLen, d2])
/-- the row of names, as the laws hold it -/
def NamesAt (x : W) (l : List Str) (rest : Sto) : Prop := ∀ ns i c more, listOf (tp ns i c (rest ++ more)) x = some (l.map .str)
theorem int_bl (b : Bool) (S : Sto) : wBlt .int [.bl b] S = some (.int (if b = true then 1 else 0), S) := rfl
theorem add_lists {a b : W} {xs ys : List W} {S : Sto} (ha : listOf S a = some xs) (hb : listOf S b = some ys) (hl : xs.length + ys.length ≤ lineN) : wBin .add a b S = some (.lst (xs ++ ys), S) := by
  show wAdd a b S = _
  unfold wAdd
  cases a <;> first | (simp [listOf] at ha; done) | skip
  all_goals (cases b <;> first | (simp [listOf] at hb; done) | skip)
  all_goals (simp only [ha, hb, if_pos hl])
theorem mul_if {r : Nat} {w : W} {S : Sto} (hS : S[r]? = some (.lst [w])) (b : Bool) : wBin .mul (.ref r) (.int (if b = true then 1 else 0)) S = some (.lst (if b = true then [w] else []), S) := by
  simp only [wBin]
  unfold wMul
  cases b <;> simp [hS, lineN, rep]
/-- xs + [item] * int(cond) -/
theorem add_if {cf : Nat → List W → M W} {k : Nat} {e c : E} {ρ : Rho} {S S2 : Sto} {x w : W} {xs : List W} {b : Bool} (hx : rhoAt k ρ S = some (x, S)) (he : V cf e ρ S = some (w, S)) (hc : V cf c ρ (S ++ [.lst [w]]) = some (.bl b, S2)) (h2 : S2[S.length]? = some (.lst [w])) (hl : listOf S2 x = some xs) (hn : xs.length < 16777216) : V cf (.bin .add (.var k) (.bin .mul (.lst (.cons e .nil)) (.blt .int (.cons c .nil)))) ρ S = some (.lst (xs ++ if b = true then [w] else []), S2) := by
  have ha := add_lists (S := S2) (a := x) (b := .lst (if b = true then [w] else [])) hl rfl (by unfold lineN; cases b <;> simp <;> omega)
  have hm := mul_if h2 b
  simp only [V_bin, V_var, hx, ob_some, V_lst, Vs_cons, Vs_nil, he, List.length_cons, List.length_nil, fitsO_ok (show 0 + 1 ≤ 16777216 by decide), V_blt, hc, int_bl, hm, ha]
section
variable {tb : Nat → Option Def} {n : Nat} {ns : List Int} {rest : Sto}
/-- the store while a project is drawn -/
def prS (rest : Sto) (names : List Str) (more : Sto) : Sto := rest ++ .lst [] :: .lst (names.map .str) :: more
theorem wfR_prS (hr : wfR rest) (names : List Str) {more : Sto} (hm : ∀ o ∈ more, o.under 0 = true) : wfR (prS rest names more) := by
  refine wfR_app hr ?_
  intro o ho
  simp only [List.mem_cons] at ho
  rcases ho with rfl | rfl | ho
  · rfl
  · exact unders_map _ _ _ fun _ _ => rfl
  · exact hm o ho
def rhoP (r : W) (here there : Nat) (x a b : Option W) : Rho := [some (.ref 1), some r, some (.int here), some (.int there), x, a, b]
/-- the files so far -/
def FilesOk (here there : Nat) (fs : List Fi) : Prop := ∀ f ∈ fs, FileOk here there f.2 ∧ f.2.empty = false
def bodyP : C := .ite (.cmp .gt (.call 0 (.cons (.var 0) (.cons (.int 4) .nil))) (.int 0))
  (.seq (.asg (.nm 6) (.call 16 (.cons (.var 0) (.cons (.var 5) (.cons (.var 2) (.cons (.var 3) .nil))))))
  (.asg (.nm 4) (.bin .add (.var 4) (.bin .mul (.lst (.cons (.var 6) .nil)) (.blt .int (.cons (.not (.call 17 (.cons (.var 6) .nil))) .nil))))))
  .skip
structure Tb2 (tb : Nat → Option Def) : Prop where
  draw : tb 0 = some d_law_draw
  content : tb 9 = some d_law_content
  file : tb 16 = some d_law_file
  bare : tb 17 = some d_law_bare
  project : tb 18 = some d_law_project
def InvP (ns : List Int) (rest : Sto) (names : List Str) (r : W) (here there : Nat) (d : List Str) (ρ : Rho) (S : Sto) : Prop :=
  ∃ i c more x fs a b, S = tp ns i c (prS rest names more) ∧ (∀ o ∈ more, o.under 0 = true) ∧ ((x = .ref (rest.length + 2) ∧ fs = []) ∨ x = .lst (fs.map encF)) ∧ (fs.map Prod.fst).Sublist d ∧ FilesOk here there fs ∧ ρ = rhoP r here there (some x) a b
theorem listOf_files {i c : Int} {names : List Str} {more : Sto} {x : W} {fs : List Fi} (hx : (x = .ref (rest.length + 2) ∧ fs = []) ∨ x = .lst (fs.map encF)) : listOf (tp ns i c (prS rest names more)) x = some (fs.map encF) := by
  rcases hx with ⟨rfl, rfl⟩ | rfl
  · unfold listOf
    simp only [tp_get]
    unfold prS
    rw [get_app0]
    rfl
  · rfl
theorem stepP (T : Tb2 tb) (hn : 3 ≤ n) (hr : wfR rest) {names : List Str} {r : W} {here there : Nat} (h1 : 1 ≤ here) (h2 : 1 ≤ there) (h3 : here < 1000) (h4 : there < 1000) (hlen : names.length < 1000) : ∀ (d : List Str) (z : Str) (l : List Str) (ρ : Rho) (S : Sto), names = d ++ z :: l → InvP ns rest names r here there d ρ S → ∃ ρ', P.put (.nm 5) (.str z) ρ = some ρ' ∧ ∃ ρ2 S2, R (callF gc0 tb n) bodyP ρ' S = some (.nx, ρ2, S2) ∧ InvP ns rest names r here there (d ++ [z]) ρ2 S2 := by
  rintro d z l ρ S e ⟨i, c, more, x, fs, a, b, rfl, hm, hx, hsub, hfs, rfl⟩
  refine ⟨_, rfl, ?_⟩
  have hlf : fs.length < 16777216 := by
    have h5 := hsub.length_le
    rw [List.length_map] at h5
    have h6 := congrArg List.length e
    rw [List.length_append, List.length_cons] at h6
    omega
  have hw := wfR_prS hr names hm
  obtain ⟨q, i1, c1, e0, g1, g2⟩ := a_draw T.draw (n := n) (by omega) (many := 4) (by decide) (by decide) ns i c hw
  have hρ : ∀ y, (rhoP r here there (some x) a b).set 5 y = rhoP r here there (some x) y b := fun y => rfl
  by_cases hq : q > 0
  · obtain ⟨⟨nm, p⟩, i2, c2, e1, rfl, hp⟩ := a_file T.file T.content T.draw z h1 h2 h3 h4 n (by omega) ns i1 c1 _ hw trivial
    have hle : p.all.length ≤ 16777216 := by
      simp only [Pl.all, List.length_append, List.length_cons, List.length_nil, hp.1, hp.2.1]
      omega
    have hm2 : ∀ o ∈ more ++ [.lst [encF (nm, p)]], o.under 0 = true := by
      intro o ho
      rcases List.mem_append.mp ho with ho | ho
      · exact hm o ho
      · simp only [List.mem_cons, List.not_mem_nil, or_false] at ho
        subst ho
        simp [Ob.under]
    have hS2 : tp ns i2 c2 (prS rest names more) ++ [.lst [encF (nm, p)]] = tp ns i2 c2 (prS rest names (more ++ [.lst [encF (nm, p)]])) := by simp [prS]
    have hb := a_bare T.bare (f := (nm, p)) hle n (by omega) (tp ns i2 c2 (prS rest names (more ++ [.lst [encF (nm, p)]]))) (wf_tp (wfR_prS hr names hm2))
    have hadd := add_if (cf := callF gc0 tb n) (k := 4) (e := .var 6) (c := .not (.call 17 (.cons (.var 6) .nil))) (ρ := rhoP r here there (some x) (some (.str nm)) (some (encF (nm, p)))) (S := tp ns i2 c2 (prS rest names more)) (S2 := tp ns i2 c2 (prS rest names (more ++ [.lst [encF (nm, p)]]))) (x := x) (w := encF (nm, p)) (xs := fs.map encF) (b := !p.empty) rfl rfl (by
      rw [hS2]
      simp [Bo_eq, rhoP, hb]) (by
      rw [← hS2]
      exact List.getElem?_concat_length) (listOf_files hx) (by rw [List.length_map]; exact hlf)
    have e0' : Bo (callF gc0 tb n) (.cmp .gt (.call 0 (.cons (.var 0) (.cons (.int 4) .nil))) (.int 0)) (rhoP r here there (some x) (some (.str nm)) b) (tp ns i c (prS rest names more)) = some (true, tp ns i1 c1 (prS rest names more)) := by
      simp [Bo_eq, rhoP, e0, hq]
    have e1' : V (callF gc0 tb n) (.call 16 (.cons (.var 0) (.cons (.var 5) (.cons (.var 2) (.cons (.var 3) .nil))))) (rhoP r here there (some x) (some (.str nm)) b) (tp ns i1 c1 (prS rest names more)) = some (encF (nm, p), tp ns i2 c2 (prS rest names more)) := by
      simp [rhoP, e1]
    refine ⟨rhoP r here there (some (.lst (fs.map encF ++ if (!p.empty) = true then [encF (nm, p)] else []))) (some (.str nm)) (some (encF (nm, p))), tp ns i2 c2 (prS rest names (more ++ [.lst [encF (nm, p)]])), ?_, i2, c2, more ++ [.lst [encF (nm, p)]], _, fs ++ (if (!p.empty) = true then [(nm, p)] else []), _, _, rfl, hm2, .inr ?_, ?_, ?_, rfl⟩
    · rw [hρ]
      unfold bodyP
      rw [R_ite, e0', ob_some, if_pos rfl, R_seq, R_asg, e1', ob_some, Tp_nm, ob_some, sb_nx, R_asg]
      rw [show (rhoP r here there (some x) (some (.str nm)) b).set 6 (some (encF (nm, p))) = rhoP r here there (some x) (some (.str nm)) (some (encF (nm, p))) from rfl, hadd, ob_some, Tp_nm, ob_some]
      rfl
    · cases p.empty <;> simp
    · cases p.empty
      · simpa using hsub.append (List.Sublist.refl [nm])
      · simpa using hsub.trans (List.sublist_append_left d [nm])
    · intro f hf
      rcases List.mem_append.mp hf with hf | hf
      · exact hfs f hf
      · cases hpe : p.empty with
        | true => rw [hpe] at hf; simp at hf
        | false =>
          rw [hpe] at hf
          simp at hf
          subst hf
          exact ⟨hp, hpe⟩
  · have e0' : Bo (callF gc0 tb n) (.cmp .gt (.call 0 (.cons (.var 0) (.cons (.int 4) .nil))) (.int 0)) (rhoP r here there (some x) (some (.str z)) b) (tp ns i c (prS rest names more)) = some (false, tp ns i1 c1 (prS rest names more)) := by
      have : ¬ (0 < q) := hq
      simp [Bo_eq, rhoP, e0, this]
    refine ⟨rhoP r here there (some x) (some (.str z)) b, tp ns i1 c1 (prS rest names more), ?_, i1, c1, more, x, fs, _, _, rfl, hm, hx, hsub.trans (List.sublist_append_left d [z]), hfs, rfl⟩
    rw [hρ]
    unfold bodyP
    rw [R_ite, e0', ob_some]
    rfl
end
end TZ

set_option Elab.async false
set_option linter.all false
set_option maxRecDepth 100000
set_option maxHeartbeats 4000000
/-! P15: a drawn project, whole. -/
namespace TZ
open PySem
section
variable {tb : Nat → Option Def} {n : Nat} {ns : List Int} {rest : Sto}
/-- what is drawn: of the names some, sorted -/
structure PrOk (names : List Str) (p : Pr) : Prop where
  h1 : 1 ≤ p.nh
  h2 : 1 ≤ p.nt
  h3 : p.nh ≤ 3
  h4 : p.nt ≤ 3
  sub : (p.fs.map Prod.fst).Sublist (names.mergeSort nle)
  fs : FilesOk p.nh p.nt p.fs
theorem tuple_list {x : W} {ws : List W} {S : Sto} (h : listOf S x = some ws) : wBlt .tuple [x] S = some (.tup ws, S) := by
  cases x <;> first | (simp [listOf] at h; done) | (simp only [wBlt, bTuple, seqOf, h])
theorem lt_of_get {k : Nat} {o : Ob} {S : Sto} (h : S[k]? = some o) : k < S.length := by
  rcases Nat.lt_or_ge k S.length with h1 | h1
  · exact h1
  · rw [List.getElem?_eq_none h1] at h; cases h
theorem names_ref {k : Nat} {l : List Str} (h : rest[k]? = some (.lst (l.map .str))) : NamesAt (.ref (k + 2)) l rest := by
  intro ns i c more
  unfold listOf
  simp only [tp_get, List.getElem?_append_left (lt_of_get h), h]
theorem a_project (T : Tb2 tb) (names0 : List Str) (hlen : names0.length < 1000) (y : W) : Drawn tb 4 18 [y] encPr (PrOk names0) (NamesAt y names0) := by
  intro n hn ns i c rest hr hk
  cases n with
  | zero => omega
  | succ n =>
    obtain ⟨d1, i1, c1, e1, g1, g2⟩ := a_draw T.draw (n := n) (by omega) (many := 3) (by decide) (by decide) ns i c hr
    obtain ⟨d2, i2, c2, e2, g3, g4⟩ := a_draw T.draw (n := n) (by omega) (many := 3) (by decide) (by decide) ns i1 c1 hr
    obtain ⟨here, hh⟩ : ∃ a : Nat, 1 + d1 = a := ⟨(1 + d1).toNat, by omega⟩
    obtain ⟨there, ht⟩ : ∃ a : Nat, 1 + d2 = a := ⟨(1 + d2).toNat, by omega⟩
    have s1 : R (callF gc0 tb n) (.asg (.tp (.cons (.nm 2) (.cons (.nm 3) (.cons (.nm 4) .nil)))) (.tup (.cons (.bin .add (.int 1) (.call 0 (.cons (.var 0) (.cons (.int 3) .nil)))) (.cons (.bin .add (.int 1) (.call 0 (.cons (.var 0) (.cons (.int 3) .nil)))) (.cons (.lst .nil) .nil))))) [some (.ref 1), some y, none, none, none, none, none] (tp ns i c rest) = some (.nx, rhoP y here there (some (.ref (rest.length + 2))) none none, tp ns i2 c2 (rest ++ [.lst []])) := by
      simp [e1, e2, hh, ht, rhoP]
    have es : wBlt .sorted [y] (tp ns i2 c2 (rest ++ [.lst []])) = some (.ref (rest.length + 1 + 2), tp ns i2 c2 (prS rest (names0.mergeSort nle) [])) := by
      have hg := hk ns i2 c2 [.lst []]
      obtain ⟨d1, d2⟩ := list_kind hg
      simp only [wBlt, bSorted, d1, hg, wSort_strs, M.new]
      simp [prS]
    have ei : wIter (.ref (rest.length + 1 + 2)) (tp ns i2 c2 (prS rest (names0.mergeSort nle) [])) = some (((names0.mergeSort nle).map .str, [(rest.length + 1 + 2, .lst ((names0.mergeSort nle).map .str))]), tp ns i2 c2 (prS rest (names0.mergeSort nle) [])) := by
      have hg : (tp ns i2 c2 (prS rest (names0.mergeSort nle) []))[rest.length + 1 + 2]? = some (.lst ((names0.mergeSort nle).map .str)) := by
        rw [tp_get]; exact get_app1 _ _ _
      unfold wIter
      simp only [dictOf, seqOf, listOf, srcOf, hg]
    have hst : ∀ d ρ S, InvP ns rest (names0.mergeSort nle) y here there d ρ S → stands S [(rest.length + 1 + 2, .lst ((names0.mergeSort nle).map .str))] = true := by
      rintro d ρ S ⟨i, c, more, x, fs, a, b, rfl, _⟩
      simp only [stands, List.all_cons, List.all_nil, Bool.and_true, tp_get]
      exact decide_eq_true (get_app1 _ _ _)
    have hnl : (names0.mergeSort nle).length < 1000 := by rw [List.length_mergeSort]; exact hlen
    obtain ⟨ρ3, S3, e3, i3, c3, more, x, fs, a, b, rfl, hm, hx, hsub, hfs, rfl⟩ := forL_pre (f := fun ρ S => R (callF gc0 tb n) bodyP ρ S) (t := .nm 5) (InvP ns rest (names0.mergeSort nle) y here there) W.str hst (names0.mergeSort nle) (stepP T (by omega) hr (by omega) (by omega) (by omega) (by omega) hnl) (ρ := rhoP y here there (some (.ref (rest.length + 2))) none none) (S := tp ns i2 c2 (prS rest (names0.mergeSort nle) [])) ⟨i2, c2, [], _, [], none, none, rfl, (fun o h => by cases h), .inl ⟨rfl, rfl⟩, (by simp), (fun f h => by cases h), rfl⟩
    refine ⟨⟨here, there, fs⟩, i3, c3, ?_, ⟨by simp; omega, by simp; omega, by simp; omega, by simp; omega, hsub, hfs⟩⟩
    rw [callF_R T.project rfl rfl]
    show fin false (tp ns i c rest).length (R (callF gc0 tb n) (.seq (.asg (.tp (.cons (.nm 2) (.cons (.nm 3) (.cons (.nm 4) .nil)))) (.tup (.cons (.bin .add (.int 1) (.call 0 (.cons (.var 0) (.cons (.int 3) .nil)))) (.cons (.bin .add (.int 1) (.call 0 (.cons (.var 0) (.cons (.int 3) .nil)))) (.cons (.lst .nil) .nil))))) (.seq (.for_ (.nm 5) (.iter (.blt .sorted (.cons (.var 1) .nil))) bodyP) (.ret (.tup (.cons (.var 2) (.cons (.var 3) (.cons (.blt .tuple (.cons (.var 4) .nil)) .nil))))))) [some (.ref 1), some y, none, none, none, none, none] (tp ns i c rest)) = _
    have et := tuple_list (listOf_files (rest := rest) (ns := ns) (i := i3) (c := c3) (names := names0.mergeSort nle) (more := more) hx)
    have hfin := finish_tp (ns := ns) (i := i) (c := c) (i' := i3) (c' := c3) (.lst [] :: .lst ((names0.mergeSort nle).map .str) :: more) (under_Pr ⟨here, there, fs⟩ 0) hr
    rw [R_seq, s1, sb_nx, R_seq, R_for, Vi_iter, V_blt, Vs_cons, V_var, show rhoAt 1 (rhoP y here there (some (.ref (rest.length + 2))) none none) (tp ns i2 c2 (rest ++ [.lst []])) = some (y, tp ns i2 c2 (rest ++ [.lst []])) from rfl, ob_some, Vs_nil, ob_some, ob_some, es, ob_some, ei, ob_some, e3, sb_nx, R_ret]
    simp only [V_tup, Vs_cons, Vs_nil, V_var, V_blt, rhoP, rhoS, rho0, ob_some, et, List.length_cons, List.length_nil]
    rw [fitsO_ok (by decide), ob_some, fin_ret]
    exact hfin
end
theorem PrOk.okB {names : List Str} {p : Pr} (h : PrOk names p) (hn : names.Nodup) (hl : names.length ≤ 900) : p.okB (names.length + 3) := by
  have hs : ordered (names.mergeSort nle) := by
    unfold ordered
    have h1 := List.pairwise_mergeSort nle_trans nle_total names
    have h2 : (names.mergeSort nle).Nodup := (List.mergeSort_perm names nle).nodup_iff.mpr hn
    exact List.Pairwise.and h1 h2
  have h3 := h.sub.length_le
  rw [List.length_map, List.length_mergeSort] at h3
  have := h.h3
  have := h.h4
  exact ⟨h.h1, h.h2, by omega, by omega, by omega, List.Pairwise.sublist h.sub hs, fun f hf => ⟨(h.fs f hf).1.1, (h.fs f hf).1.2.1⟩⟩
end TZ

set_option Elab.async false
set_option linter.all false
set_option maxRecDepth 100000
set_option maxHeartbeats 4000000
/-! P16: lists that stay; what is alike, typed. -/
namespace TZ
open PySem
/-- the list stays what it is, whatever is laid behind it -/
def Stb (S : Sto) (x : W) (ws : List W) : Prop := ∀ more, listOf (S ++ more) x = some ws
theorem Stb.now {S : Sto} {x : W} {ws : List W} (h : Stb S x ws) : listOf S x = some ws := by
  have := h []
  rwa [List.append_nil] at this
theorem Stb.app {S : Sto} {x : W} {ws : List W} (h : Stb S x ws) (more : Sto) : Stb (S ++ more) x ws := by
  intro m
  rw [List.append_assoc]
  exact h _
theorem stb_lst (S : Sto) (ws : List W) : Stb S (.lst ws) ws := fun _ => rfl
theorem stb_ref {S : Sto} {r : Nat} {ws : List W} (h : S[r]? = some (.lst ws)) : Stb S (.ref r) ws := by
  intro more
  unfold listOf
  simp only [List.getElem?_append_left (lt_of_get h), h]
theorem data_list {S : Sto} {x : W} {ws : List W} (h : listOf S x = some ws) (hw : Pn (.lst ws)) : asData S x = some (.lst ws) := by
  cases x with
  | lst us =>
    simp only [listOf, Option.some.injEq] at h
    subst h
    exact hw.data S
  | ref r =>
    have hS : S[r]? = some (.lst ws) := by
      unfold listOf at h
      cases e : S[r]? with
      | none => simp [e] at h
      | some o => cases o <;> simp [e] at h; rw [h]
    unfold asData
    rw [frz_lst hS hw.u]
    exact if_pos (flat_le _ (by decide) hw.f)
  | _ => simp [listOf] at h
theorem wEq_lists {S : Sto} {x y : W} {ws us : List W} (h1 : listOf S x = some ws) (h2 : listOf S y = some us) (p1 : Pn (.lst ws)) (p2 : Pn (.lst us)) : wEq x y S = some (decide (ws = us), S) := by
  unfold wEq
  rw [data_list h1 p1, data_list h2 p2]
  simp [eqv_nb _ _ p1.b p2.b]
theorem wf_app {S more : Sto} (h : wf S = true) (hm : ∀ o ∈ more, o.under (S.length + more.length) = true) : wf (S ++ more) = true := by
  unfold wf at h ⊢
  rw [List.all_eq_true] at h ⊢
  intro o ho
  rcases List.mem_append.mp ho with h1 | h1
  · exact obUnder_le (by simp) o (h o h1)
  · rw [List.length_append]; exact hm o h1
theorem wf_one {S : Sto} (h : wf S = true) {o : Ob} (ho : o.under 0 = true) : wf (S ++ [o]) = true := by
  refine wf_app h fun p hp => ?_
  simp only [List.mem_cons, List.not_mem_nil, or_false] at hp
  subst hp
  exact obUnder_le (Nat.zero_le _) p ho
theorem wfR_of {ns : List Int} {i c : Int} {rest : Sto} (h : wf (tp ns i c rest) = true) : wfR rest := by
  intro o ho
  unfold wf at h
  rw [List.all_eq_true] at h
  have := h o (by unfold tp; simp [ho])
  simpa using this
/-! ### alike, for rows and texts -/
theorem like_strs {tb : Nat → Option Def} (hd : tb 1 = some d_law_like) {x y : W} {l : List Str} {S : Sto} (hS : wf S = true) (hx : listOf S x = some (l.map .str)) (hy : listOf S y = some (l.map .str)) (hl : l.length ≤ 4000000) : LkS tb 2 x y S := by
  refine like_seq hd hS (.inr ⟨hx, hy⟩) (by simpa using hl) ?_
  intro w hw
  obtain ⟨a, _, rfl⟩ := List.mem_map.mp hw
  exact like_leaf hd rfl hS
theorem like_R3s {tb : Nat → Option Def} (hd : tb 1 = some d_law_like) {x y : W} {l : List Row3} {S : Sto} (hS : wf S = true) (hx : listOf S x = some (l.map encR3)) (hy : listOf S y = some (l.map encR3)) (hl : l.length ≤ 4000000) : LkS tb 3 x y S := by
  refine like_seq hd hS (.inr ⟨hx, hy⟩) (by simpa using hl) ?_
  intro w hw
  obtain ⟨a, _, rfl⟩ := List.mem_map.mp hw
  refine like_seq hd hS (.inl ⟨rfl, rfl⟩) (by simp) ?_
  intro w hw
  simp only [List.mem_cons, List.not_mem_nil, or_false] at hw
  rcases hw with rfl | rfl | rfl <;> exact like_leaf hd rfl hS
/-! ### what blocks, in the law's words -/
theorem a_blocks {tb : Nat → Option Def} (hd : tb 54 = some d_law_blocks) {p : Pl} (hp : p.ok) {S : Sto} (hS : wf S = true) {r a b : Nat} (hr : S[r]? = some (.lst [.ref a, .ref b, encC p.stage, encC p.work])) (ha : S[a]? = some (.lst (p.here.map encC))) (hb : S[b]? = some (.lst (p.there.map encC))) {n : Nat} (hn : 1 ≤ n) : callF gc0 tb n 54 [.ref r] S = some (.bl p.refuses, S) := by
  cases n with
  | zero => omega
  | succ n =>
    rw [callF_R hd rfl rfl]
    have e1 : ∀ i, wIx (.ref r) (.int i) S = match atOf [.ref a, .ref b, encC p.stage, encC p.work] i with | some w => some (w, S) | none => none := wIx_ref hr
    have e2 := atLst_last ha hp.1
    have e3 := atLst_last hb hp.2
    have hfin : ∀ x : Bool, finish false S.length (.bl x) S = some (.bl x, S) := fun x => finish_at rfl hS (by simp)
    simp [Bo_eq, List.replicate, d_law_blocks, e1, e2, e3]
    simp only [hfin]
    unfold Pl.refuses
    repeat' split
    all_goals simp_all
/-! ### the plain law of status -/
theorem status_nil {p : Pr} : p.status = [] ↔ ∀ f ∈ p.fs, lst f.2.here = f.2.stage ∧ f.2.stage = f.2.work := by
  have hw : ∀ a b : Cn, wayS a b = ("same" : Str) ↔ a = b := by
    intro a b
    unfold wayS
    by_cases h : a = b
    · simp [h]
    · simp only [h, if_false, iff_false]
      repeat' split
      all_goals simp
  unfold Pr.status
  rw [List.map_eq_nil_iff, List.filter_eq_nil_iff]
  constructor
  · intro h f hf
    have := h f hf
    unfold dueRow rowOf at this
    simp only [Bool.not_eq_true', decide_eq_false_iff_not, Decidable.not_not, Prod.mk.injEq, hw] at this
    exact this
  · intro h f hf
    have := h f hf
    unfold dueRow rowOf
    simp only [Bool.not_eq_true', decide_eq_false_iff_not, Decidable.not_not, Prod.mk.injEq, hw]
    exact this
theorem blocking_nil {p : Pr} : p.blocking = [] ↔ p.refuses .switch = false := by
  unfold Pr.blocking Pr.refuses
  rw [List.map_eq_nil_iff, List.filter_eq_nil_iff, List.any_eq_false]
/-- where nothing differs nothing blocks -/
theorem clean_free {p : Pr} (h : p.status = []) : p.blocking = [] := by
  rw [status_nil] at h
  rw [blocking_nil]
  unfold Pr.refuses
  rw [List.any_eq_false]
  intro f hf
  obtain ⟨h1, h2⟩ := h f hf
  unfold Pl.refuses
  rw [h1, h2]
  simp
theorem refused_switch (p : Pr) : p.refused [.switch] = [] ↔ p.refuses .switch = false := by
  unfold Pr.refused
  simp [List.zipIdx, refStep]
end TZ

set_option Elab.async false
set_option linter.all false
set_option maxRecDepth 100000
set_option maxHeartbeats 4000000
/-! P17: drawn commands and programs. -/
namespace TZ
open PySem
def words10 : List Str := ["add", "unstage", "restore", "write", "write", "commit", "switch", "hard", "mixed", "soft"]
def CmdOk (l : List Str) (v : Int) (c : Cmd) : Prop := (∀ f, c.file? = some f → f ∈ l) ∧ (∀ f w, c = .write f w → w = none ∨ w = some v) ∧ (∀ x k, c = .cut x k → k ≤ 1)
section
variable {tb : Nat → Option Def}
theorem a_command (hd : tb 10 = some d_law_command) (h0 : tb 0 = some d_law_draw) {l : List Str} (hl : l ≠ []) (hl2 : l.length < 1000) (v : Int) (x : W) : Drawn tb 2 10 [x, .int v] encCmd (CmdOk l v) (NamesAt x l) := by
  intro n hn ns i c rest hr hx
  cases n with
  | zero => omega
  | succ n =>
    have hr2 : wfR (rest ++ [.lst (words10.map .str)]) := wfR_app hr (by simp [Ob.under, words10])
    obtain ⟨d, i1, c1, e1, g1, g2⟩ := a_draw h0 (n := n) (by omega) (many := 10) (by decide) (by decide) ns i c hr2
    obtain ⟨w, hw, e2⟩ := atOf_lt (l := words10.map W.str) g1 (by simpa [words10] using g2)
    obtain ⟨word, hword, rfl⟩ := List.mem_map.mp hw
    have hlp : (0 : Int) < l.length := by have := List.length_pos_iff.mpr hl; omega
    obtain ⟨q, i2, c2, e3, g3, g4⟩ := a_draw h0 (n := n) (by omega) (many := l.length) hlp (by unfold bigN; omega) ns i1 c1 hr2
    obtain ⟨w2, hw2, e4⟩ := atOf_lt (l := l.map W.str) g3 (by simpa using g4)
    obtain ⟨name, hname, rfl⟩ := List.mem_map.mp hw2
    have hl1 := hx ns i1 c1 [.lst (words10.map .str)]
    have e5 := len_list hl1
    rw [List.length_map] at e5
    have e6 := wIx_list (hx ns i2 c2 [.lst (words10.map .str)]) q
    rw [e4] at e6
    have e7 := wIx_list (S := tp ns i1 c1 (rest ++ [.lst (words10.map .str)])) (z := .ref (rest.length + 2)) (ws := words10.map .str) (stb_ref ((tp_get _).trans (get_app0 _ []))).now d
    rw [e2] at e7
    obtain ⟨q3, i3, c3, e8, g5, g6⟩ := a_draw h0 (n := n) (by omega) (many := 3) (by decide) (by decide) ns i2 c2 hr2
    obtain ⟨q4, i4, c4, e9, g7, g8⟩ := a_draw h0 (n := n) (by omega) (many := 4) (by decide) (by decide) ns i2 c2 hr2
    have hfin : ∀ (cmd : Cmd) i' c', finish false (tp ns i c rest).length (encCmd cmd) (tp ns i' c' (rest ++ [.lst (words10.map .str)])) = some (encCmd cmd, tp ns i' c' rest) := fun cmd i' c' => finish_tp _ (under_Cmd cmd 0) hr
    have fin2 : ∀ (cmd : Cmd) (w : W) i' c', w = encCmd cmd → CmdOk l v cmd → R (callF gc0 tb n) d_law_command.body [some (.ref 1), some x, some (.int v), none, none, none] (tp ns i c rest) = some (.ret w, [some (.ref 1), some x, some (.int v), some (.ref (rest.length + 2)), some (.str word), some (.str name)], tp ns i' c' (rest ++ [.lst (words10.map .str)])) → ∃ cmd i' c', callF gc0 tb (n + 1) 10 (.ref 1 :: [x, .int v]) (tp ns i c rest) = some (encCmd cmd, tp ns i' c' rest) ∧ CmdOk l v cmd := by
      rintro cmd w i' c' rfl hc e
      refine ⟨cmd, i', c', ?_, hc⟩
      rw [callF_R hd rfl rfl]
      show fin false _ (R (callF gc0 tb n) d_law_command.body [some (.ref 1), some x, some (.int v), none, none, none] (tp ns i c rest)) = _
      rw [e, fin_ret, hfin]
    have hws : words10.map W.str = [.str "add", .str "unstage", .str "restore", .str "write", .str "write", .str "commit", .str "switch", .str "hard", .str "mixed", .str "soft"] := rfl
    rw [hws] at e1 e3 e5 e6 e7 e8 e9
    have wIn2 : ∀ (y a b : Str) (S : Sto), wIn (.str y) (.tup [.str a, .str b]) S = some (decide (y ∈ [a, b]), S) := fun y a b S => wIn_strs y [a, b] S
    have wIn3 : ∀ (y a b c : Str) (S : Sto), wIn (.str y) (.tup [.str a, .str b, .str c]) S = some (decide (y ∈ [a, b, c]), S) := fun y a b c S => wIn_strs y [a, b, c] S
    simp only [words10, List.mem_cons, List.not_mem_nil, or_false] at hword
    have hfile : ∀ cmd : Cmd, (cmd.file? = none ∨ cmd.file? = some name) → ∀ f, cmd.file? = some f → f ∈ l := by
      intro cmd h f hf
      rcases h with h | h
      · rw [h] at hf; cases hf
      · rw [h] at hf; cases hf; exact hname
    rcases hword with rfl | rfl | rfl | rfl | rfl | rfl | rfl | rfl | rfl | rfl
    · exact fin2 (.add name) _ i2 c2 rfl ⟨hfile _ (.inr rfl), (fun f w e => by cases e), (fun x k e => by cases e)⟩ (by simp [Bo_eq, d_law_command, hws, e1, e3, e5, e6, e7, wIn2, wIn3, encCmd])
    · exact fin2 (.unstage name) _ i2 c2 rfl ⟨hfile _ (.inr rfl), (fun f w e => by cases e), (fun x k e => by cases e)⟩ (by simp [Bo_eq, d_law_command, hws, e1, e3, e5, e6, e7, wIn2, wIn3, encCmd])
    · exact fin2 (.restore name) _ i2 c2 rfl ⟨hfile _ (.inr rfl), (fun f w e => by cases e), (fun x k e => by cases e)⟩ (by simp [Bo_eq, d_law_command, hws, e1, e3, e5, e6, e7, wIn2, wIn3, encCmd])
    · exact fin2 (.write name (if q4 = 0 then none else some v)) _ i4 c4 rfl ⟨hfile _ (.inr rfl), (fun f w e => by cases e; by_cases h : q4 = 0 <;> simp [h]), (fun x k e => by cases e)⟩ (by by_cases h : q4 = 0 <;> simp [Bo_eq, d_law_command, hws, e1, e3, e5, e6, e7, e9, wIn2, wIn3, encCmd, h])
    · exact fin2 (.write name (if q4 = 0 then none else some v)) _ i4 c4 rfl ⟨hfile _ (.inr rfl), (fun f w e => by cases e; by_cases h : q4 = 0 <;> simp [h]), (fun x k e => by cases e)⟩ (by by_cases h : q4 = 0 <;> simp [Bo_eq, d_law_command, hws, e1, e3, e5, e6, e7, e9, wIn2, wIn3, encCmd, h])
    · exact fin2 .commit _ i2 c2 rfl ⟨hfile _ (.inl rfl), (fun f w e => by cases e), (fun x k e => by cases e)⟩ (by simp [Bo_eq, d_law_command, hws, e1, e3, e5, e6, e7, wIn2, wIn3, encCmd])
    · exact fin2 .switch _ i2 c2 rfl ⟨hfile _ (.inl rfl), (fun f w e => by cases e), (fun x k e => by cases e)⟩ (by simp [Bo_eq, d_law_command, hws, e1, e3, e5, e6, e7, wIn2, wIn3, encCmd])
    · exact fin2 (.cut .hard (if q3 = 0 then 1 else 0)) _ i3 c3 rfl ⟨hfile _ (.inl rfl), (fun f w e => by cases e), (fun x k e => by cases e; split <;> omega)⟩ (by by_cases h : q3 = 0 <;> simp [Bo_eq, d_law_command, hws, e1, e3, e5, e6, e7, e8, wIn2, wIn3, encCmd, Cut.str, int_bl, h])
    · exact fin2 (.cut .mixed (if q3 = 0 then 1 else 0)) _ i3 c3 rfl ⟨hfile _ (.inl rfl), (fun f w e => by cases e), (fun x k e => by cases e; split <;> omega)⟩ (by by_cases h : q3 = 0 <;> simp [Bo_eq, d_law_command, hws, e1, e3, e5, e6, e7, e8, wIn2, wIn3, encCmd, Cut.str, int_bl, h])
    · exact fin2 (.cut .soft (if q3 = 0 then 1 else 0)) _ i3 c3 rfl ⟨hfile _ (.inl rfl), (fun f w e => by cases e), (fun x k e => by cases e; split <;> omega)⟩ (by by_cases h : q3 = 0 <;> simp [Bo_eq, d_law_command, hws, e1, e3, e5, e6, e7, e8, wIn2, wIn3, encCmd, Cut.str, int_bl, h])
end
end TZ

set_option Elab.async false
set_option linter.all false
set_option maxRecDepth 100000
set_option maxHeartbeats 4000000
/-! P18: drawn programs. -/
namespace TZ
open PySem
def isCut1 : Cmd → Bool
  | .cut _ k => decide (k = 1)
  | _ => false
def isSwitch : Cmd → Bool
  | .switch => true
  | _ => false
def cuts (cs : List Cmd) : Nat := (cs.filter isCut1).length
def switches (cs : List Cmd) : Nat := (cs.filter isSwitch).length
theorem nb_Cmd (c : Cmd) : (encCmd c).nb = true := by
  cases c <;> simp [encCmd, W.nb, nbs, nb_C]
theorem flat_Cmd (c : Cmd) (n : Nat) : (encCmd c).flat (n + 1) = true := by
  cases c <;> simp [encCmd, W.flat, flats, flat_C]
theorem pn_Cmd (c : Cmd) : Pn (encCmd c) := ⟨under_Cmd c 0, nb_Cmd c, flat_Cmd c 29⟩
section
variable {tb : Nat → Option Def}
theorem a_cuts (hd : tb 11 = some d_law_cuts) (cs : List Cmd) : Ans tb 1 11 [encProg cs] (.int (cuts cs)) := by
  refine ans_of (k := 0) (by simp [unders]) rfl fun n hn => ?_
  rw [callF_R hd rfl rfl]
  have wIn3 : ∀ (y a b c : Str) (S : Sto), wIn (.str y) (.tup [.str a, .str b, .str c]) S = some (decide (y ∈ [a, b, c]), S) := fun y a b c S => wIn_strs y [a, b, c] S
  have q := compL_filter (src := []) (S := []) (f := tn (callF gc0 tb n) (.nm 1) [1] [some (encProg cs), none] (.and (.cmp .in_ (.ix (.var 1) (.int 0)) (.tup (.cons (.str "hard") (.cons (.str "mixed") (.cons (.str "soft") .nil))))) (.cmp .eq (.ix (.var 1) (.int 1)) (.int 1))) (.int 1)) rfl encCmd (fun _ => .int 1) isCut1 cs (by
    intro c _
    cases c with
    | cut x k =>
      have e : x.str ∈ (["hard", "mixed", "soft"] : List Str) := by cases x <;> decide
      by_cases h : k = 1
      · simp [tn, P.put, wipeR, Bo_eq, encCmd, wIn3, e, isCut1, h]
      · have h' : ¬ (k : Int) = 1 := by omega
        simp [tn, P.put, wipeR, Bo_eq, encCmd, wIn3, e, isCut1, h, h']
    | _ => simp [tn, P.put, wipeR, Bo_eq, encCmd, wIn3, isCut1])
  simp [d_law_cuts, List.replicate, encProg] at q ⊢
  rw [q]
  simp [cuts]
theorem a_switches (hd : tb 12 = some d_law_switches) (cs : List Cmd) : Ans tb 1 12 [encProg cs] (.int (switches cs)) := by
  refine ans_of (k := 0) (by simp [unders]) rfl fun n hn => ?_
  rw [callF_R hd rfl rfl]
  have q := compL_filter (src := []) (S := []) (f := tn (callF gc0 tb n) (.nm 1) [1] [some (encProg cs), none] (.cmp .eq (.var 1) (.tup (.cons (.str "switch") .nil))) (.int 1)) rfl encCmd (fun _ => .int 1) isSwitch cs (by
    intro c _
    have e : ∀ S, wEq (encCmd c) (.tup [.str "switch"]) S = some (isSwitch c, S) := by
      intro S
      rw [show W.tup [W.str (Str.ofString "switch")] = encCmd .switch from rfl, wEq_pn (pn_Cmd c) (pn_Cmd .switch)]
      congr 2
      cases c with
      | cut x k => cases x <;> simp [encCmd, isSwitch]
      | _ => simp [encCmd, isSwitch]
    cases h : isSwitch c <;> simp [tn, P.put, wipeR, Bo_eq, e, h])
  simp [d_law_switches, List.replicate, encProg] at q ⊢
  rw [q]
  simp [switches]
/-! ### light -/
theorem ints_map {α : Type} (g : α → Nat) (l : List α) : intsOf (l.map fun a => W.int (g a)) = some (l.map fun a => (g a : Int)) := by
  induction l with
  | nil => rfl
  | cons a l ih => simp only [List.map_cons, intsOf, ih]
theorem maxOf_nat (l : List Nat) (h : l ≠ []) : ∃ m : Nat, maxOf (l.map fun (a : Nat) => (a : Int)) = some (m : Int) := by
  cases l with
  | nil => exact absurd rfl h
  | cons a l =>
    simp only [List.map_cons, maxOf]
    have : ∀ (l : List Nat) (a : Nat), ∃ m : Nat, (l.map fun (a : Nat) => (a : Int)).foldl (fun m y => if m < y then y else m) (a : Int) = m := by
      intro l
      induction l with
      | nil => intro a; exact ⟨a, rfl⟩
      | cons b l ih =>
        intro a
        simp only [List.map_cons, List.foldl_cons]
        by_cases h : (a : Int) < b
        · rw [if_pos h]; exact ih b
        · rw [if_neg h]; exact ih a
    obtain ⟨m, hm⟩ := this l a
    exact ⟨m, by rw [hm]⟩
/-- light, by the most cuts and switches -/
def lightM (a b : Nat) : Bool := decide (a < 2) && (decide (b < 3) && (decide (a = 0) || decide (b = 0)))
def lightB (cs : List Cmd) : Bool := lightM (cuts cs) (switches cs)
/-- the light ones -/
theorem a_light (hd : tb 13 = some d_law_light) (h11 : tb 11 = some d_law_cuts) (h12 : tb 12 = some d_law_switches) (css : List (List Cmd)) (hc : css ≠ []) {S : Sto} (hS : wf S = true) {r : Nat} (hr : S[r]? = some (.lst (css.map encProg))) (x : W) {n : Nat} (hn : 2 ≤ n) : ∃ m1 m2 : Nat, maxOf ((css.map cuts).map fun (a : Nat) => (a : Int)) = some (m1 : Int) ∧ maxOf ((css.map switches).map fun (a : Nat) => (a : Int)) = some (m2 : Int) ∧ callF gc0 tb n 13 [.ref r, x] S = some (.bl (lightM m1 m2), S) := by
  cases n with
  | zero => omega
  | succ n =>
    have hst : stands S [(r, .lst (css.map encProg))] = true := by simp [stands, hr]
    have ei : wIter (.ref r) S = some ((css.map encProg, [(r, .lst (css.map encProg))]), S) := by
      unfold wIter
      simp only [dictOf, seqOf, listOf, srcOf, hr]
    have q1 : ∀ a b : Option W, compL [(r, .lst (css.map encProg))] (tn (callF gc0 tb n) (.nm 3) [3] [some (.ref r), some x, a, none, b] (.bl true) (.call 11 (.cons (.var 3) .nil))) (css.map encProg) S = some (css.map fun cs => .int (cuts cs), S) := by
      intro a b
      refine compL_map hst encProg (fun cs => .int (cuts cs)) css ?_
      intro cs _
      have q := a_cuts h11 cs n (by omega) S hS
      simp [tn, P.put, wipeR, Bo_eq, q]
    have q2 : ∀ a b : Option W, compL [(r, .lst (css.map encProg))] (tn (callF gc0 tb n) (.nm 3) [3] [some (.ref r), some x, a, none, b] (.bl true) (.call 12 (.cons (.var 3) .nil))) (css.map encProg) S = some (css.map fun cs => .int (switches cs), S) := by
      intro a b
      refine compL_map hst encProg (fun cs => .int (switches cs)) css ?_
      intro cs _
      have q := a_switches h12 cs n (by omega) S hS
      simp [tn, P.put, wipeR, Bo_eq, q]
    obtain ⟨m1, hm1⟩ := maxOf_nat (css.map cuts) (by simpa using hc)
    obtain ⟨m2, hm2⟩ := maxOf_nat (css.map switches) (by simpa using hc)
    have hm1' := hm1
    have hm2' := hm2
    have x1 : wBlt .max1 [.lst (css.map fun cs => .int (cuts cs))] S = some (.int m1, S) := by
      simp only [wBlt, bMax1, listOf, Option.bind, ints_map]
      rw [List.map_map] at hm1
      rw [show (css.map fun a => (cuts a : Int)) = css.map ((fun (a : Nat) => (a : Int)) ∘ cuts) from rfl, hm1]
    have x2 : wBlt .max1 [.lst (css.map fun cs => .int (switches cs))] S = some (.int m2, S) := by
      simp only [wBlt, bMax1, listOf, Option.bind, ints_map]
      rw [List.map_map] at hm2
      rw [show (css.map fun a => (switches a : Int)) = css.map ((fun (a : Nat) => (a : Int)) ∘ switches) from rfl, hm2]
    have hfin : ∀ b : Bool, finish false S.length (.bl b) S = some (.bl b, S) := fun b => finish_at rfl hS (by simp)
    refine ⟨m1, m2, hm1', hm2', ?_⟩
    rw [callF_R hd rfl rfl]
    simp [Bo_eq, d_law_light, List.replicate, ei, q1, q2, x1, x2]
    have k1 : ((m1 : Int) < 2) = (m1 < 2) := by apply propext; omega
    have k2 : ((m2 : Int) < 3) = (m2 < 3) := by apply propext; omega
    unfold lightM
    by_cases h1 : m1 < 2 <;> by_cases h2 : m2 < 3 <;> by_cases h3 : m1 = 0 <;> simp [k1, k2, h1, h2, h3, hfin]
theorem a_light1 (hd : tb 13 = some d_law_light) (h11 : tb 11 = some d_law_cuts) (h12 : tb 12 = some d_law_switches) (cs : List Cmd) {S : Sto} (hS : wf S = true) {r : Nat} (hr : S[r]? = some (.lst [encProg cs])) (x : W) {n : Nat} (hn : 2 ≤ n) : callF gc0 tb n 13 [.ref r, x] S = some (.bl (lightB cs), S) := by
  obtain ⟨m1, m2, e1, e2, e3⟩ := a_light hd h11 h12 [cs] (by simp) hS hr x hn
  rw [e3]
  simp only [List.map_cons, List.map_nil, maxOf, List.foldl_nil, Option.some.injEq] at e1 e2
  have h1 : cuts cs = m1 := by omega
  have h2 : switches cs = m2 := by omega
  rw [← h1, ← h2]
  rfl
/-- a drawn program: short, of such commands -/
def ProgOk (l : List Str) (most : Nat) (cs : List Cmd) : Prop := (cs.length ≤ most ∧ lightB cs = true) ∧ ∃ v : Int, 1 ≤ v ∧ v ≤ 3 ∧ ∀ c ∈ cs, CmdOk l v c
structure Tb4 (tb : Nat → Option Def) : Prop where
  draw : tb 0 = some d_law_draw
  command : tb 10 = some d_law_command
  cuts : tb 11 = some d_law_cuts
  switches : tb 12 = some d_law_switches
  light : tb 13 = some d_law_light
  program : tb 14 = some d_law_program
def bodyG : C := .seq (.asg (.nm 6) (.bin .add (.var 3) (.tup (.cons (.call 10 (.cons (.var 0) (.cons (.var 1) (.cons (.var 4) .nil)))) .nil))))
  (.ite (.call 13 (.cons (.lst (.cons (.var 6) .nil)) (.cons (.var 1) .nil)))
  (.asg (.nm 3) (.var 6))
  .skip)
theorem a_program (T : Tb4 tb) {l : List Str} (hl : l ≠ []) (hl2 : l.length < 1000) (x : W) {most : Nat} (hm : most < 1000) : Drawn tb 4 14 [x, .int most] encProg (ProgOk l most) (NamesAt x l) := by
  intro n hn ns i c rest hr hx
  cases n with
  | zero => omega
  | succ n =>
    obtain ⟨v0, i1, c1, e1, g1, g2⟩ := a_draw T.draw (n := n) (by omega) (many := 3) (by decide) (by decide) ns i c hr
    obtain ⟨k, i2, c2, e2, g3, g4⟩ := a_draw T.draw (n := n) (by omega) (many := (most : Int) + 1) (by omega) (by unfold bigN; omega) ns i1 c1 hr
    obtain ⟨k, rfl⟩ : ∃ a : Nat, k = a := ⟨k.toNat, by omega⟩
    have key : ∀ (d : List Nat) (z : Nat) (r : List Nat) (ρ : Rho) (S : Sto), List.range k = d ++ z :: r → (∃ i c more cs a b, S = tp ns i c (rest ++ more) ∧ (∀ o ∈ more, o.under 0 = true) ∧ (cs.length ≤ d.length ∧ lightB cs = true) ∧ (∀ q ∈ cs, CmdOk l (1 + v0) q) ∧ ρ = [some (.ref 1), some x, some (.int most), some (encProg cs), some (.int (1 + v0)), a, b]) → ∃ ρ', P.put (.nm 5) (W.int (Int.ofNat z)) ρ = some ρ' ∧ ∃ ρ2 S2, R (callF gc0 tb n) bodyG ρ' S = some (.nx, ρ2, S2) ∧ (∃ i c more cs a b, S2 = tp ns i c (rest ++ more) ∧ (∀ o ∈ more, o.under 0 = true) ∧ (cs.length ≤ (d ++ [z]).length ∧ lightB cs = true) ∧ (∀ q ∈ cs, CmdOk l (1 + v0) q) ∧ ρ2 = [some (.ref 1), some x, some (.int most), some (encProg cs), some (.int (1 + v0)), a, b]) := by
      rintro d z r ρ S e ⟨i, c, more, cs, a, b, rfl, hmo, ⟨hlen, hlight⟩, hcs, rfl⟩
      refine ⟨_, rfl, ?_⟩
      have hd : d.length < k := by have := congrArg List.length e; simp at this; omega
      have hx2 : NamesAt x l (rest ++ more) := by
        intro ns i c m
        rw [List.append_assoc]
        exact hx ns i c _
      obtain ⟨q, i3, c3, e3, hq⟩ := a_command T.command T.draw hl hl2 (1 + v0) x n (by omega) ns i c _ (wfR_app hr hmo) hx2
      have hap : W.tup (cs.map encCmd ++ [encCmd q]) = encProg (cs ++ [q]) := by simp [encProg]
      have hmo2 : ∀ o ∈ more ++ [.lst [encProg (cs ++ [q])]], o.under 0 = true := by
        intro o ho
        rcases List.mem_append.mp ho with ho | ho
        · exact hmo o ho
        · simp only [List.mem_cons, List.not_mem_nil, or_false] at ho
          subst ho
          simp [Ob.under]
      have hwl := wf_tp (ns := ns) (i := i3) (c := c3) (wfR_app hr hmo2)
      have e4 := a_light1 T.light T.cuts T.switches (cs ++ [q]) hwl (r := (rest ++ more).length + 2) ((tp_get _).trans (by rw [← List.append_assoc]; exact get_app0 _ [])) x (n := n) (by omega)
      have hle : cs.length + 1 ≤ 16777216 := by omega
      generalize hbb : lightB (cs ++ [q]) = bb at e4
      simp at e4
      cases bb with
      | true =>
        refine ⟨[some (.ref 1), some x, some (.int most), some (encProg (cs ++ [q])), some (.int (1 + v0)), some (.int (Int.ofNat z)), some (encProg (cs ++ [q]))], tp ns i3 c3 (rest ++ (more ++ [.lst [encProg (cs ++ [q])]])), ?_, i3, c3, _, cs ++ [q], _, _, rfl, hmo2, ⟨by simp; omega, hbb⟩, ?_, rfl⟩
        · simp [bodyG, Bo_eq, encProg, e3, lineN, hle] at e4 ⊢
          simp [e4]
        · intro c hc
          rcases List.mem_append.mp hc with hc | hc
          · exact hcs c hc
          · simp only [List.mem_cons, List.not_mem_nil, or_false] at hc
            exact hc ▸ hq
      | false =>
        refine ⟨[some (.ref 1), some x, some (.int most), some (encProg cs), some (.int (1 + v0)), some (.int (Int.ofNat z)), some (encProg (cs ++ [q]))], tp ns i3 c3 (rest ++ (more ++ [.lst [encProg (cs ++ [q])]])), ?_, i3, c3, _, cs, _, _, rfl, hmo2, ⟨by simp; omega, hlight⟩, hcs, rfl⟩
        simp [bodyG, Bo_eq, encProg, e3, lineN, hle] at e4 ⊢
        simp [e4]
    obtain ⟨ρ2, S2, e3, i3, c3, more, cs, a, b, rfl, hmo, ⟨hlen, hlight⟩, hcs, rfl⟩ := forL_pre (src := []) (t := .nm 5) (f := fun ρ S => R (callF gc0 tb n) bodyG ρ S) (fun d ρ S => ∃ i c more cs a b, S = tp ns i c (rest ++ more) ∧ (∀ o ∈ more, o.under 0 = true) ∧ (cs.length ≤ d.length ∧ lightB cs = true) ∧ (∀ q ∈ cs, CmdOk l (1 + v0) q) ∧ ρ = [some (.ref 1), some x, some (.int most), some (encProg cs), some (.int (1 + v0)), a, b]) (fun (i : Nat) => W.int (Int.ofNat i)) (fun _ _ _ _ => rfl) (List.range k) key (ρ := [some (.ref 1), some x, some (.int most), some (encProg []), some (.int (1 + v0)), none, none]) (S := tp ns i2 c2 rest) ⟨i2, c2, [], [], none, none, by simp, (fun o h => by cases h), ⟨by simp, rfl⟩, (fun q h => by cases h), rfl⟩
    rw [List.length_range] at hlen
    refine ⟨cs, i3, c3, ?_, ⟨⟨by omega, hlight⟩, 1 + v0, by omega, by omega, hcs⟩⟩
    rw [callF_R T.program rfl rfl]
    have s1 : R (callF gc0 tb n) (.asg (.tp (.cons (.nm 3) (.cons (.nm 4) .nil))) (.tup (.cons (.tup .nil) (.cons (.bin .add (.int 1) (.call 0 (.cons (.var 0) (.cons (.int 3) .nil)))) .nil)))) [some (.ref 1), some x, some (.int most), none, none, none, none] (tp ns i c rest) = some (.nx, [some (.ref 1), some x, some (.int most), some (encProg []), some (.int (1 + v0)), none, none], tp ns i1 c1 rest) := by
      simp [e1, encProg]
    have r1 := rng1_nat (n := k) (by omega) (tp ns i2 c2 rest)
    have s2 : Vi (callF gc0 tb n) (.rng1 (.call 0 (.cons (.var 0) (.cons (.bin .add (.var 2) (.int 1)) .nil)))) [some (.ref 1), some x, some (.int most), some (encProg []), some (.int (1 + v0)), none, none] (tp ns i1 c1 rest) = some (((List.range k).map fun (i : Nat) => W.int (Int.ofNat i), []), tp ns i2 c2 rest) := by
      simp only [Vi_rng1, V_call, Vs_cons, Vs_nil, V_var, V_bin, V_int, rhoS, rho0, ob_some, wBin_add, e2, r1]
    have hfin := finish_tp (ns := ns) (i := i) (c := c) (i' := i3) (c' := c3) more (under_Prog cs 0) hr
    show fin false (tp ns i c rest).length (R (callF gc0 tb n) (.seq (.asg (.tp (.cons (.nm 3) (.cons (.nm 4) .nil))) (.tup (.cons (.tup .nil) (.cons (.bin .add (.int 1) (.call 0 (.cons (.var 0) (.cons (.int 3) .nil)))) .nil)))) (.seq (.for_ (.nm 5) (.rng1 (.call 0 (.cons (.var 0) (.cons (.bin .add (.var 2) (.int 1)) .nil)))) bodyG) (.ret (.var 3)))) [some (.ref 1), some x, some (.int most), none, none, none, none] (tp ns i c rest)) = _
    rw [R_seq, s1, sb_nx, R_seq, R_for, s2, ob_some, e3, sb_nx, R_ret, V_var]
    exact hfin
/-! ### drawn names -/
def names3 : List (List Str) := [["a"], ["a", "bb"], ["dog", "c"]]
theorem finish_ref {ns : List Int} {i c i' c' : Int} {rest more : Sto} {k : Nat} {ws : List W} (hr : wfR rest) (hk : more[k]? = some (.lst ws)) (hw : unders 0 ws = true) : finish false (tp ns i c rest).length (.ref (rest.length + k + 2)) (tp ns i' c' (rest ++ more)) = some (.lst ws, tp ns i' c' rest) := by
  have hg : (tp ns i' c' (rest ++ more))[rest.length + k + 2]? = some (.lst ws) := by
    rw [tp_get, List.getElem?_append_right (by omega)]
    rw [show rest.length + k - rest.length = k by omega, hk]
  have hf : W.frz (tp ns i c rest).length (tp ns i' c' (rest ++ more)) (.ref (rest.length + k + 2)) = some (.lst ws) := by
    unfold W.frz
    have : ¬ rest.length + k + 2 < (tp ns i c rest).length := by rw [tp_len]; omega
    simp only [W.mapR, thaw, if_neg this, hg]
    rw [mapRs_no _ ws hw]; rfl
  have hu : W.under (tp ns i c rest).length (.lst ws) = true := unders_le (Nat.zero_le _) ws hw
  have ht : (tp ns i' c' (rest ++ more)).take (tp ns i c rest).length = tp ns i' c' rest := by
    exact List.take_left (l₁ := tp ns i' c' rest) (l₂ := more)
  have hwf := wf_tp (ns := ns) (i := i') (c := c') hr
  unfold finish
  rw [if_neg Bool.false_ne_true, hf]
  simp only [ht]
  rw [if_pos ⟨hu, hwf⟩]
end
end TZ

set_option Elab.async false
set_option linter.all false
set_option maxRecDepth 100000
set_option maxHeartbeats 4000000
/-! P19: drawn names; the end of a file; projects by the view of each name. -/
namespace TZ
open PySem
section
variable {tb : Nat → Option Def}
theorem a_names (hd : tb 15 = some d_law_names) (h0 : tb 0 = some d_law_draw) : Drawn tb 2 15 [] (fun l => W.lst (l.map .str)) (fun l => l ∈ names3) (fun _ => True) := by
  intro n hn ns i c rest hr _
  cases n with
  | zero => omega
  | succ n =>
    let more : Sto := [.lst [.str "a"], .lst [.str "a", .str "bb"], .lst [.str "dog", .str "c"], .lst [.ref (rest.length + 0 + 2), .ref (rest.length + 1 + 2), .ref (rest.length + 2 + 2)]]
    have hr2 : wfR (rest ++ more) := by
      intro o ho
      rcases List.mem_append.mp ho with h | h
      · exact obUnder_le (by simp) o (hr o h)
      · have hl : (rest ++ more).length + 2 = rest.length + 6 := by simp [more]
        rw [hl]
        simp only [more, List.mem_cons, List.not_mem_nil, or_false] at h
        rcases h with rfl | rfl | rfl | rfl
        · rfl
        · rfl
        · rfl
        · simp [Ob.under, W.under]
    obtain ⟨d, i1, c1, e1, g1, g2⟩ := a_draw h0 (n := n) (by omega) (many := 3) (by decide) (by decide) ns i c hr2
    have hg : (tp ns i1 c1 (rest ++ more))[rest.length + 3 + 2]? = some (.lst [.ref (rest.length + 0 + 2), .ref (rest.length + 1 + 2), .ref (rest.length + 2 + 2)]) := by
      rw [tp_get, List.getElem?_append_right (by omega)]
      rw [show rest.length + 3 - rest.length = 3 by omega]; rfl
    have e2 := wIx_ref hg d
    have hd3 : d = 0 ∨ d = 1 ∨ d = 2 := by omega
    have body : ∀ k : Nat, d = k → k < 3 → R (callF gc0 tb n) d_law_names.body [some (.ref 1)] (tp ns i c rest) = some (.ret (.ref (rest.length + k + 2)), [some (.ref 1)], tp ns i1 c1 (rest ++ more)) := by
      intro k hk hk3
      have : atOf [W.ref (rest.length + 0 + 2), .ref (rest.length + 1 + 2), .ref (rest.length + 2 + 2)] d = some (.ref (rest.length + k + 2)) := by
        subst hk
        have : k = 0 ∨ k = 1 ∨ k = 2 := by omega
        rcases this with rfl | rfl | rfl <;> rfl
      rw [this] at e2
      simp [d_law_names, more] at e1 e2 ⊢
      simp [e1, e2]
    have fin3 : ∀ (k : Nat) (l : List Str), d = k → k < 3 → more[k]? = some (.lst (l.map .str)) → l ∈ names3 → ∃ v i' c', callF gc0 tb (n + 1) 15 [.ref 1] (tp ns i c rest) = some (W.lst (v.map .str), tp ns i' c' rest) ∧ v ∈ names3 := by
      intro k l hk hk3 hm hl
      refine ⟨l, i1, c1, ?_, hl⟩
      rw [callF_R hd rfl rfl]
      show fin false _ (R (callF gc0 tb n) d_law_names.body [some (.ref 1)] (tp ns i c rest)) = _
      rw [body k hk hk3, fin_ret]
      exact finish_ref hr hm (unders_map _ _ _ fun _ _ => rfl)
    rcases hd3 with h | h | h
    · exact fin3 0 ["a"] h (by decide) rfl (by decide)
    · exact fin3 1 ["a", "bb"] h (by decide) rfl (by decide)
    · exact fin3 2 ["dog", "c"] h (by decide) rfl (by decide)
/-- a file's end, or None -/
def encO : Option Pl → W
  | none => .non
  | some p => encPl p
@[simp] theorem under_O (o : Option Pl) (n : Nat) : (encO o).under n = true := by cases o <;> simp [encO]
theorem filter_rowAt {α : Type} (rs : List (Str × α)) (x : Str) : ((rs.filter fun r => decide (r.1 = x)).map Prod.snd).head? = rowAt rs x := by
  induction rs with
  | nil => rfl
  | cons r rs ih =>
    unfold rowAt
    by_cases h : r.1 = x
    · simp [h]
    · simp only [List.filter_cons, h, decide_false, Bool.false_eq_true, if_false]
      exact ih
theorem nb_Pl (p : Pl) : (encPl p).nb = true := by
  simp [encPl, encL, W.nb, nbs, nbs_map encC _ fun a _ => nb_C a, nb_C]
theorem flat_Pl (p : Pl) (n : Nat) : (encPl p).flat (n + 2) = true := by
  simp [encPl, encL, W.flat, flats, flats_map encC n _ fun a _ => flat_C a n, flat_C]
theorem pn_Pl (p : Pl) : Pn (encPl p) := ⟨under_Pl p 0, nb_Pl p, flat_Pl p 28⟩
theorem pn_Pls (l : List Pl) : Pn (.lst (l.map encPl)) := ⟨unders_map _ _ _ fun p _ => under_Pl p 0, nbs_map _ _ fun p _ => nb_Pl p, flats_map encPl 29 _ fun p _ => flat_Pl p 27⟩
theorem pn_O (o : Option Pl) : Pn (encO o) := by
  cases o with
  | none => exact ⟨rfl, rfl, rfl⟩
  | some p => exact pn_Pl p
theorem a_end_of (hd : tb 80 = some d_law_end_of) (p : Pr) (x : Str) : Ans tb 1 80 [encPr p, .str x] (encO (rowAt p.fs x)) := by
  refine ans_of (k := 0) (by simp [unders]) (by simp) fun n hn => ?_
  rw [callF_R hd rfl rfl]
  have q := compL_filter (src := []) (S := []) (f := tn (callF gc0 tb n) (.nm 3) [3] [some (encPr p), some (.str x), none, none] (.cmp .eq (.ix (.var 3) (.int 0)) (.var 1)) (.slc (.var 3) (.int 1) .non)) rfl encF (fun f => encPl f.2) (fun f => decide (f.1 = x)) p.fs (by
    intro f _
    by_cases h : f.1 = x
    · simp [tn, P.put, wipeR, Bo_eq, encF_eq, h]; rfl
    · simp [tn, P.put, wipeR, Bo_eq, encF_eq, h])
  have e3 : ((p.fs.filter fun f => decide (f.1 = x)).map fun f => encPl f.2) = ((p.fs.filter fun f => decide (f.1 = x)).map Prod.snd).map encPl := by simp
  rw [e3] at q
  have hh := filter_rowAt p.fs x
  generalize hl : (p.fs.filter fun f => decide (f.1 = x)).map Prod.snd = l at q hh
  have q2 := wEq_ref (pn_Pls l) (r := 0) (S := [.lst []]) (ws := []) rfl pn_nil
  rw [← hh]
  cases l with
  | nil =>
    simp [d_law_end_of, List.replicate, Bo_eq] at q ⊢
    simp [q]
    simp at q2
    simp [q2, encO]
  | cons a l =>
    have e4 : wIx (.lst (encPl a :: l.map encPl)) (.int 0) [.lst []] = some (encPl a, [.lst []]) := by
      unfold wIx
      simp [dictOf, seqOf, listOf]
    simp [d_law_end_of, List.replicate, Bo_eq] at q ⊢
    simp [q]
    simp at q2
    simp [q2, encO, e4]
end
end TZ

set_option Elab.async false
set_option linter.all false
set_option maxRecDepth 100000
set_option maxHeartbeats 4000000
/-! P20: the mathematics of projects: each name alone. -/
namespace TZ
open PySem
/-- what stands at a name: nothing is a blank -/
def Pr.view (p : Pr) (x : Str) : Pl := (rowAt p.fs x).getD (blank p)
def Pr.tidy (p : Pr) : Prop := ∀ f ∈ p.fs, f.2.empty = false
theorem all_rep {n : Nat} {l : List Cn} (h : ∀ x ∈ l, x = none) (hl : l.length = n) : l = List.replicate n none := by
  rw [List.eq_replicate_iff]
  exact ⟨hl, h⟩
theorem empty_iff (q : Pl) : q.empty = true ↔ (∀ x ∈ q.here, x = none) ∧ (∀ x ∈ q.there, x = none) ∧ q.stage = none ∧ q.work = none := by
  unfold Pl.empty Pl.all
  simp [or_imp, forall_and]
theorem empty_blank {p : Pr} {q : Pl} (h1 : q.here.length = p.nh) (h2 : q.there.length = p.nt) (h : q.empty = true) : q = blank p := by
  rw [empty_iff] at h
  obtain ⟨a, b, c, d⟩ := q
  simp only at *
  unfold blank
  rw [all_rep h.1 h1, all_rep h.2.1 h2, h.2.2.1, h.2.2.2]
theorem blank_empty (p : Pr) : (blank p).empty = true := by
  rw [empty_iff]
  simp [blank]
theorem lst_rep {n : Nat} (h : 1 ≤ n) (c : Cn) : lst (List.replicate n c) = c := by
  unfold lst
  cases n with
  | zero => omega
  | succ n => rw [List.getLast?_replicate]; simp
/-- a command that does not name it leaves a blank a blank -/
theorem step_blank {p : Pr} (h1 : 1 ≤ p.nh) (h2 : 1 ≤ p.nt) {x : Str} {c : Cmd} (hc : c.file? ≠ some x) (hr : p.refuses c = false) : (blank p).step x c = ⟨List.replicate (p.counts c).1 none, List.replicate (p.counts c).2 none, none, none⟩ := by
  cases c with
  | commit => simp [Pl.step, blank, Pr.counts, List.replicate_succ']
  | switch => simp [Pl.step, blank, Pr.counts, Pl.switched, lst_rep h1, lst_rep h2]
  | cut y k =>
    simp only [Pr.refuses, decide_eq_false_iff_not] at hr
    have h3 : (List.replicate p.nh (none : Cn)).take (p.nh - k) = List.replicate (p.nh - k) none := by rw [List.take_replicate]; congr 1; omega
    have h4 : lst (List.replicate (p.nh - k) (none : Cn)) = none := lst_rep (by omega) _
    simp [Pl.step, blank, Pr.counts, Pl.cut, h3, h4]
  | write f v =>
    have : ¬ f = x := fun e => hc (by rw [e]; rfl)
    simp [Pl.step, blank, Pr.counts, this]
  | add f =>
    have : ¬ f = x := fun e => hc (by rw [e]; rfl)
    simp [Pl.step, blank, Pr.counts, this]
  | unstage f =>
    have : ¬ f = x := fun e => hc (by rw [e]; rfl)
    simp [Pl.step, blank, Pr.counts, this]
  | restore f =>
    have : ¬ f = x := fun e => hc (by rw [e]; rfl)
    simp [Pl.step, blank, Pr.counts, this]
theorem rows_view {p : Pr} (hp : p.ok) (c : Cmd) {x : Str} {q : Pl} (h : rowAt (p.rows c) x = some q) : q = p.view x := by
  unfold Pr.rows at h
  unfold Pr.view
  split at h
  · split at h
    · rw [h]; rfl
    · rename_i f _ hf
      rw [rowAt_ins _ hf hp.2.2.2.2.1] at h
      split at h
      · rename_i e
        subst e
        cases e2 : rowAt p.fs f with
        | none => simpa using h.symm
        | some a => exact absurd (List.mem_map.mpr ⟨_, rowAt_mem e2, rfl⟩) hf
      · rw [h]; rfl
  · rw [h]; rfl
theorem rows_none {p : Pr} (hp : p.ok) (c : Cmd) {x : Str} (h : rowAt (p.rows c) x = none) : c.file? ≠ some x ∧ rowAt p.fs x = none := by
  unfold Pr.rows at h
  split at h
  · rename_i f hf
    split at h
    · rename_i hm
      refine ⟨?_, h⟩
      rintro e
      rw [hf] at e
      cases e
      obtain ⟨g, hg, e⟩ := List.mem_map.mp hm
      subst e
      rw [rowAt_of (ordered.nodup hp.2.2.2.2.1) hg] at h
      cases h
    · rename_i hm
      rw [rowAt_ins _ hm hp.2.2.2.2.1] at h
      split at h
      · cases h
      · rename_i e
        exact ⟨fun e2 => e (by rw [hf] at e2; cases e2; rfl), h⟩
  · rename_i hf
    exact ⟨(by rw [hf]; exact fun e => (by cases e)), h⟩
theorem rowAt_map_filter (rs : List Fi) (hn : (rs.map Prod.fst).Nodup) (g : Str → Pl → Pl) (x : Str) : rowAt ((rs.map fun r => (r.1, g r.1 r.2)).filter fun r => !r.2.empty) x = ((rowAt rs x).map (g x)).filter fun q => !q.empty := by
  induction rs with
  | nil => rfl
  | cons r rs ih =>
    simp only [List.map_cons, List.nodup_cons] at hn
    have ih := ih hn.2
    simp only [List.map_cons, List.filter_cons, rowAt]
    by_cases h : r.1 = x
    · subst h
      have hnone : rowAt rs r.1 = none := by
        cases e : rowAt rs r.1 with
        | none => rfl
        | some a => exact absurd (List.mem_map.mpr ⟨_, rowAt_mem e, rfl⟩) hn.1
      rw [hnone] at ih
      cases he : (g r.1 r.2).empty with
      | true => simp [he, ih, Option.filter]
      | false => simp [he, rowAt, Option.filter]
    · cases he : (g r.1 r.2).empty with
      | true => simp [h, ih]
      | false => simp [h, rowAt, ih]
/-- done, seen at a name -/
theorem done_counts {p : Pr} {c : Cmd} (hr : p.refuses c = false) : (p.done c).nh = (p.counts c).1 ∧ (p.done c).nt = (p.counts c).2 := by
  unfold Pr.done
  rw [hr]
  exact ⟨rfl, rfl⟩
theorem done_refused {p : Pr} {c : Cmd} (hr : p.refuses c = true) : p.done c = p := by
  unfold Pr.done
  rw [if_pos hr]
theorem done_view {p : Pr} (hp : p.ok) {c : Cmd} (hr : p.refuses c = false) (x : Str) : (p.done c).view x = (p.view x).step x c := by
  have hfs : (p.done c).fs = ((p.rows c).map fun r => (r.1, r.2.step r.1 c)).filter fun r => !r.2.empty := by
    unfold Pr.done
    rw [hr]
    rfl
  have hb : blank (p.done c) = ⟨List.replicate (p.counts c).1 none, List.replicate (p.counts c).2 none, none, none⟩ := by
    unfold blank
    rw [(done_counts hr).1, (done_counts hr).2]
  have hro := rows_ordered hp c
  have key := rowAt_map_filter (p.rows c) hro.nodup (fun n q => q.step n c) x
  cases e : rowAt (p.rows c) x with
  | some q =>
    have hq := rows_view hp c e
    have hl := rows_len hp c _ (rowAt_mem e)
    have hsl := step_counts (p := p) x c hl.1 hl.2
    rw [← hq]
    rw [e] at key
    conv => lhs; unfold Pr.view
    rw [hfs, key]
    cases he : (q.step x c).empty with
    | true =>
      simp only [Option.map_some, Option.filter, he, Bool.not_true, Bool.false_eq_true, if_false, Option.getD_none]
      exact (empty_blank (p := p.done c) (by rw [(done_counts hr).1]; exact hsl.1) (by rw [(done_counts hr).2]; exact hsl.2) he).symm
    | false => simp [Option.filter, he]
  | none =>
    obtain ⟨h1, h2⟩ := rows_none hp c e
    rw [e] at key
    have hv : p.view x = blank p := by unfold Pr.view; rw [h2]; rfl
    rw [hv, step_blank hp.1 hp.2.1 h1 hr]
    unfold Pr.view
    rw [hfs, key]
    exact hb
theorem done_tidy {p : Pr} (h : p.tidy) (c : Cmd) : (p.done c).tidy := by
  unfold Pr.done
  split
  · exact h
  · intro f hf
    have := (List.mem_filter.mp hf).2
    simpa using this
theorem after_tidy {p : Pr} (h : p.tidy) (cs : List Cmd) : (p.after cs).tidy := by
  induction cs generalizing p with
  | nil => exact h
  | cons c cs ih => exact ih (done_tidy h c)
/-- what stands at a name, out of the view -/
theorem rowAt_view {p : Pr} (h : p.tidy) (x : Str) : rowAt p.fs x = if (p.view x).empty = true then none else some (p.view x) := by
  unfold Pr.view
  cases e : rowAt p.fs x with
  | none => simp [blank_empty]
  | some q =>
    have := h _ (rowAt_mem e)
    simp at this
    simp [this]
/-! ### what is refused, command by command -/
def Pr.flags : Pr → List Cmd → List Bool
  | _, [] => []
  | p, c :: cs => p.refuses c :: (p.done c).flags cs
def idx : Nat → List Bool → List Nat
  | _, [] => []
  | k, b :: bs => (if b = true then [k] else []) ++ idx (k + 1) bs
theorem refused_idx (p : Pr) (cs : List Cmd) (k : Nat) (l : List Nat) : ((cs.zipIdx k).foldl refStep (l, p)).1 = l ++ idx k (p.flags cs) := by
  induction cs generalizing p k l with
  | nil => simp [Pr.flags, idx]
  | cons c cs ih =>
    simp only [List.zipIdx_cons, List.foldl_cons, Pr.flags, idx]
    rw [show refStep (l, p) (c, k) = (if p.refuses c = true then l ++ [k] else l, p.done c) from rfl, ih]
    split <;> simp
theorem flags_len (p : Pr) (cs : List Cmd) : (p.flags cs).length = cs.length := by
  induction cs generalizing p with
  | nil => rfl
  | cons c cs ih => simp [Pr.flags, ih]
theorem idx_le {k : Nat} {bs : List Bool} {i : Nat} (h : i ∈ idx k bs) : k ≤ i := by
  induction bs generalizing k with
  | nil => simp [idx] at h
  | cons b bs ih =>
    unfold idx at h
    rcases List.mem_append.mp h with h | h
    · split at h <;> simp at h; omega
    · have := ih h; omega
theorem idx_inj {k : Nat} {as bs : List Bool} (hl : as.length = bs.length) (h : idx k as = idx k bs) : as = bs := by
  induction as generalizing k bs with
  | nil => cases bs <;> simp at hl ⊢
  | cons a as ih =>
    cases bs with
    | nil => simp at hl
    | cons b bs =>
      simp only [List.length_cons, Nat.add_right_cancel_iff] at hl
      unfold idx at h
      have no : ∀ cs : List Bool, k ∉ idx (k + 1) cs := fun cs hk => by have := idx_le hk; omega
      cases a <;> cases b
      · simp only [Bool.false_eq_true, if_false, List.nil_append] at h
        rw [ih hl h]
      · exfalso
        simp at h
        exact no as (h ▸ List.mem_cons_self)
      · exfalso
        simp at h
        exact no bs (h ▸ List.mem_cons_self)
      · simp at h
        rw [ih hl h]
theorem refused_flags (p q : Pr) (cs : List Cmd) : p.refused cs = q.refused cs ↔ p.flags cs = q.flags cs := by
  unfold Pr.refused
  rw [refused_idx, refused_idx, List.nil_append, List.nil_append]
  exact ⟨idx_inj (by rw [flags_len, flags_len]), fun h => by rw [h]⟩
/-- where the same is refused, a name goes alone -/
theorem alone {p q : Pr} {B : Nat} {x : Str} {cs : List Cmd} (hp : p.okB B) (hq : q.okB B) (hB : B + cs.length < 1000) (hn : p.nh = q.nh ∧ p.nt = q.nt) (hv : p.view x = q.view x) (hf : p.flags cs = q.flags cs) : (p.after cs).view x = (q.after cs).view x ∧ (p.after cs).nh = (q.after cs).nh ∧ (p.after cs).nt = (q.after cs).nt := by
  induction cs generalizing p q B with
  | nil => exact ⟨hv, hn⟩
  | cons c cs ih =>
    simp only [Pr.flags, List.cons.injEq] at hf
    rw [List.length_cons] at hB
    have hcnt : p.counts c = q.counts c := by cases c <;> simp [Pr.counts, hn]
    refine ih (done_okB hp (by omega) c) (done_okB hq (by omega) c) (by omega) ?_ ?_ hf.2
    · cases hr : p.refuses c with
      | true => rw [done_refused hr, done_refused (hf.1 ▸ hr)]; exact hn
      | false => rw [(done_counts hr).1, (done_counts hr).2, (done_counts (hf.1 ▸ hr)).1, (done_counts (hf.1 ▸ hr)).2, hcnt]; exact ⟨rfl, rfl⟩
    · cases hr : p.refuses c with
      | true => rw [done_refused hr, done_refused (hf.1 ▸ hr)]; exact hv
      | false => rw [done_view (hp.ok (by omega)) hr, done_view (hq.ok (by omega)) (hf.1 ▸ hr), hv]
end TZ

set_option Elab.async false
set_option linter.all false
set_option maxRecDepth 100000
set_option maxHeartbeats 4000000
/-! P21: a file that is everywhere the same. -/
namespace TZ
open PySem
def zz : Str := "zzzz"
def zP (h t : Nat) : Pl := ⟨List.replicate h (some 5), List.replicate t (some 5), some 5, some 5⟩
def withZ (p : Pr) : Pr := ⟨p.nh, p.nt, p.fs ++ [(zz, zP p.nh p.nt)]⟩
def low (l : List Str) : Prop := ∀ x ∈ l, nle x zz = true ∧ x ≠ zz
theorem zP_refuses {h t : Nat} (h1 : 1 ≤ h) (h2 : 1 ≤ t) : (zP h t).refuses = false := by
  simp [Pl.refuses, zP, lst_rep h1, lst_rep h2]
theorem refuses_withZ {p : Pr} (h1 : 1 ≤ p.nh) (h2 : 1 ≤ p.nt) (c : Cmd) : (withZ p).refuses c = p.refuses c := by
  cases c <;> first | rfl | simp [Pr.refuses, withZ, zP_refuses h1 h2]
theorem insR_app {α : Type} (rs : List (Str × α)) {x y : Str} (v w : α) (h : nle x y = true) : insR (rs ++ [(y, w)]) x v = insR rs x v ++ [(y, w)] := by
  induction rs with
  | nil => simp [insR, h]
  | cons r rs ih =>
    simp only [List.cons_append, insR]
    split
    · rfl
    · rw [ih]; rfl
theorem zP_step {p : Pr} (h1 : 1 ≤ p.nh) (h2 : 1 ≤ p.nt) {c : Cmd} (hc : c.file? ≠ some zz) (hr : p.refuses c = false) : (zP p.nh p.nt).step zz c = zP (p.counts c).1 (p.counts c).2 := by
  cases c with
  | commit => simp [Pl.step, zP, Pr.counts, List.replicate_succ']
  | switch => simp [Pl.step, zP, Pr.counts, Pl.switched, lst_rep h1, lst_rep h2]
  | cut y k =>
    simp only [Pr.refuses, decide_eq_false_iff_not] at hr
    have h3 : (List.replicate p.nh (some (5 : Int))).take (p.nh - k) = List.replicate (p.nh - k) (some 5) := by rw [List.take_replicate]; congr 1; omega
    have h4 : lst (List.replicate (p.nh - k) (some (5 : Int))) = some 5 := lst_rep (by omega) _
    simp [Pl.step, zP, Pr.counts, Pl.cut, h3, h4]
  | write f v =>
    have : ¬ f = zz := fun e => hc (by rw [e]; rfl)
    simp [Pl.step, zP, Pr.counts, this]
  | add f =>
    have : ¬ f = zz := fun e => hc (by rw [e]; rfl)
    simp [Pl.step, zP, Pr.counts, this]
  | unstage f =>
    have : ¬ f = zz := fun e => hc (by rw [e]; rfl)
    simp [Pl.step, zP, Pr.counts, this]
  | restore f =>
    have : ¬ f = zz := fun e => hc (by rw [e]; rfl)
    simp [Pl.step, zP, Pr.counts, this]
theorem zP_full (h t : Nat) : (zP h t).empty = false := by
  cases e : (zP h t).empty with
  | false => rfl
  | true => rw [empty_iff] at e; simp [zP] at e
theorem done_withZ {p : Pr} (h1 : 1 ≤ p.nh) (h2 : 1 ≤ p.nt) {c : Cmd} (hl : low (p.fs.map Prod.fst)) (hc : ∀ f, c.file? = some f → nle f zz = true ∧ f ≠ zz) : (withZ p).done c = withZ (p.done c) := by
  unfold Pr.done
  rw [refuses_withZ h1 h2]
  cases hr : p.refuses c with
  | true => rfl
  | false =>
    have hb : blank (withZ p) = blank p := rfl
    have hcn : (withZ p).counts c = p.counts c := by cases c <;> rfl
    have hrows : (withZ p).rows c = p.rows c ++ [(zz, zP p.nh p.nt)] := by
      unfold Pr.rows
      cases e : c.file? with
      | none => rfl
      | some f =>
        have hf := hc f e
        simp only
        have hm : f ∈ (withZ p).fs.map Prod.fst ↔ f ∈ p.fs.map Prod.fst := by
          simp [withZ, hf.2]
        by_cases h : f ∈ p.fs.map Prod.fst
        · rw [if_pos h, if_pos (hm.mpr h)]; rfl
        · rw [if_neg h, if_neg (fun h' => h (hm.mp h')), hb]
          exact insR_app p.fs _ _ hf.1
    have hz := zP_step h1 h2 (c := c) (fun e => (hc zz e).2 rfl) hr
    have hfull := zP_full (p.counts c).1 (p.counts c).2
    simp only [Bool.false_eq_true, if_false, hcn, hrows, List.map_append, List.filter_append, List.map_cons, List.map_nil, hz]
    simp [withZ, hfull]
theorem low_done {p : Pr} (hl : low (p.fs.map Prod.fst)) {c : Cmd} (hc : ∀ f, c.file? = some f → nle f zz = true ∧ f ≠ zz) : low ((p.done c).fs.map Prod.fst) := by
  unfold Pr.done
  split
  · exact hl
  · intro x hx
    obtain ⟨f, hf, rfl⟩ := List.mem_map.mp hx
    obtain ⟨g, hg, rfl⟩ := List.mem_map.mp (List.mem_filter.mp hf).1
    unfold Pr.rows at hg
    split at hg
    · split at hg
      · exact hl _ (List.mem_map.mpr ⟨g, hg, rfl⟩)
      · rename_i f hf2 _
        rcases (insR_mem _ _ _ _).mp hg with rfl | hg
        · exact hc _ hf2
        · exact hl _ (List.mem_map.mpr ⟨g, hg, rfl⟩)
    · exact hl _ (List.mem_map.mpr ⟨g, hg, rfl⟩)
theorem after_withZ {p : Pr} {B : Nat} (hp : p.okB B) {cs : List Cmd} (hB : B + cs.length < 1000) (hl : low (p.fs.map Prod.fst)) (hc : ∀ c ∈ cs, ∀ f, c.file? = some f → nle f zz = true ∧ f ≠ zz) : (withZ p).after cs = withZ (p.after cs) ∧ (withZ p).flags cs = p.flags cs := by
  induction cs generalizing p B with
  | nil => exact ⟨rfl, rfl⟩
  | cons c cs ih =>
    rw [List.length_cons] at hB
    have hc1 := hc c List.mem_cons_self
    have hd := done_withZ hp.1 hp.2.1 hl hc1
    have := ih (done_okB hp (by omega) c) (by omega) (low_done hl hc1) fun d hd => hc d (List.mem_cons_of_mem _ hd)
    constructor
    · show ((withZ p).done c).after cs = withZ ((p.done c).after cs)
      rw [hd]; exact this.1
    · simp only [Pr.flags]
      rw [hd, this.2, refuses_withZ hp.1 hp.2.1]
theorem withZ_okB {p : Pr} {B : Nat} (hp : p.okB B) (hl : low (p.fs.map Prod.fst)) : (withZ p).okB (B + 1) := by
  obtain ⟨h1, h2, h3, h4, h5, h6, h7⟩ := hp
  refine ⟨h1, h2, by show p.nh ≤ _; omega, by show p.nt ≤ _; omega, by simp [withZ]; exact h5, ?_, ?_⟩
  · unfold withZ ordered
    simp only [List.map_append, List.map_cons, List.map_nil]
    rw [List.pairwise_append]
    refine ⟨h6, List.pairwise_singleton _ _, fun a ha b hb => ?_⟩
    simp only [List.mem_cons, List.not_mem_nil, or_false] at hb
    exact hb ▸ hl a ha
  · intro f hf
    rcases List.mem_append.mp hf with hf | hf
    · exact h7 f hf
    · simp only [List.mem_cons, List.not_mem_nil, or_false] at hf
      subst hf
      simp [zP, withZ]
end TZ

set_option Elab.async false
set_option linter.all false
set_option maxRecDepth 100000
set_option maxHeartbeats 4000000
/-! Q15: the law k15. -/
namespace TZ
open PySem
namespace Q15
theorem encL_inj {a b : List Cn} (h : encL a = encL b) : a = b := by
  simp only [encL, W.tup.injEq] at h
  exact (List.map_inj_right fun x y e => (C_inj x y).mp e).mp h
theorem encF_inj (a b : Fi) : (encF a = encF b) = (a = b) := by
  apply propext
  constructor
  · intro h
    obtain ⟨n, p1, p2, p3, p4⟩ := a
    obtain ⟨m, q1, q2, q3, q4⟩ := b
    simp only [encF, W.tup.injEq, List.cons.injEq, W.str.injEq, and_true] at h
    obtain ⟨h1, h2, h3, h4, h5⟩ := h
    rw [h1, encL_inj h2, encL_inj h3, (C_inj _ _).mp h4, (C_inj _ _).mp h5]
  · rintro rfl; rfl
theorem nb_F (f : Fi) : (encF f).nb = true := by
  simp [encF, encL, W.nb, nbs, nbs_map encC _ fun a _ => nb_C a, nb_C]
theorem flat_F (f : Fi) (n : Nat) : (encF f).flat (n + 2) = true := by
  simp [encF, encL, W.flat, flats, flats_map encC n _ fun a _ => flat_C a n, flat_C]
theorem pn_F (f : Fi) : Pn (encF f) := ⟨under_F f 0, nb_F f, flat_F f 28⟩
theorem pn_Fs (l : List Fi) : Pn (.tup (l.map encF)) := ⟨unders_map _ _ _ fun p _ => under_F p 0, nbs_map _ _ fun p _ => nb_F p, flats_map encF 29 _ fun p _ => flat_F p 27⟩
theorem wEq_F (a b : Fi) (S : Sto) : wEq (encF a) (encF b) S = some (decide (a = b), S) := by
  rw [wEq_pn (pn_F a) (pn_F b)]
  simp [encF_inj]
theorem encNs_inj (a b : List Nat) : (encNs a = encNs b) = (a = b) := by
  apply propext
  constructor
  · intro h
    exact (List.map_inj_right fun x y e => by simp only [W.int.injEq] at e; omega).mp h
  · rintro rfl; rfl
theorem pn_Ns (l : List Nat) : Pn (.lst (encNs l)) := ⟨under_Ns l 0, nbs_map _ _ fun _ _ => rfl, flats_map _ 29 _ fun _ _ => rfl⟩
theorem wEq_Ns (a b : List Nat) (S : Sto) : wEq (.lst (encNs a)) (.lst (encNs b)) S = some (decide (a = b), S) := by
  rw [wEq_pn (pn_Ns a) (pn_Ns b)]
  simp [encNs_inj]
theorem wMul_five {n : Nat} (h1 : 1 ≤ n) (h2 : n < 1000) (S : Sto) : wBin .mul (.tup [.int 5]) (.int n) S = some (encL (List.replicate n (some 5)), S) := by
  simp only [wBin, wMul]
  rw [if_pos ⟨by simp, by simp, by omega, by omega⟩]
  simp [rep_ones, encL]
theorem wSlc_front (l : List W) (z : W) (S : Sto) : wSlc (.tup (l ++ [z])) .non (.int (-1)) S = some (.tup l, S) := by
  show some (W.tup (cutOf (l ++ [z]) none (some (-1))), S) = _
  have e : cutOf (l ++ [z]) none (some (-1)) = l := by
    unfold cutOf plOf
    simp only [if_pos (show (-1 : Int) < 0 by decide)]
    have : (-1 + (((l ++ [z]).length : Nat) : Int)).toNat = l.length := by simp; omega
    rw [this]
    simp
  rw [e]
theorem wIx_back (l : List W) (z : W) (S : Sto) : wIx (.tup (l ++ [z])) (.int (-1)) S = some (z, S) := by
  rw [wIx_tup, atOf_last (by simp)]
  simp
/-- without a file -/
def dropF (p : Pr) (f : Fi) : Pr := ⟨p.nh, p.nt, p.fs.filter fun g => !decide (g = f)⟩
theorem dropF_okB {p : Pr} {B : Nat} (h : p.okB B) (f : Fi) : (dropF p f).okB B := by
  obtain ⟨h1, h2, h3, h4, h5, h6, h7⟩ := h
  exact ⟨h1, h2, h3, h4, Nat.le_trans (List.length_filter_le _ _) h5, List.Pairwise.sublist (List.Sublist.map _ List.filter_sublist) h6, fun g hg => h7 g (List.mem_filter.mp hg).1⟩
theorem dropF_view {p : Pr} {B : Nat} (h : p.okB B) {f g : Fi} (hg : g ∈ (dropF p f).fs) : (dropF p f).view g.1 = p.view g.1 := by
  have hb : blank (dropF p f) = blank p := rfl
  unfold Pr.view
  rw [rowAt_of (ordered.nodup (dropF_okB h f).2.2.2.2.2.1) hg, rowAt_of (ordered.nodup h.2.2.2.2.2.1) (List.mem_filter.mp hg).1]
  rfl
theorem drop_end {p : Pr} {B : Nat} (h : p.okB B) (ht : p.tidy) {cs : List Cmd} (hB : B + cs.length < 1000) {f g : Fi} (hg : g ∈ (dropF p f).fs) (hr : (dropF p f).refused cs = p.refused cs) : rowAt ((dropF p f).after cs).fs g.1 = rowAt (p.after cs).fs g.1 := by
  have ht2 : (dropF p f).tidy := fun k hk => ht k (List.mem_filter.mp hk).1
  have a := alone (x := g.1) (dropF_okB h f) h hB ⟨rfl, rfl⟩ (dropF_view h hg) ((refused_flags _ _ _).mp hr)
  rw [rowAt_view (after_tidy ht2 cs), rowAt_view (after_tidy ht cs), a.1]
structure Tb5 (tb : Nat → Option Def) : Prop where
  a : Tb1 tb
  b : Tb2 tb
  c : Tb4 tb
  names : tb 15 = some d_law_names
  after : tb 47 = some d_after
  refused : tb 49 = some d_refused
  end_of : tb 80 = some d_law_end_of
section
variable {tb : Nat → Option Def} {n : Nat}
def rz (s u n4 : Option W) (p : Pr) (cs : List Cmd) (a8 a9 a10 a11 a12 a13 : Option W) : Rho := [s, some (.ref 1), u, n4, some (encProg cs), some (encPr p), some (encPr (p.after cs)), some (.lst (encNs (p.refused cs))), a8, a9, a10, a11, a12, a13]
def ownB : C := .ite (.cmp .ne (.call 80 (.cons (.var 11) (.cons (.ix (.var 10) (.int 0)) .nil))) (.call 80 (.cons (.var 6) (.cons (.ix (.var 10) (.int 0)) .nil))))
  (.ret (.bl false))
  .skip
def fileB : C := .seq (.asg (.nm 9) (.tup (.cons (.ix (.var 5) (.int 0)) (.cons (.ix (.var 5) (.int 1)) (.cons (.blt .tuple (.cons (.lc [10] (.nm 10) (.iter (.ix (.var 5) (.int 2))) (.cmp .ne (.var 10) (.var 8)) (.var 10)) .nil)) .nil)))))
  (.ite (.cmp .eq (.call 49 (.cons (.var 9) (.cons (.var 4) .nil))) (.var 7))
  (.seq (.asg (.nm 11) (.call 47 (.cons (.var 9) (.cons (.var 4) .nil))))
  (.for_ (.nm 10) (.iter (.ix (.var 9) (.int 2))) ownB))
  .skip)
theorem file_step (T : Tb5 tb) (hn : 4 ≤ n) {S : Sto} (hw : wf S = true) {s u n4 : Option W} {p : Pr} {B : Nat} (hp : p.okB B) (ht : p.tidy) {cs : List Cmd} (hB : B + cs.length < 1000) (f : Fi) (a9 a10 a11 a12 a13 : Option W) : ∃ b9 b10 b11, R (callF gc0 tb n) fileB (rz s u n4 p cs (some (encF f)) a9 a10 a11 a12 a13) S = some (.nx, rz s u n4 p cs (some (encF f)) b9 b10 b11 a12 a13, S) := by
  have q := compL_filter (src := []) (S := S) (f := tn (callF gc0 tb n) (.nm 10) [10] (rz s u n4 p cs (some (encF f)) a9 a10 a11 a12 a13) (.cmp .ne (.var 10) (.var 8)) (.var 10)) rfl encF encF (fun g => !decide (g = f)) p.fs (by
    intro g _
    by_cases h : g = f
    · simp [tn, P.put, wipeR, Bo_eq, rz, wEq_F, h]
    · simp [tn, P.put, wipeR, Bo_eq, rz, wEq_F, h])
  have s1 : R (callF gc0 tb n) (.asg (.nm 9) (.tup (.cons (.ix (.var 5) (.int 0)) (.cons (.ix (.var 5) (.int 1)) (.cons (.blt .tuple (.cons (.lc [10] (.nm 10) (.iter (.ix (.var 5) (.int 2))) (.cmp .ne (.var 10) (.var 8)) (.var 10)) .nil)) .nil))))) (rz s u n4 p cs (some (encF f)) a9 a10 a11 a12 a13) S = some (.nx, rz s u n4 p cs (some (encF f)) (some (encPr (dropF p f))) a10 a11 a12 a13, S) := by
    have h5 : ∀ S, rhoAt 5 (rz s u n4 p cs (some (encF f)) a9 a10 a11 a12 a13) S = some (encPr p, S) := fun _ => rfl
    simp only [R_asg, V_tup, Vs_cons, Vs_nil, V_ix, V_var, V_int, h5, ob_some, wIx_P0, wIx_P1, wIx_P2, V_blt, V_lc, Vi_iter, wIter_tup, q, tuple_lst, List.length_cons, List.length_nil, fitsO_ok (show 0 + 1 + 1 + 1 ≤ 16777216 by decide), Tp_nm]
    rfl
  have c1 := a_refused T.a T.refused (dropF_okB hp f) cs hB n hn S hw
  have c2 := a_after T.a T.after (dropF_okB hp f) cs hB n hn S hw
  have hcond : Bo (callF gc0 tb n) (.cmp .eq (.call 49 (.cons (.var 9) (.cons (.var 4) .nil))) (.var 7)) (rz s u n4 p cs (some (encF f)) (some (encPr (dropF p f))) a10 a11 a12 a13) S = some (decide ((dropF p f).refused cs = p.refused cs), S) := by
    simp [Bo_eq, rz, c1, wEq_Ns]
  unfold fileB
  rw [R_seq, s1, sb_nx, R_ite, hcond, ob_some]
  by_cases hr : (dropF p f).refused cs = p.refused cs
  · rw [if_pos (decide_eq_true hr)]
    have s2 : R (callF gc0 tb n) (.asg (.nm 11) (.call 47 (.cons (.var 9) (.cons (.var 4) .nil)))) (rz s u n4 p cs (some (encF f)) (some (encPr (dropF p f))) a10 a11 a12 a13) S = some (.nx, rz s u n4 p cs (some (encF f)) (some (encPr (dropF p f))) a10 (some (encPr ((dropF p f).after cs))) a12 a13, S) := by
      simp [rz, c2]
    obtain ⟨ρ2, S2, e, rfl, b10, rfl⟩ := forL_pre (src := []) (t := .nm 10) (f := fun ρ S => R (callF gc0 tb n) ownB ρ S) (fun _ ρ S2 => S2 = S ∧ ∃ b10, ρ = rz s u n4 p cs (some (encF f)) (some (encPr (dropF p f))) b10 (some (encPr ((dropF p f).after cs))) a12 a13) encF (fun _ _ _ _ => rfl) (dropF p f).fs (by
      rintro d g r ρ S2 e ⟨rfl, b10, rfl⟩
      have hg : g ∈ (dropF p f).fs := by rw [e]; simp
      have e1 := a_end_of T.end_of ((dropF p f).after cs) g.1 n (by omega) S2 hw
      have e2 := a_end_of T.end_of (p.after cs) g.1 n (by omega) S2 hw
      rw [drop_end hp ht hB hg hr] at e1
      have e3 : wEq (encO (rowAt (p.after cs).fs g.1)) (encO (rowAt (p.after cs).fs g.1)) S2 = some (true, S2) := by
        rw [wEq_pn (pn_O _) (pn_O _)]; simp
      have e4 : wIx (encF g) (.int 0) S2 = some (.str g.1, S2) := by rw [encF_eq]; simp
      refine ⟨_, rfl, rz s u n4 p cs (some (encF f)) (some (encPr (dropF p f))) (some (encF g)) (some (encPr ((dropF p f).after cs))) a12 a13, S2, ?_, rfl, _, rfl⟩
      simp [ownB, rz, Bo_eq, e1, e2, e3, e4]) (ρ := rz s u n4 p cs (some (encF f)) (some (encPr (dropF p f))) a10 (some (encPr ((dropF p f).after cs))) a12 a13) (S := S) ⟨rfl, _, rfl⟩
    refine ⟨some (encPr (dropF p f)), b10, some (encPr ((dropF p f).after cs)), ?_⟩
    rw [R_seq, s2, sb_nx, R_for, Vi_iter, V_ix, V_var, show ∀ S, rhoAt 9 (rz s u n4 p cs (some (encF f)) (some (encPr (dropF p f))) a10 (some (encPr ((dropF p f).after cs))) a12 a13) S = some (encPr (dropF p f), S) from fun _ => rfl, ob_some, V_int, ob_some, wIx_P2, ob_some, wIter_tup, ob_some]
    exact e
  · rw [if_neg (by simpa using hr), R_skip]
    exact ⟨_, _, _, rfl⟩
/-- the rest of a turn -/
def sameC : C := .asg (.nm 12) (.tup (.cons (.str "zzzz") (.cons (.bin .mul (.tup (.cons (.int 5) .nil)) (.ix (.var 5) (.int 0))) (.cons (.bin .mul (.tup (.cons (.int 5) .nil)) (.ix (.var 5) (.int 1))) (.cons (.int 5) (.cons (.int 5) .nil))))))
def moreC : C := .asg (.nm 13) (.tup (.cons (.ix (.var 5) (.int 0)) (.cons (.ix (.var 5) (.int 1)) (.cons (.bin .add (.ix (.var 5) (.int 2)) (.tup (.cons (.var 12) .nil))) .nil))))
def endC : C := .ite (.or (.cmp .ne (.slc (.ix (.var 11) (.int 2)) .non (.int (-1))) (.ix (.var 6) (.int 2))) (.cmp .ne (.ix (.ix (.var 11) (.int 2)) (.int (-1))) (.tup (.cons (.str "zzzz") (.cons (.bin .mul (.tup (.cons (.int 5) .nil)) (.ix (.var 6) (.int 0))) (.cons (.bin .mul (.tup (.cons (.int 5) .nil)) (.ix (.var 6) (.int 1))) (.cons (.int 5) (.cons (.int 5) .nil))))))))
  (.ret (.bl false))
  .skip
def lastC : C := .seq sameC (.seq moreC (.seq (.ite (.cmp .ne (.call 49 (.cons (.var 13) (.cons (.var 4) .nil))) (.var 7))
  (.ret (.bl false))
  .skip) (.seq (.asg (.nm 11) (.call 47 (.cons (.var 13) (.cons (.var 4) .nil)))) endC)))
theorem last_step (T : Tb5 tb) (hn : 4 ≤ n) {S : Sto} (hw : wf S = true) {s u n4 : Option W} {p : Pr} {B : Nat} (hp : p.okB B) {cs : List Cmd} (hB : B + 1 + cs.length < 1000) (hl : low (p.fs.map Prod.fst)) (hc : ∀ c ∈ cs, ∀ f, c.file? = some f → nle f zz = true ∧ f ≠ zz) (a8 a9 a10 a11 a12 a13 : Option W) : R (callF gc0 tb n) lastC (rz s u n4 p cs a8 a9 a10 a11 a12 a13) S = some (.nx, rz s u n4 p cs a8 a9 a10 (some (encPr (withZ (p.after cs)))) (some (encF (zz, zP p.nh p.nt))) (some (encPr (withZ p))), S) := by
  have hz := withZ_okB hp hl
  have haz := after_withZ hp (by omega) hl hc
  have hap := after_okB hp cs (by omega)
  have m1 := wMul_five hp.1 (by have := hp.2.2.1; omega)
  have m2 := wMul_five hp.2.1 (by have := hp.2.2.2.1; omega)
  have m3 := wMul_five hap.1 (by have := hap.2.2.1; omega)
  have m4 := wMul_five hap.2.1 (by have := hap.2.2.2.1; omega)
  have s1 : R (callF gc0 tb n) sameC (rz s u n4 p cs a8 a9 a10 a11 a12 a13) S = some (.nx, rz s u n4 p cs a8 a9 a10 a11 (some (encF (zz, zP p.nh p.nt))) a13, S) := by
    simp [sameC, rz, m1, m2]
    rfl
  have hle : p.fs.length + 1 ≤ lineN := by have := hp.2.2.2.2.1; unfold lineN; omega
  have s2 : R (callF gc0 tb n) moreC (rz s u n4 p cs a8 a9 a10 a11 (some (encF (zz, zP p.nh p.nt))) a13) S = some (.nx, rz s u n4 p cs a8 a9 a10 a11 (some (encF (zz, zP p.nh p.nt))) (some (encPr (withZ p))), S) := by
    have ez : W.tup [.int p.nh, .int p.nt, .tup (p.fs.map encF ++ [encF (zz, zP p.nh p.nt)])] = encPr (withZ p) := by simp [encPr, withZ]
    simp [moreC, rz, hle, ez]
  have c1 := a_refused T.a T.refused hz cs (by omega) n hn S hw
  rw [(refused_flags _ _ _).mpr haz.2] at c1
  have c2 := a_after T.a T.after hz cs (by omega) n hn S hw
  rw [haz.1] at c2
  have s3 : R (callF gc0 tb n) (.ite (.cmp .ne (.call 49 (.cons (.var 13) (.cons (.var 4) .nil))) (.var 7)) (.ret (.bl false)) .skip) (rz s u n4 p cs a8 a9 a10 a11 (some (encF (zz, zP p.nh p.nt))) (some (encPr (withZ p)))) S = some (.nx, rz s u n4 p cs a8 a9 a10 a11 (some (encF (zz, zP p.nh p.nt))) (some (encPr (withZ p))), S) := by
    simp [Bo_eq, rz, c1, wEq_Ns]
  have s4 : R (callF gc0 tb n) (.asg (.nm 11) (.call 47 (.cons (.var 13) (.cons (.var 4) .nil)))) (rz s u n4 p cs a8 a9 a10 a11 (some (encF (zz, zP p.nh p.nt))) (some (encPr (withZ p)))) S = some (.nx, rz s u n4 p cs a8 a9 a10 (some (encPr (withZ (p.after cs)))) (some (encF (zz, zP p.nh p.nt))) (some (encPr (withZ p))), S) := by
    simp [rz, c2]
  have e1 : (withZ (p.after cs)).fs.map encF = (p.after cs).fs.map encF ++ [encF (zz, zP (p.after cs).nh (p.after cs).nt)] := by simp [withZ]
  have q1 : wEq (.tup ((p.after cs).fs.map encF)) (.tup ((p.after cs).fs.map encF)) S = some (true, S) := by
    rw [wEq_pn (pn_Fs _) (pn_Fs _)]; simp
  have q2 : wEq (encF (zz, zP (p.after cs).nh (p.after cs).nt)) (encF (zz, zP (p.after cs).nh (p.after cs).nt)) S = some (true, S) := by
    rw [wEq_F]; simp
  have e2 : W.tup [.str "zzzz", encL (List.replicate (p.after cs).nh (some 5)), encL (List.replicate (p.after cs).nt (some 5)), .int 5, .int 5] = encF (zz, zP (p.after cs).nh (p.after cs).nt) := rfl
  have s5 : R (callF gc0 tb n) endC (rz s u n4 p cs a8 a9 a10 (some (encPr (withZ (p.after cs)))) (some (encF (zz, zP p.nh p.nt))) (some (encPr (withZ p)))) S = some (.nx, rz s u n4 p cs a8 a9 a10 (some (encPr (withZ (p.after cs)))) (some (encF (zz, zP p.nh p.nt))) (some (encPr (withZ p))), S) := by
    have i1 := wSlc_front ((p.after cs).fs.map encF) (encF (zz, zP (p.after cs).nh (p.after cs).nt)) S
    have i2 := wIx_back ((p.after cs).fs.map encF) (encF (zz, zP (p.after cs).nh (p.after cs).nt)) S
    rw [wIx_tup] at i2
    simp [endC, Bo_eq, rz, e1, i1, i2, q1, m3, m4, e2, q2]
  unfold lastC
  rw [R_seq, s1, sb_nx, R_seq, s2, sb_nx, R_seq, s3, sb_nx, R_seq, s4, sb_nx, s5]
def turnC : C := .seq (.asg (.nm 3) (.call 15 (.cons (.var 1) .nil)))
  (.seq (.asg (.tp (.cons (.nm 4) (.cons (.nm 5) .nil))) (.tup (.cons (.call 14 (.cons (.var 1) (.cons (.var 3) (.cons (.int 6) .nil)))) (.cons (.call 18 (.cons (.var 1) (.cons (.bin .add (.var 3) (.lst (.cons (.str "x") (.cons (.str "yy") (.cons (.str "zz") .nil))))) .nil))) .nil))))
  (.seq (.asg (.tp (.cons (.nm 6) (.cons (.nm 7) .nil))) (.tup (.cons (.call 47 (.cons (.var 5) (.cons (.var 4) .nil))) (.cons (.call 49 (.cons (.var 5) (.cons (.var 4) .nil))) .nil))))
  (.seq (.for_ (.nm 8) (.iter (.ix (.var 5) (.int 2))) fileB) lastC)))
def InvT (ns : List Int) (s : Option W) (ρ : Rho) (S : Sto) : Prop := ∃ i c rest a2 a3 a4 a5 a6 a7 a8 a9 a10 a11 a12 a13, S = tp ns i c rest ∧ wfR rest ∧ ρ = [s, some (.ref 1), a2, a3, a4, a5, a6, a7, a8, a9, a10, a11, a12, a13]
def xyz : List Str := ["x", "yy", "zz"]
theorem names_low : ∀ l ∈ names3, (l ++ xyz).Nodup ∧ l ≠ [] ∧ l.length ≤ 2 ∧ ∀ x ∈ l ++ xyz, nle x zz = true ∧ x ≠ zz := by decide +kernel
theorem prOk_low {names : List Str} {p : Pr} (h : PrOk names p) (hl : ∀ x ∈ names, nle x zz = true ∧ x ≠ zz) : low (p.fs.map Prod.fst) := by
  intro x hx
  have := h.sub.subset hx
  rw [List.mem_mergeSort] at this
  exact hl x this
theorem turn (T : Tb5 tb) (hn : 6 ≤ n) {ns : List Int} {s : Option W} {ρ : Rho} {S : Sto} (h : InvT ns s ρ S) : ∃ ρ2 S2, R (callF gc0 tb n) turnC ρ S = some (.nx, ρ2, S2) ∧ InvT ns s ρ2 S2 := by
  obtain ⟨i, c, rest, a2, a3, a4, a5, a6, a7, a8, a9, a10, a11, a12, a13, rfl, hr, rfl⟩ := h
  obtain ⟨l, i1, c1, e1, hl⟩ := a_names T.names T.b.draw n (by omega) ns i c rest hr trivial
  obtain ⟨h1, h2, h3, h4⟩ := names_low l hl
  obtain ⟨cs, i2, c2, e2, hcs⟩ := a_program T.c h2 (by omega) (.lst (l.map .str)) (most := 6) (by decide) n (by omega) ns i1 c1 rest hr (fun _ _ _ _ => rfl)
  have hr1 : wfR (rest ++ [.lst [.str "x", .str "yy", .str "zz"]]) := wfR_app hr (by simp [Ob.under])
  obtain ⟨p, i3, c3, e3, hp⟩ := a_project T.b (l ++ xyz) (by simp [xyz]; omega) (.lst ((l ++ xyz).map .str)) n (by omega) ns i2 c2 _ hr1 (fun _ _ _ _ => rfl)
  have hpB : p.okB 8 := (hp.okB h1 (by simp [xyz]; omega)).mono (by simp [xyz]; omega)
  have ht : p.tidy := fun f hf => (hp.fs f hf).2
  have hB : 8 + cs.length < 999 := by have := hcs.1.1; omega
  have hw := wf_tp (ns := ns) (i := i3) (c := c3) hr1
  have e4 := a_after T.a T.after hpB cs (by omega) n (by omega) _ hw
  have e5 := a_refused T.a T.refused hpB cs (by omega) n (by omega) _ hw
  have s1 : R (callF gc0 tb n) (.asg (.nm 3) (.call 15 (.cons (.var 1) .nil))) [s, some (.ref 1), a2, a3, a4, a5, a6, a7, a8, a9, a10, a11, a12, a13] (tp ns i c rest) = some (.nx, [s, some (.ref 1), a2, some (.lst (l.map .str)), a4, a5, a6, a7, a8, a9, a10, a11, a12, a13], tp ns i1 c1 rest) := by
    simp [e1]
  have hadd : wBin .add (.lst (l.map .str)) (.ref (rest.length + 2)) (tp ns i2 c2 (rest ++ [.lst [.str "x", .str "yy", .str "zz"]])) = some (.lst ((l ++ xyz).map .str), tp ns i2 c2 (rest ++ [.lst [.str "x", .str "yy", .str "zz"]])) := by
    rw [add_lists (xs := l.map .str) (ys := [.str "x", .str "yy", .str "zz"]) rfl (stb_ref ((tp_get _).trans (get_app0 _ []))).now (by unfold lineN; simp; omega)]
    simp [xyz]
  have s2 : R (callF gc0 tb n) (.asg (.tp (.cons (.nm 4) (.cons (.nm 5) .nil))) (.tup (.cons (.call 14 (.cons (.var 1) (.cons (.var 3) (.cons (.int 6) .nil)))) (.cons (.call 18 (.cons (.var 1) (.cons (.bin .add (.var 3) (.lst (.cons (.str "x") (.cons (.str "yy") (.cons (.str "zz") .nil))))) .nil))) .nil)))) [s, some (.ref 1), a2, some (.lst (l.map .str)), a4, a5, a6, a7, a8, a9, a10, a11, a12, a13] (tp ns i1 c1 rest) = some (.nx, [s, some (.ref 1), a2, some (.lst (l.map .str)), some (encProg cs), some (encPr p), a6, a7, a8, a9, a10, a11, a12, a13], tp ns i3 c3 (rest ++ [.lst [.str "x", .str "yy", .str "zz"]])) := by
    simp at e2
    simp [-List.map_append, e2, hadd, e3]
  have s3 : R (callF gc0 tb n) (.asg (.tp (.cons (.nm 6) (.cons (.nm 7) .nil))) (.tup (.cons (.call 47 (.cons (.var 5) (.cons (.var 4) .nil))) (.cons (.call 49 (.cons (.var 5) (.cons (.var 4) .nil))) .nil)))) [s, some (.ref 1), a2, some (.lst (l.map .str)), some (encProg cs), some (encPr p), a6, a7, a8, a9, a10, a11, a12, a13] (tp ns i3 c3 (rest ++ [.lst [.str "x", .str "yy", .str "zz"]])) = some (.nx, rz s a2 (some (.lst (l.map .str))) p cs a8 a9 a10 a11 a12 a13, tp ns i3 c3 (rest ++ [.lst [.str "x", .str "yy", .str "zz"]])) := by
    simp [e4, e5, rz]
  obtain ⟨ρ2, S2, e6, rfl, b8, b9, b10, b11, rfl⟩ := forL_pre (src := []) (t := .nm 8) (f := fun ρ S => R (callF gc0 tb n) fileB ρ S) (fun _ ρ S2 => S2 = tp ns i3 c3 (rest ++ [.lst [.str "x", .str "yy", .str "zz"]]) ∧ ∃ b8 b9 b10 b11, ρ = rz s a2 (some (.lst (l.map .str))) p cs b8 b9 b10 b11 a12 a13) encF (fun _ _ _ _ => rfl) p.fs (by
    rintro d f r ρ S2 e ⟨rfl, b8, b9, b10, b11, rfl⟩
    obtain ⟨d9, d10, d11, e7⟩ := file_step T (n := n) (by omega) hw (s := s) (u := a2) (n4 := some (.lst (l.map .str))) hpB ht (cs := cs) (by omega) f b9 b10 b11 a12 a13
    exact ⟨_, rfl, _, _, e7, rfl, _, _, _, _, rfl⟩) (ρ := rz s a2 (some (.lst (l.map .str))) p cs a8 a9 a10 a11 a12 a13) (S := tp ns i3 c3 (rest ++ [.lst [.str "x", .str "yy", .str "zz"]])) ⟨rfl, _, _, _, _, rfl⟩
  obtain ⟨_, v, _, _, hcmd⟩ := hcs
  have e8 := last_step T (n := n) (by omega) hw (s := s) (u := a2) (n4 := some (.lst (l.map .str))) hpB (cs := cs) (by omega) (prOk_low hp h4) (fun q hq f hf => h4 f (List.mem_append_left _ ((hcmd q hq).1 f hf))) b8 b9 b10 b11 a12 a13
  refine ⟨rz s a2 (some (.lst (l.map .str))) p cs b8 b9 b10 (some (encPr (withZ (p.after cs)))) (some (encF (zz, zP p.nh p.nt))) (some (encPr (withZ p))), tp ns i3 c3 (rest ++ [.lst [.str "x", .str "yy", .str "zz"]]), ?_, i3, c3, _, _, _, _, _, _, _, _, _, _, _, _, _, rfl, hr1, rfl⟩
  unfold turnC
  rw [R_seq, s1, sb_nx, R_seq, s2, sb_nx, R_seq, s3, sb_nx, R_seq, R_for, Vi_iter, V_ix, V_var, show ∀ S, rhoAt 5 (rz s a2 (some (.lst (l.map .str))) p cs a8 a9 a10 a11 a12 a13) S = some (encPr p, S) from fun _ => rfl, ob_some, V_int, ob_some, wIx_P2, ob_some, wIter_tup, ob_some, e6, sb_nx]
  exact e8
theorem law (T : Tb5 tb) (h4 : tb 4 = some L_k15.d_law) (hn : 6 ≤ n) (ns : List Int) : ∃ S', callF gc0 tb (n + 1) 4 [.lst (ns.map .int)] [] = some (.bl true, S') := by
  have key : ∀ (d : List Nat) (z : Nat) (r : List Nat) (ρ : Rho) (S : Sto), List.range 10 = d ++ z :: r → InvT ns (some (.lst (ns.map .int))) ρ S → ∃ ρ', P.put (.nm 2) (W.int (Int.ofNat z)) ρ = some ρ' ∧ ∃ ρ2 S2, R (callF gc0 tb n) turnC ρ' S = some (.nx, ρ2, S2) ∧ InvT ns (some (.lst (ns.map .int))) ρ2 S2 := by
    rintro d z r ρ S e ⟨i, c, rest, a2, a3, a4, a5, a6, a7, a8, a9, a10, a11, a12, a13, rfl, hr, rfl⟩
    exact ⟨_, rfl, turn T hn ⟨i, c, rest, _, _, _, _, _, _, _, _, _, _, _, _, rfl, hr, rfl⟩⟩
  obtain ⟨ρ2, S2, e, i, c, rest, a2, a3, a4, a5, a6, a7, a8, a9, a10, a11, a12, a13, rfl, hr, rfl⟩ := forL_pre (src := []) (t := .nm 2) (f := fun ρ S => R (callF gc0 tb n) turnC ρ S) (fun _ ρ S => InvT ns (some (.lst (ns.map .int))) ρ S) (fun (i : Nat) => W.int (Int.ofNat i)) (fun _ _ _ _ => rfl) (List.range 10) key (ρ := [some (.lst (ns.map .int)), some (.ref 1), none, none, none, none, none, none, none, none, none, none, none, none]) (S := tp ns 0 0 []) ⟨0, 0, [], _, _, _, _, _, _, _, _, _, _, _, _, rfl, (fun o h => by cases h), rfl⟩
  refine ⟨[], ?_⟩
  rw [callF_R h4 rfl rfl]
  have r10 := rng1_nat (n := 10) (by decide) (tp ns 0 0 [])
  have s1 : R (callF gc0 tb n) (.asg (.nm 1) (.lst (.cons (.blt .list (.cons (.var 0) .nil)) (.cons (.int 0) (.cons (.int 0) .nil))))) [some (.lst (ns.map .int)), none, none, none, none, none, none, none, none, none, none, none, none, none] [] = some (.nx, [some (.lst (ns.map .int)), some (.ref 1), none, none, none, none, none, none, none, none, none, none, none, none], tp ns 0 0 []) := by
    have hl : wBlt .list [.lst (ns.map .int)] [] = some (.ref 0, [.lst (ns.map .int)]) := rfl
    simp [hl, tp]
  show fin false 0 (R (callF gc0 tb n) (.seq (.asg (.nm 1) (.lst (.cons (.blt .list (.cons (.var 0) .nil)) (.cons (.int 0) (.cons (.int 0) .nil))))) (.seq (.for_ (.nm 2) (.rng1 (.int 10)) turnC) (.ret (.bl true)))) [some (.lst (ns.map .int)), none, none, none, none, none, none, none, none, none, none, none, none, none] []) = _
  rw [R_seq, s1, sb_nx, R_seq, R_for, Vi_rng1, V_int, ob_some, show W.int 10 = W.int ((10 : Nat) : Int) from rfl, r10, ob_some, e, sb_nx]
  simp
end
end Q15
theorem hold_k15 : PySem.Challenge.rw_threeshelves_k15_whole_files_go_alone.Holds :=
  L_k15.close fun ns _ => Q15.law (tb := tbOf L_k15.tab) ⟨⟨rfl, rfl, rfl, rfl, rfl, rfl, rfl, rfl, rfl⟩, ⟨rfl, rfl, rfl, rfl, rfl⟩, ⟨rfl, rfl, rfl, rfl, rfl, rfl⟩, rfl, rfl, rfl, rfl⟩ rfl (n := 29) (by decide) ns
end TZ

theorem PySem.Challenge.cw_threeshelves_k15_whole_files_go_alone_holds : PySem.Challenge.rw_threeshelves_k15_whole_files_go_alone.Holds := by
  exact TZ.hold_k15
