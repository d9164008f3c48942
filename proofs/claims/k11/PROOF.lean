import PyProof.Rows.All
import Wide.All
import OpenK.AllK
import Wide.FinOn
import PySem.Challenge.RW_threeshelves_k11_whole_fewest_moves
import HandS.ForMost
import KE.SortData
import HandS.Star
import KE.KDictKeyed
import HandS.Style
import HandS.TupAny
import HandS.TupMul
import HandS.CallLocal
import HandS.Wide
import HandS.Text
import HandS.Deep
import HandS.RevTup
import HandS.Iter
import HandS.Comp
import HandS.IsInst
import HandS.AnyAll
import PyProof.Rows.TupDisplay
import PyProof.FactsAll.list_3
import PyProof.FactsAll.list_0
import PyProof.FactsAll.dict_3
import HandS.Flow
import HandS.Defaults
import HandS.Exc
import HandS.Words
import HandS.HeadHook1
import HandS.HeadHook2
import HandS.Head0
import HandS.Head1
import HandS.Head2
import HandS.HeadEnd
import KE.KStateDown
set_option Elab.async false
set_option linter.all false
set_option maxRecDepth 100000
/-! A1: values, stores, the small syntax and what it computes. -/
namespace TS
open PySem

/-! ### values without addresses -/
inductive W where
  | non | bl (b : Bool) | int (i : Int) | str (x : Str)
  | tup (ws : List W) | lst (ws : List W) | dct (ks us : List W)
  | ref (n : Nat) | fn (f : Nat)
  deriving Inhabited

mutual
def W.same : W → W → Bool
  | .non, .non => true
  | .bl a, .bl b => a == b
  | .int a, .int b => a == b
  | .str a, .str b => a == b
  | .tup a, .tup b => sames a b
  | .lst a, .lst b => sames a b
  | .dct a c, .dct b d => sames a b && sames c d
  | .ref a, .ref b => a == b
  | .fn a, .fn b => a == b
  | _, _ => false
def sames : List W → List W → Bool
  | [], [] => true
  | a :: as, b :: bs => W.same a b && sames as bs
  | _, _ => false
end
mutual
theorem W.same_self : ∀ a : W, W.same a a = true
  | .non => rfl
  | .bl a => by simp [W.same]
  | .int a => by simp [W.same]
  | .str a => by simp [W.same]
  | .tup a => by simp [W.same, sames_self a]
  | .lst a => by simp [W.same, sames_self a]
  | .dct a c => by simp [W.same, sames_self a, sames_self c]
  | .ref a => by simp [W.same]
  | .fn a => by simp [W.same]
theorem sames_self : ∀ a : List W, sames a a = true
  | [] => rfl
  | a :: as => by simp [sames, W.same_self a, sames_self as]
end
mutual
theorem W.eq_of_same : ∀ a b : W, W.same a b = true → a = b
  | .non, b, h => by cases b <;> simp_all [W.same]
  | .bl a, b, h => by cases b <;> simp_all [W.same]
  | .int a, b, h => by cases b <;> simp_all [W.same]
  | .str a, b, h => by cases b <;> simp_all [W.same]
  | .tup a, b, h => by
    cases b <;> simp only [W.same, Bool.false_eq_true] at h
    rw [eq_of_sames a _ h]
  | .lst a, b, h => by
    cases b <;> simp only [W.same, Bool.false_eq_true] at h
    rw [eq_of_sames a _ h]
  | .dct a c, b, h => by
    cases b <;> simp only [W.same, Bool.false_eq_true, Bool.and_eq_true] at h
    rw [eq_of_sames a _ h.1, eq_of_sames c _ h.2]
  | .ref a, b, h => by cases b <;> simp_all [W.same]
  | .fn a, b, h => by cases b <;> simp_all [W.same]
theorem eq_of_sames : ∀ a b : List W, sames a b = true → a = b
  | [], b, h => by cases b <;> simp_all [sames]
  | a :: as, b, h => by
    cases b with
    | nil => simp [sames] at h
    | cons b bs =>
      simp only [sames, Bool.and_eq_true] at h
      rw [W.eq_of_same a b h.1, eq_of_sames as bs h.2]
end
instance : DecidableEq W := fun a b => if h : W.same a b = true then .isTrue (W.eq_of_same a b h) else .isFalse fun e => h (e ▸ W.same_self a)

inductive Ob where
  | lst (ws : List W) | dct (ks us : List W)
  deriving DecidableEq, Inhabited

abbrev Sto := List Ob
abbrev Rho := List (Option W)

/-! ### equality, as data -/
mutual
def W.py : W → PyData
  | .bl b => .bool b
  | .int i => .int i
  | .str x => .str x
  | .tup ws => .tuple (pys ws)
  | .lst ws => .list (pys ws)
  | .non | .dct _ _ | .ref _ | .fn _ => .none
def pys : List W → List PyData
  | [] => []
  | w :: ws => W.py w :: pys ws
end
mutual
/-- data all through: nothing that is a place, a def or a dict; not deeper than n -/
def W.flat : Nat → W → Bool
  | _, .non | _, .bl _ | _, .int _ | _, .str _ => true
  | 0, .tup _ | 0, .lst _ => false
  | n + 1, .tup ws | n + 1, .lst ws => flats n ws
  | _, .dct _ _ | _, .ref _ | _, .fn _ => false
def flats : Nat → List W → Bool
  | _, [] => true
  | n, w :: ws => W.flat n w && flats n ws
end
def W.eqv (a b : W) : Bool := PyData.eqv a.py b.py

/-! ### the store -/
abbrev M (α : Type) := Sto → Option (α × Sto)
@[reducible] def M.ret {α : Type} (a : α) : M α := fun S => some (a, S)
@[reducible] def M.bind {α β : Type} (m : M α) (f : α → M β) : M β := fun S => match m S with
  | some (a, S') => f a S'
  | none => none
instance : Monad M where
  pure := M.ret
  bind := M.bind
@[reducible] def M.no {α : Type} : M α := fun _ => none
@[reducible] def M.opt {α : Type} : Option α → M α
  | some a => M.ret a
  | none => M.no
@[reducible] def M.grd (b : Bool) : M Unit := fun S => if b = true then some ((), S) else none
@[reducible] def M.new (o : Ob) : M W := fun S => some (.ref S.length, S ++ [o])

def lineN : Nat := 16777216
@[reducible] def M.fits (n : Nat) : M Unit := M.grd (decide (n ≤ lineN))

/-- the items of a list: a frozen one, or one of the store -/
def listOf (S : Sto) : W → Option (List W)
  | .lst ws => some ws
  | .ref n => match S[n]? with
    | some (.lst ws) => some ws
    | _ => none
  | _ => none
/-- .. of a list or a tuple -/
def seqOf (S : Sto) : W → Option (List W)
  | .tup ws => some ws
  | w => listOf S w
def dictOf (S : Sto) : W → Option (List W × List W)
  | .dct ks us => some (ks, us)
  | .ref n => match S[n]? with
    | some (.dct ks us) => some (ks, us)
    | _ => none
  | _ => none

mutual
/-- every place put out of the way by g -/
def W.mapR (g : Nat → Option W) : W → Option W
  | .ref n => g n
  | .tup ws => (mapRs g ws).map .tup
  | .lst ws => (mapRs g ws).map .lst
  | .dct ks us => match mapRs g ks, mapRs g us with
    | some ks', some us' => some (.dct ks' us')
    | _, _ => none
  | .non => some .non
  | .bl b => some (.bl b)
  | .int i => some (.int i)
  | .str x => some (.str x)
  | .fn f => some (.fn f)
def mapRs (g : Nat → Option W) : List W → Option (List W)
  | [] => some []
  | w :: ws => match W.mapR g w, mapRs g ws with
    | some w', some ws' => some (w' :: ws')
    | _, _ => none
end
/-- the object at r, frozen; places below n₀ stay -/
def thaw (n₀ : Nat) (S : Sto) : Nat → Nat → Option W
  | 0, r => if r < n₀ then some (.ref r) else none
  | k + 1, r => if r < n₀ then some (.ref r) else match S[r]? with
    | some (.lst ws) => (mapRs (thaw n₀ S k) ws).map .lst
    | some (.dct ks us) => match mapRs (thaw n₀ S k) ks, mapRs (thaw n₀ S k) us with
      | some ks', some us' => some (.dct ks' us')
      | _, _ => none
    | none => none
def W.frz (n₀ : Nat) (S : Sto) (w : W) : Option W := w.mapR (thaw n₀ S 8)
mutual
/-- no place at n₀ or behind it -/
def W.under (n₀ : Nat) : W → Bool
  | .ref n => decide (n < n₀)
  | .tup ws | .lst ws => unders n₀ ws
  | .dct ks us => unders n₀ ks && unders n₀ us
  | .non | .bl _ | .int _ | .str _ | .fn _ => true
def unders (n₀ : Nat) : List W → Bool
  | [] => true
  | w :: ws => W.under n₀ w && unders n₀ ws
end
def Ob.under (n₀ : Nat) : Ob → Bool
  | .lst ws => unders n₀ ws
  | .dct ks us => unders n₀ ks && unders n₀ us
def underAll (n₀ : Nat) (S : Sto) : Bool := S.all (Ob.under n₀)

/-! ### operations on values -/
def deep : Nat := 60
/-- a value as data -/
def asData (S : Sto) (w : W) : Option W := match w.frz 0 S with
  | some w' => if w'.flat deep = true then some w' else none
  | none => none
def wEq (a b : W) : M Bool := fun S => match asData S a, asData S b with
  | some x, some y => some (W.eqv x y, S)
  | _, _ => none
def strLt (x y : Str) : Bool := decide (x.cps.toList < y.cps.toList)
def wLt (a b : W) : M Bool := fun S => match a, b with
  | .int i, .int j => some (decide (i < j), S)
  | .str x, .str y => some (strLt x y, S)
  | _, _ => none
def wLe (a b : W) : M Bool := fun S => match a, b with
  | .int i, .int j => some (decide (i ≤ j), S)
  | .str x, .str y => some (!strLt y x, S)
  | _, _ => none
def wGt (a b : W) : M Bool := fun S => match a, b with
  | .int i, .int j => some (decide (j < i), S)
  | _, _ => none
def wGe (a b : W) : M Bool := fun S => match a, b with
  | .int i, .int j => some (decide (j ≤ i), S)
  | _, _ => none
/-- keys of dicts -/
def W.leaf : W → Bool
  | .non | .bl _ | .int _ | .str _ => true
  | _ => false
mutual
def W.hk : Nat → W → Bool
  | _, .non | _, .bl _ | _, .int _ | _, .str _ => true
  | n + 1, .tup ws => hks n ws
  | _, _ => false
def hks : Nat → List W → Bool
  | _, [] => true
  | n, w :: ws => W.hk n w && hks n ws
end
def W.isTup : W → Bool
  | .tup _ => true
  | _ => false
def W.tkey (w : W) : Bool := w.isTup && w.hk 8
/-- x may be asked of a dict with the keys ks -/
def keyFor (ks : List W) (x : W) : Bool := (x.leaf && ks.all W.leaf) || (x.tkey && ks.all W.tkey)
def kIdx (ks : List W) (x : W) : Option Nat := ks.findIdx? fun k => W.eqv k x
def dAt (ks us : List W) (x : W) : Option W := match kIdx ks x with
  | some i => us[i]?
  | none => none
def dHas (ks : List W) (x : W) : Bool := (kIdx ks x).isSome
def dPut (ks us : List W) (x v : W) : List W × List W := match kIdx ks x with
  | some i => (ks, us.set i v)
  | none => (ks ++ [x], us ++ [v])
def dMerge (ks us : List W) : List W → List W → List W × List W
  | x :: xs, v :: vs => let p := dPut ks us x v; dMerge p.1 p.2 xs vs
  | _, _ => (ks, us)

/-- x in a list, a tuple, a text, a dict -/
def anyEqv (x : W) (ws : List W) : Bool := ws.any fun w => W.eqv w x
def strIn (x y : Str) : Bool := !(Builtin.Str.occurrences y x 0 y.length 1).isEmpty
def wIn (a b : W) : M Bool := fun S => match a, b with
  | .str x, .str y => some (strIn x y, S)
  | a, b => match dictOf S b with
    | some (ks, _) => if keyFor ks a = true then some (dHas ks a, S) else none
    | none => match asData S a, asData S b with
      | some x, some (.lst ws) => some (anyEqv x ws, S)
      | some x, some (.tup ws) => some (anyEqv x ws, S)
      | _, _ => none

inductive Cop | eq | ne | lt | le | gt | ge | in_ | ni
  deriving DecidableEq
def wCmp : Cop → W → W → M Bool
  | .eq, a, b => wEq a b
  | .ne, a, b => do let c ← wEq a b; pure (!c)
  | .lt, a, b => wLt a b
  | .le, a, b => wLe a b
  | .gt, a, b => wGt a b
  | .ge, a, b => wGe a b
  | .in_, a, b => wIn a b
  | .ni, a, b => do let c ← wIn a b; pure (!c)

inductive Bop | add | sub | mul | mod | fdiv | pow
  deriving DecidableEq
def bigN : Int := 18446744073709551616
def wAdd (a b : W) : M W := fun S => match a, b with
  | .int i, .int j => some (.int (i + j), S)
  | .str x, .str y => if x.length + y.length ≤ lineN then some (.str (x ++ y), S) else none
  | .tup xs, .tup ys => if xs.length + ys.length ≤ lineN then some (.tup (xs ++ ys), S) else none
  | a, b => match listOf S a, listOf S b with
    | some xs, some ys => if xs.length + ys.length ≤ lineN then some (.lst (xs ++ ys), S) else none
    | _, _ => none
def rep {α : Type} (k : Nat) (xs : List α) : List α := (List.replicate k xs).flatten
def wMul (a b : W) : M W := fun S => match a, b with
  | .int i, .int j => if -bigN < i ∧ i < bigN then some (.int (i * j), S) else none
  | .tup xs, .int k => if xs.length ≤ 1000 ∧ xs ≠ [] ∧ 2 ≤ k ∧ k ≤ 1000 then some (.tup (rep k.toNat xs), S) else none
  | .ref n, .int k => match S[n]? with
    | some (.lst xs) => if xs.length * k.toNat ≤ lineN ∧ -1000 ≤ k ∧ k ≤ 1000 then some (.lst (rep k.toNat xs), S) else none
    | _ => none
  | _, _ => none
def wSub (a b : W) : M W := fun S => match a, b with
  | .int i, .int j => some (.int (i - j), S)
  | _, _ => none
def wMod (a b : W) : M W := fun S => match a, b with
  | .int i, .int j => if 0 < j then some (.int (i % j), S) else none
  | _, _ => none
def wFdiv (a b : W) : M W := fun S => match a, b with
  | .int i, .int j => if 0 < j ∧ j < bigN then some (.int (i / j), S) else none
  | _, _ => none
def wPow (a b : W) : M W := fun S => match a, b with
  | .int i, .int j => if 0 ≤ j ∧ j ≤ 1000 ∧ 0 ≤ i ∧ i < 1000 then some (.int (i ^ j.toNat), S) else none
  | _, _ => none
def wBin : Bop → W → W → M W
  | .add => wAdd
  | .mul => wMul
  | .sub => wSub
  | .mod => wMod
  | .fdiv => wFdiv
  | .pow => wPow

/-! ### subscripts -/
def ixOf (n : Nat) (i : Int) : Option Nat := if 0 ≤ i then (if i < n then some i.toNat else none) else if -(n : Int) ≤ i then some (i + n).toNat else none
def atOf {α : Type} (xs : List α) (i : Int) : Option α := match ixOf xs.length i with
  | some j => xs[j]?
  | none => none
def wIx (a b : W) : M W := fun S => match a, b with
  | .str x, .int i => match atOf x.cps.toList i with
    | some c => some (.str ⟨#[c]⟩, S)
    | none => none
  | a, b => match dictOf S a with
    | some (ks, us) => if keyFor ks b = true then (match dAt ks us b with
        | some u => some (u, S)
        | none => none) else none
    | none => match b, seqOf S a with
      | .int i, some xs => match atOf xs i with
        | some w => some (w, S)
        | none => none
      | _, _ => none
def endOf : W → Option (Option Int)
  | .non => some none
  | .int i => some (some i)
  | _ => none
def plOf (n d : Nat) : Option Int → Nat
  | none => d
  | some v => if v < 0 then (v + (n : Int)).toNat else min v.toNat n
def cutOf {α : Type} (xs : List α) (lo hi : Option Int) : List α := (xs.drop (plOf xs.length 0 lo)).take (plOf xs.length xs.length hi - plOf xs.length 0 lo)
def wSlc (a lo hi : W) : M W := fun S => match endOf lo, endOf hi with
  | some l, some h => match a with
    | .str x => some (.str ⟨(cutOf x.cps.toList l h).toArray⟩, S)
    | .tup xs => some (.tup (cutOf xs l h), S)
    | a => match listOf S a with
      | some xs => some (.lst (cutOf xs l h), S)
      | none => none
  | _, _ => none
/-- xs[::-1]: of a list a new one of the store -/
def wRev (a : W) : M W := fun S => match listOf S a with
  | some xs => M.new (.lst xs.reverse) S
  | none => none
def wSet (o i v : W) : M Unit := fun S => match o with
  | .ref n => match S[n]? with
    | some (.lst xs) => match i with
      | .int k => match ixOf xs.length k with
        | some j => some ((), S.set n (.lst (xs.set j v)))
        | none => none
      | _ => none
    | some (.dct ks us) => if keyFor ks i = true ∧ ks.length < lineN then some ((), S.set n (.dct (dPut ks us i v).1 (dPut ks us i v).2)) else none
    | none => none
  | _ => none

/-! ### built-ins, methods -/
inductive Blt
  | len | lenset | list | tuple | sorted | sortset | sortkey | all | any | max1 | max2 | min2 | int | str | bool | dict
  deriving DecidableEq
inductive Mth | append | pop0 | pop1 | insert | get1 | get2 | join | split | ljust
  deriving DecidableEq
def blsOf : List W → Option (List Bool)
  | [] => some []
  | .bl b :: ws => match blsOf ws with
    | some bs => some (b :: bs)
    | none => none
  | _ => none
def intsOf : List W → Option (List Int)
  | [] => some []
  | .int b :: ws => match intsOf ws with
    | some bs => some (b :: bs)
    | none => none
  | _ => none
def strsOf : List W → Option (List Str)
  | [] => some []
  | .str b :: ws => match strsOf ws with
    | some bs => some (b :: bs)
    | none => none
  | _ => none
def maxOf : List Int → Option Int
  | [] => none
  | x :: xs => some (xs.foldl (fun m y => if m < y then y else m) x)
/-- the kinds that isinstance asks, as a set: 1 int, 2 bool, 4 str, 8 list, 16 tuple -/
structure Kinds where
  int : Bool := false
  bool : Bool := false
  str : Bool := false
  list : Bool := false
  tuple : Bool := false
  deriving DecidableEq
def wIsi (k : Kinds) (a : W) : M Bool := fun S => match a with
  | .non => some (false, S)
  | .bl _ => some (k.bool || k.int, S)
  | .int _ => some (k.int, S)
  | .str _ => some (k.str, S)
  | .tup _ => some (k.tuple, S)
  | a => match listOf S a with
    | some _ => some (k.list, S)
    | none => none


/-! ### sorting -/
def wAlike (ws : List W) : Bool := ws.all fun a => ws.all fun b => PySem.W.alike a.py b.py
def wSorts (ws : List W) : Bool := (ws.all fun w => match w with
    | .tup (_ :: _) => true
    | _ => false) || ws.all fun w => match w with
    | .bl _ | .int _ | .str _ => true
    | _ => false
def wLe2 (a b : W) : Bool := PySem.W.dataLe false W.py a b
def wSort (ws : List W) : Option (List W) := if flats 30 ws = true ∧ wAlike ws = true ∧ wSorts ws = true then some (ws.mergeSort wLe2) else none
/-- the first of equal ones -/
def wDedup : List W → List W
  | [] => []
  | w :: ws => w :: (wDedup ws).filter fun x => !W.eqv w x
def setable (ws : List W) : Bool := (ws.all W.leaf || ws.all W.tkey) && decide (ws.length ≤ 4000)

/-! ### the small syntax -/
inductive P where
  | nm (i : Nat) | nil | cons (p ps : P) | tp (ps : P)
  deriving DecidableEq, Inhabited
inductive E where
  | var (i : Nat) | non | bl (b : Bool) | int (i : Int) | str (x : Str) | gcon (g : Nat) | gfn (f : Nat)
  | nil | cons (e es : E) | star (e es : E)
  | tup (es : E) | lst (es : E)
  | dnil | dpair (k v ds : E) | dstar (d ds : E) | dct (ds : E)
  | and (a b : E) | or (a b : E) | not (a : E) | ifx (c a b : E)
  | cmp (o : Cop) (a b : E) | chain (o p : Cop) (a b c : E) | isn (a : E) | notn (a : E) | isb (a : E) (b : Bool)
  | bin (o : Bop) (a b : E)
  | ix (a i : E) | slc (a lo hi : E) | rev (a : E)
  | call (f : Nat) (es : E) | callv (i : Nat) (es : E)
  | blt (b : Blt) (es : E) | skey (a : E) (f : Nat) | mth (m : Mth) (a es : E) | isi (k : Kinds) (a : E)
  | lc (vs : List Nat) (t : P) (it c e : E)
  | lc2 (vs vs1 : List Nat) (t : P) (it c : E) (t1 : P) (it1 c1 e : E)
  | dc (vs : List Nat) (t : P) (it c k v : E)
  | iter (a : E) | rng1 (a : E) | rng2 (a b : E) | enum (a : E) | zip (a b : E) | items (a : E)
  deriving DecidableEq, Inhabited
inductive T where
  | nm (i : Nat) | nil | cons (p ps : T) | tp (ps : T) | sub (o i : E)
  deriving DecidableEq, Inhabited
inductive C where
  | skip | seq (a b : C) | expr (e : E) | asg (t : T) (e : E) | aug (i : Nat) (o : Bop) (e : E)
  | ite (c : E) (a b : C) | whl (c : E) (b : C) | for_ (t : P) (it : E) (b : C) | ret (e : E) | brk | cont
  deriving DecidableEq, Inhabited
/-- a def: its parameters, whether the last one takes the rest, its slots, whether what it hands back stays in the store -/
structure Def where
  ps : Nat
  rest : Bool := false
  slots : Nat
  keep : Bool := false
  body : C
  deriving DecidableEq, Inhabited

/-! ### targets -/
def P.slots : P → List Nat
  | .nm i => [i]
  | .nil => []
  | .cons p ps => p.slots ++ ps.slots
  | .tp ps => ps.slots
mutual
def P.put : P → W → Rho → Option Rho
  | .nm i, w, ρ => some (ρ.set i (some w))
  | .tp ps, .tup ws, ρ => P.puts ps ws ρ
  | _, _, _ => none
def P.puts : P → List W → Rho → Option Rho
  | .nil, [], ρ => some ρ
  | .cons p ps, w :: ws, ρ => match P.put p w ρ with
    | some ρ' => P.puts ps ws ρ'
    | none => none
  | _, _, _ => none
end
def wipeR (ρ : Rho) : List Nat → Rho
  | [] => ρ
  | v :: vs => (wipeR ρ vs).set v none

/-! ### what it computes -/
structure Dn where
  v : Rho → M W := fun _ => .no
  a : Rho → M (List W) := fun _ => .no
  d : Rho → List W × List W → M (List W × List W) := fun _ _ => .no
  it : Rho → M (List W × List (Nat × Ob)) := fun _ => .no
/-- the objects that a loop walks stand as they stood -/
def stands (S : Sto) (src : List (Nat × Ob)) : Bool := src.all fun p => decide (S[p.1]? = some p.2)
def srcOf (S : Sto) : W → List (Nat × Ob)
  | .ref n => match S[n]? with
    | some o => [(n, o)]
    | none => []
  | _ => []
/-- what a for walks: a list, a tuple, a text, a dict -/
def wIter (w : W) : M (List W × List (Nat × Ob)) := fun S => match w with
  | .str x => some ((x.cps.toList.map fun c => W.str ⟨#[c]⟩, []), S)
  | w => match dictOf S w with
    | some (ks, _) => some ((ks, srcOf S w), S)
    | none => match seqOf S w with
      | some ws => some ((ws, srcOf S w), S)
      | none => none
def truth (m : M W) : M Bool := fun S => match m S with
  | some (.bl b, S') => some (b, S')
  | _ => none
/-- a comprehension's loop -/
def compL {α : Type} (src : List (Nat × Ob)) (f : W → M (List α)) : List W → M (List α)
  | [] => fun S => if stands S src = true then some ([], S) else none
  | x :: xs => fun S => if stands S src = true then (match f x S with
    | some (ys, S') => (match compL src f xs S' with
      | some (zs, S'') => some (ys ++ zs, S'')
      | none => none)
    | none => none) else none
/-- .. a dict comprehension's -/
def dcL (src : List (Nat × Ob)) (f : W → M (Option (W × W))) : List W → List W × List W → M (List W × List W)
  | [], p => fun S => if stands S src = true then some (p, S) else none
  | x :: xs, p => fun S => if stands S src = true then (match f x S with
    | some (some (k, v), S') => if keyFor p.1 k = true then dcL src f xs (dPut p.1 p.2 k v) S' else none
    | some (none, S') => dcL src f xs p S'
    | none => none) else none
def turnOf (t : P) (vs : List Nat) (ρ : Rho) (c e : Dn) (x : W) : M (List W) := fun S => match P.put t x (wipeR ρ vs) with
  | some ρ' => (match truth (c.v ρ') S with
    | some (true, S') => (match e.v ρ' S' with
      | some (w, S'') => some ([w], S'')
      | none => none)
    | some (false, S') => some ([], S')
    | none => none)
  | none => none
def turnD (t : P) (vs : List Nat) (ρ : Rho) (c k v : Dn) (x : W) : M (Option (W × W)) := fun S => match P.put t x (wipeR ρ vs) with
  | some ρ' => (match truth (c.v ρ') S with
    | some (true, S') => (match k.v ρ' S' with
      | some (kw, S2) => (match v.v ρ' S2 with
        | some (w, S'') => some (some (kw, w), S'')
        | none => none)
      | none => none)
    | some (false, S') => some (none, S')
    | none => none)
  | none => none
def turn2 (t : P) (vs vs1 : List Nat) (ρ : Rho) (c : Dn) (t1 : P) (it1 c1 e : Dn) (x : W) : M (List W) := fun S => match P.put t x (wipeR ρ vs) with
  | some ρ' => (match truth (c.v ρ') S with
    | some (true, S') => (match it1.it ρ' S' with
      | some ((xs, src), S2) => compL src (turnOf t1 vs1 ρ' c1 e) xs S2
      | none => none)
    | some (false, S') => some ([], S')
    | none => none)
  | none => none

def bLen (as : List W) : M W := fun S => match as with
  | [.str x] => some (.int x.length, S)
  | [w] => match seqOf S w with
    | some ws => some (.int ws.length, S)
    | none => none
  | _ => none
def bLenset (as : List W) : M W := fun S => match as with
  | [w] => match seqOf S w with
    | some ws => if setable ws = true then some (.int (wDedup ws).length, S) else none
    | none => none
  | _ => none
def bList (as : List W) : M W := fun S => match as with
  | [w] => match seqOf S w with
    | some ws => M.new (.lst ws) S
    | none => none
  | _ => none
def bTuple (as : List W) : M W := fun S => match as with
  | [w] => match seqOf S w with
    | some ws => some (.tup ws, S)
    | none => none
  | _ => none
def bSorted (as : List W) : M W := fun S => match as with
  | [w] => match dictOf S w with
    | some (ks, _) => match wSort ks with
      | some ws => M.new (.lst ws) S
      | none => none
    | none => match seqOf S w with
      | some ws => match wSort ws with
        | some ws => M.new (.lst ws) S
        | none => none
      | none => none
  | _ => none
def bSortset (as : List W) : M W := fun S => match as with
  | [w] => match seqOf S w with
    | some ws => if setable ws = true then (match wSort (wDedup ws) with
      | some ws => M.new (.lst ws) S
      | none => none) else none
    | none => none
  | _ => none
def bAll (as : List W) : M W := fun S => match as with
  | [w] => match (listOf S w).bind blsOf with
    | some bs => some (.bl (bs.all id), S)
    | none => none
  | _ => none
def bAny (as : List W) : M W := fun S => match as with
  | [w] => match (listOf S w).bind blsOf with
    | some bs => some (.bl (bs.any id), S)
    | none => none
  | _ => none
def bMax1 (as : List W) : M W := fun S => match as with
  | [w] => match (listOf S w).bind intsOf with
    | some is => match maxOf is with
      | some m => some (.int m, S)
      | none => none
    | none => none
  | _ => none
def bMax2 (as : List W) : M W := fun S => match as with
  | [.int i, .int j] => some (.int (if j > i then j else i), S)
  | _ => none
def bMin2 (as : List W) : M W := fun S => match as with
  | [.int i, .int j] => some (.int (if j < i then j else i), S)
  | _ => none
def bInt (as : List W) : M W := fun S => match as with
  | [.bl b] => some (.int (if b = true then 1 else 0), S)
  | _ => none
def bBool (as : List W) : M W := fun S => match as with
  | [.bl b] => some (.bl b, S)
  | _ => none
def bDict (as : List W) : M W := fun S => match as with
  | [w] => match dictOf S w with
    | some (ks, us) => M.new (.dct ks us) S
    | none => none
  | _ => none
def wBlt : Blt → List W → M W
  | .len => bLen
  | .lenset => bLenset
  | .list => bList
  | .tuple => bTuple
  | .sorted => bSorted
  | .sortset => bSortset
  | .all => bAll
  | .any => bAny
  | .max1 => bMax1
  | .max2 => bMax2
  | .min2 => bMin2
  | .int => bInt
  | .bool => bBool
  | .dict => bDict
  | .str | .sortkey => fun _ => .no
def mAppend (o : W) (as : List W) : M W := fun S => match o, as with
  | .ref n, [w] => match S[n]? with
    | some (.lst ws) => if ws.length < lineN then some (.non, S.set n (.lst (ws ++ [w]))) else none
    | _ => none
  | _, _ => none
def mPop0 (o : W) (as : List W) : M W := fun S => match o, as with
  | .ref n, [] => match S[n]? with
    | some (.lst ws) => match ws[ws.length - 1]? with
      | some w => some (w, S.set n (.lst ws.dropLast))
      | none => none
    | _ => none
  | _, _ => none
def mPop1 (o : W) (as : List W) : M W := fun S => match o, as with
  | .ref n, [.int i] => match S[n]? with
    | some (.lst ws) => match ixOf ws.length i with
      | some k => match ws[k]? with
        | some w => some (w, S.set n (.lst (ws.eraseIdx k)))
        | none => none
      | none => none
    | _ => none
  | _, _ => none
def mInsert (o : W) (as : List W) : M W := fun S => match o, as with
  | .ref n, [.int i, w] => match S[n]? with
    | some (.lst ws) => if 0 ≤ i ∧ i ≤ ws.length ∧ ws.length < lineN then some (.non, S.set n (.lst (ws.take i.toNat ++ w :: ws.drop i.toNat))) else none
    | _ => none
  | _, _ => none
def mGet1 (o : W) (as : List W) : M W := fun S => match as with
  | [k] => match dictOf S o with
    | some (ks, us) => if keyFor ks k = true then some ((dAt ks us k).getD .non, S) else none
    | none => none
  | _ => none
def mGet2 (o : W) (as : List W) : M W := fun S => match as with
  | [k, d] => match dictOf S o with
    | some (ks, us) => if keyFor ks k = true then some ((dAt ks us k).getD d, S) else none
    | none => none
  | _ => none
def wMth : Mth → W → List W → M W
  | .append => mAppend
  | .pop0 => mPop0
  | .pop1 => mPop1
  | .insert => mInsert
  | .get1 => mGet1
  | .get2 => mGet2
  | .join | .split | .ljust => fun _ _ => .no

/-- what the receiver must be, before the arguments are asked -/
def wRecv (m : Mth) (o : W) : M Unit := fun S => match m with
  | .get1 | .get2 => if (dictOf S o).isSome = true then some ((), S) else none
  | .append | .pop0 | .pop1 | .insert => if (listOf S o).isSome = true then some ((), S) else none
  | .join | .split | .ljust => match o with
    | .str _ => some ((), S)
    | _ => none
def wIsb (x : W) (b : Bool) : M W := match x with
  | .bl c => .ret (.bl (decide (c = b)))
  | _ => .no
def rhoAt (i : Nat) (ρ : Rho) : M W := fun S => match ρ[i]? with
  | some (some w) => some (w, S)
  | _ => none
def itemsOf (w : W) : M (List W) := fun S => match seqOf S w with
  | some ws => some (ws, S)
  | none => none
def pairsOf (w : W) : M (List W × List W) := fun S => match dictOf S w with
  | some q => some (q, S)
  | none => none
def itemsD (w : W) : M (List W × List (Nat × Ob)) := fun S => match dictOf S w with
  | some (ks, us) => some ((List.zipWith (fun u v => W.tup [u, v]) ks us, srcOf S w), S)
  | none => none
def wRng1 : W → M (List W × List (Nat × Ob))
  | .int n => if -4000000 ≤ n ∧ n ≤ 4000000 then .ret ((List.range n.toNat).map fun (i : Nat) => W.int (Int.ofNat i), []) else .no
  | _ => .no
def wRng2 : W → W → M (List W × List (Nat × Ob))
  | .int i, .int j => if -4000000 ≤ i ∧ i ≤ 4000000 ∧ -4000000 ≤ j ∧ j ≤ 4000000 then .ret ((List.range (j - i).toNat).map fun (k : Nat) => W.int (i + Int.ofNat k), []) else .no
  | _, _ => .no
def wEnum (w : W) : M (List W × List (Nat × Ob)) := fun S => match seqOf S w with
  | some ws => some ((ws.zipIdx.map fun q => W.tup [.int (Int.ofNat q.2), q.1], srcOf S w), S)
  | none => none
def wZip (a b : W) : M (List W × List (Nat × Ob)) := fun S => match seqOf S a, seqOf S b with
  | some us, some ws => some ((List.zipWith (fun u v => W.tup [u, v]) us ws, srcOf S a ++ srcOf S b), S)
  | _, _ => none
section
variable (gc : Nat → W) (cf : Nat → List W → M W)
def sortKey (f : Nat) : List W → Sto → Option (List W)
  | [], _ => some []
  | w :: ws, S => match cf f [w] S with
    | some (k, S') => if S' = S then (match sortKey f ws S with
      | some ks => some (k :: ks)
      | none => none) else none
    | none => none
def wSortKey (f : Nat) (x : W) : M W := fun S => match seqOf S x with
  | some ws => (match sortKey cf f ws S with
    | some ks => if flats 30 ks = true ∧ wAlike ks = true ∧ wSorts ks = true then M.new (.lst (((ks.zip ws).mergeSort fun p q => wLe2 p.1 q.1).map Prod.snd)) S else none
    | none => none)
  | none => none
def wCallV (x : W) (ws : List W) : M W := match x with
  | .fn f => cf f ws
  | _ => .no
def den : E → Dn
  | .var i => { v := rhoAt i }
  | .non => { v := fun _ => .ret .non }
  | .bl b => { v := fun _ => .ret (.bl b) }
  | .int i => { v := fun _ => .ret (.int i) }
  | .str x => { v := fun _ => .ret (.str x) }
  | .gcon g => { v := fun _ => .ret (gc g) }
  | .gfn f => { v := fun _ => .ret (.fn f) }
  | .nil => { a := fun _ => .ret [] }
  | .cons e es => { a := fun ρ => do let w ← (den e).v ρ; let ws ← (den es).a ρ; pure (w :: ws) }
  | .star e es => { a := fun ρ => do
      let w ← (den e).v ρ
      let us ← itemsOf w
      let ws ← (den es).a ρ
      pure (us ++ ws) }
  | .tup es => { v := fun ρ => do let ws ← (den es).a ρ; M.fits ws.length; pure (.tup ws) }
  | .lst es => { v := fun ρ => do let ws ← (den es).a ρ; M.fits ws.length; M.new (.lst ws) }
  | .dnil => { d := fun _ p => .ret p }
  | .dpair k v ds => { d := fun ρ p => do
      let x ← (den k).v ρ
      let y ← (den v).v ρ
      M.grd (keyFor p.1 x)
      (den ds).d ρ (dPut p.1 p.2 x y) }
  | .dstar e ds => { d := fun ρ p => do
      let x ← (den e).v ρ
      let q ← pairsOf x
      M.grd (q.1.all fun k => keyFor p.1 k && keyFor q.1 k)
      (den ds).d ρ (dMerge p.1 p.2 q.1 q.2) }
  | .dct ds => { v := fun ρ => do let p ← (den ds).d ρ ([], []); M.fits p.1.length; M.new (.dct p.1 p.2) }
  | .and a b => { v := fun ρ => do let c ← truth ((den a).v ρ); if c = true then (den b).v ρ else pure (.bl false) }
  | .or a b => { v := fun ρ => do let c ← truth ((den a).v ρ); if c = true then pure (.bl true) else (den b).v ρ }
  | .not a => { v := fun ρ => do let c ← truth ((den a).v ρ); pure (.bl (!c)) }
  | .ifx c a b => { v := fun ρ => do let c ← truth ((den c).v ρ); if c = true then (den a).v ρ else (den b).v ρ }
  | .cmp o a b => { v := fun ρ => do let x ← (den a).v ρ; let y ← (den b).v ρ; let c ← wCmp o x y; pure (.bl c) }
  | .chain o p a b c => { v := fun ρ => do
      let x ← (den a).v ρ
      let y ← (den b).v ρ
      let c1 ← wCmp o x y
      if c1 = true then do let z ← (den c).v ρ; let c2 ← wCmp p y z; pure (.bl c2) else pure (.bl false) }
  | .isn a => { v := fun ρ => do let x ← (den a).v ρ; pure (.bl (decide (x = .non))) }
  | .notn a => { v := fun ρ => do let x ← (den a).v ρ; pure (.bl (!decide (x = .non))) }
  | .isb a b => { v := fun ρ => do let x ← (den a).v ρ; wIsb x b }
  | .bin o a b => { v := fun ρ => do let x ← (den a).v ρ; let y ← (den b).v ρ; wBin o x y }
  | .ix a i => { v := fun ρ => do let x ← (den a).v ρ; let y ← (den i).v ρ; wIx x y }
  | .slc a lo hi => { v := fun ρ => do let x ← (den a).v ρ; let l ← (den lo).v ρ; let h ← (den hi).v ρ; wSlc x l h }
  | .rev a => { v := fun ρ => do let x ← (den a).v ρ; wRev x }
  | .call f es => { v := fun ρ => do let ws ← (den es).a ρ; cf f ws }
  | .callv i es => { v := fun ρ => do let x ← rhoAt i ρ; let ws ← (den es).a ρ; wCallV cf x ws }
  | .blt b es => { v := fun ρ => do let ws ← (den es).a ρ; wBlt b ws }
  | .skey a f => { v := fun ρ => do let x ← (den a).v ρ; wSortKey cf f x }
  | .mth m a es => { v := fun ρ => do let x ← (den a).v ρ; wRecv m x; let ws ← (den es).a ρ; wMth m x ws }
  | .isi k a => { v := fun ρ => do let x ← (den a).v ρ; let b ← wIsi k x; pure (.bl b) }
  | .lc vs t it c e => { v := fun ρ => do
      let p ← (den it).it ρ
      let ws ← compL p.2 (turnOf t vs ρ (den c) (den e)) p.1
      pure (.lst ws) }
  | .lc2 vs vs1 t it c t1 it1 c1 e => { v := fun ρ => do
      let p ← (den it).it ρ
      let ws ← compL p.2 (turn2 t vs vs1 ρ (den c) t1 (den it1) (den c1) (den e)) p.1
      M.fits ws.length
      pure (.lst ws) }
  | .dc vs t it c k v => { v := fun ρ => do
      let p ← (den it).it ρ
      let q ← dcL p.2 (turnD t vs ρ (den c) (den k) (den v)) p.1 ([], [])
      M.new (.dct q.1 q.2) }
  | .iter a => { it := fun ρ => do let x ← (den a).v ρ; wIter x }
  | .rng1 a => { it := fun ρ => do let x ← (den a).v ρ; wRng1 x }
  | .rng2 a b => { it := fun ρ => do let x ← (den a).v ρ; let y ← (den b).v ρ; wRng2 x y }
  | .enum a => { it := fun ρ => do let x ← (den a).v ρ; wEnum x }
  | .zip a b => { it := fun ρ => do let x ← (den a).v ρ; let y ← (den b).v ρ; wZip x y }
  | .items a => { it := fun ρ => do let x ← (den a).v ρ; itemsD x }

inductive Fl where
  | nx | brk | cont | ret (w : W)
abbrev St' := Rho × Sto
mutual
def T.put : T → W → Rho → Sto → Option (Rho × Sto)
  | .nm i, w, ρ, S => some (ρ.set i (some w), S)
  | .tp ps, .tup ws, ρ, S => T.puts ps ws ρ S
  | .sub o i, w, ρ, S => match (den gc cf o).v ρ S with
    | some (ow, S1) => match (den gc cf i).v ρ S1 with
      | some (iw, S2) => match wSet ow iw w S2 with
        | some (_, S3) => some (ρ, S3)
        | none => none
      | none => none
    | none => none
  | _, _, _, _ => none
def T.puts : T → List W → Rho → Sto → Option (Rho × Sto)
  | .nil, [], ρ, S => some (ρ, S)
  | .cons p ps, w :: ws, ρ, S => match T.put p w ρ S with
    | some (ρ', S') => T.puts ps ws ρ' S'
    | none => none
  | _, _, _, _ => none
end
def forL (src : List (Nat × Ob)) (t : P) (f : Rho → Sto → Option (Fl × Rho × Sto)) : List W → Rho → Sto → Option (Fl × Rho × Sto)
  | [], ρ, S => if stands S src = true then some (.nx, ρ, S) else none
  | x :: xs, ρ, S => if stands S src = true then (match P.put t x ρ with
    | some ρ' => (match f ρ' S with
      | some (.nx, ρ2, S2) | some (.cont, ρ2, S2) => forL src t f xs ρ2 S2
      | some (.brk, ρ2, S2) => some (.nx, ρ2, S2)
      | some (.ret w, ρ2, S2) => some (.ret w, ρ2, S2)
      | none => none)
    | none => none) else none
def whileL (c : Rho → M Bool) (f : Rho → Sto → Option (Fl × Rho × Sto)) : Nat → Rho → Sto → Option (Fl × Rho × Sto)
  | 0, _, _ => none
  | n + 1, ρ, S => match c ρ S with
    | some (true, S1) => (match f ρ S1 with
      | some (.nx, ρ2, S2) | some (.cont, ρ2, S2) => whileL c f n ρ2 S2
      | some (.brk, ρ2, S2) => some (.nx, ρ2, S2)
      | some (.ret w, ρ2, S2) => some (.ret w, ρ2, S2)
      | none => none)
    | some (false, S1) => some (.nx, ρ, S1)
    | none => none
def turns : Nat := 1000
def run : C → Rho → Sto → Option (Fl × Rho × Sto)
  | .skip, ρ, S => some (.nx, ρ, S)
  | .seq a b, ρ, S => match run a ρ S with
    | some (.nx, ρ', S') => run b ρ' S'
    | r => r
  | .expr e, ρ, S => match (den gc cf e).v ρ S with
    | some (_, S') => some (.nx, ρ, S')
    | none => none
  | .asg t e, ρ, S => match (den gc cf e).v ρ S with
    | some (w, S') => match T.put gc cf t w ρ S' with
      | some (ρ2, S2) => some (.nx, ρ2, S2)
      | none => none
    | none => none
  | .aug i o e, ρ, S => match ρ[i]? with
    | some (some x) => match (den gc cf e).v ρ S with
      | some (y, S') => match wBin o x y S' with
        | some (w, S2) => some (.nx, ρ.set i (some w), S2)
        | none => none
      | none => none
    | _ => none
  | .ite c a b, ρ, S => match truth ((den gc cf c).v ρ) S with
    | some (true, S') => run a ρ S'
    | some (false, S') => run b ρ S'
    | none => none
  | .whl c b, ρ, S => whileL (fun ρ => truth ((den gc cf c).v ρ)) (fun ρ S => run b ρ S) turns ρ S
  | .for_ t it b, ρ, S => match (den gc cf it).it ρ S with
    | some ((xs, src), S') => forL src t (fun ρ S => run b ρ S) xs ρ S'
    | none => none
  | .ret e, ρ, S => match (den gc cf e).v ρ S with
    | some (w, S') => some (.ret w, ρ, S')
    | none => none
  | .brk, ρ, S => some (.brk, ρ, S)
  | .cont, ρ, S => some (.cont, ρ, S)
end

/-- what a call leaves: the answer frozen, the store cut back -/
def finish (keep : Bool) (n₀ : Nat) (w : W) (S : Sto) : Option (W × Sto) :=
  if keep = true then some (w, S) else match w.frz n₀ S with
    | some w' => if w'.under n₀ = true ∧ underAll n₀ (S.take n₀) = true then some (w', S.take n₀) else none
    | none => none
def Def.bind (d : Def) (ws : List W) : Option (List W) :=
  if d.rest = true then (if d.ps ≤ ws.length + 1 then some (ws.take (d.ps - 1) ++ [.tup (ws.drop (d.ps - 1))]) else none)
  else if ws.length = d.ps then some ws else none
def Def.rho (d : Def) (ws : List W) : Rho := ws.map some ++ List.replicate (d.slots - ws.length) none
def callF (gc : Nat → W) (tb : Nat → Option Def) : Nat → Nat → List W → M W
  | 0, _, _ => .no
  | n + 1, f, ws => fun S => match tb f with
    | some d => match d.bind ws with
      | some as => match run gc (callF gc tb n) d.body (d.rho as) S with
        | some (.ret w, _, S') => finish d.keep S.length w S'
        | some (.nx, _, S') => finish d.keep S.length .non S'
        | _ => none
      | none => none
    | none => none

end TS

set_option Elab.async false
set_option linter.all false
set_option maxRecDepth 100000
/-! A2: from the model's trees to the small syntax. -/
namespace TS
open PySem

/-- what the module's names are: constants, defs -/
structure Glob where
  con : List (Str × Nat)
  fns : List (Str × Nat)
  deriving Inhabited

def bltOf : List (Str × Nat × Blt) := [("len", 1, .len), ("list", 1, .list), ("tuple", 1, .tuple), ("sorted", 1, .sorted), ("all", 1, .all), ("any", 1, .any), ("max", 1, .max1), ("max", 2, .max2), ("min", 2, .min2), ("int", 1, .int), ("str", 1, .str), ("bool", 1, .bool), ("dict", 1, .dict)]
def mthOf : List (Str × Nat × Mth) := [("append", 1, .append), ("pop", 0, .pop0), ("pop", 1, .pop1), ("insert", 2, .insert), ("get", 1, .get1), ("get", 2, .get2), ("join", 1, .join), ("split", 1, .split), ("ljust", 1, .ljust)]
def findB {α : Type} (x : Str) (n : Nat) : List (Str × Nat × α) → Option α
  | [] => none
  | (y, m, b) :: r => if x = y ∧ n = m then some b else findB x n r
def kindOf1 (k : Kinds) (x : Str) : Option Kinds :=
  if x = ("int" : Str) then some { k with int := true } else if x = ("bool" : Str) then some { k with bool := true } else if x = ("str" : Str) then some { k with str := true }
  else if x = ("list" : Str) then some { k with list := true } else if x = ("tuple" : Str) then some { k with tuple := true } else none
def copOf : CmpOp → Option Cop
  | .Eq => some .eq | .NotEq => some .ne | .Lt => some .lt | .LtE => some .le | .Gt => some .gt | .GtE => some .ge | .In => some .in_ | .NotIn => some .ni
  | _ => none
def bopOf : Operator → Option Bop
  | .Add => some .add | .Sub => some .sub | .Mult => some .mul | .Mod => some .mod | .FloorDiv => some .fdiv | .Pow => some .pow
  | _ => none
def isVis : Option NameKind → Bool
  | some .local | some .cell | some .free => true
  | _ => false
def isOwn : Option NameKind → Bool
  | some .local | some .cell => true
  | _ => false
def litOk (x : Str) : Bool := PyData.strOk x && decide (x.length ≤ lineN)

def isStar : Expr → Bool
  | .Starred _ _ => true
  | _ => false
def isSlice : Expr → Bool
  | .Slice _ _ _ _ => true
  | _ => false
/-- no super(), so that a method's base is asked plainly -/
def plainBase : Expr → Bool
  | .Call (.Name _ _) [] [] _ => false
  | _ => true
/-- the argument lists that a def is called with here -/
def argsOk : List Expr → Bool
  | [] => true
  | [.Starred _ _] => true
  | a :: _ => !isStar a
/-- a store of several names, to be taken -/
def tupOk (t e : Expr) : Bool := match t, e with
  | .Tuple _ _ _, .Tuple vs _ _ => !vs.all (constantsAlone 8) || vs.all (foldedForSure 8)
  | .List _ _, _ => false
  | _, _ => true
def bltNames : List Str := ["len", "list", "tuple", "sorted", "all", "any", "max", "min", "int", "str", "bool", "dict", "set", "isinstance", "range", "zip", "enumerate"]
section
variable (G : Glob) (N : List Str)
def slotOf (x : Str) : Option Nat := if x ∈ N then some (N.idxOf x) else none
/-- a block's own names, with their slots -/
def ownOf (sc : Scope) : List (Str × Nat) := sc.names.filterMap fun y => if (y.2 == .local || y.2 == .cell) && N.contains y.1 then some (y.1, N.idxOf y.1) else none
/-- what a comprehension's scope must be -/
def blkOk (sc scope : Scope) : Bool :=
  scope.kind == .function && scope.names.all (fun y => scope.names.lookup y.1 == some y.2) &&
  scope.names.all (fun y => y.2 != .free || (sc.names.lookup y.1 == some .cell || sc.names.lookup y.1 == some .free))
def trPos (x : Str) : Bool := !(x == ("__debug__" : Str)) && !(x == ("__classdict__" : Str))

mutual
def trP : Nat → Scope → Expr → Option P
  | n + 1, sc, .Name x _ => if isOwn (sc.names.lookup x) = true then (slotOf N x).map .nm else none
  | n + 1, sc, .Tuple es _ _ => (trPs n sc es).map .tp
  | _, _, _ => none
def trPs : Nat → Scope → List Expr → Option P
  | _, _, [] => some .nil
  | n + 1, sc, e :: es => match trP n sc e, trPs n sc es with
    | some p, some ps => some (.cons p ps)
    | _, _ => none
  | _, _, _ => none
end
def trName (sc : Scope) (x : Str) : Option E :=
  if trPos x = true then
    (if isVis (sc.names.lookup x) = true then (slotOf N x).map .var
     else if sc.names.lookup x = some .globalImplicit then (match G.con.lookup x with
       | some g => some (.gcon g)
       | none => (G.fns.lookup x).map .gfn)
     else none)
  else none
/-- the name of a built-in, unhidden -/
def isBlt (sc : Scope) (x : Str) : Bool := bltNames.contains x && trPos x && sc.names.lookup x == some .globalImplicit && (G.con.lookup x).isNone && (G.fns.lookup x).isNone
def trKs (sc : Scope) : Kinds → List Expr → Option Kinds
  | k, [] => some k
  | k, .Name x _ :: es => if isBlt G sc x = true then (match kindOf1 k x with
    | some k' => trKs sc k' es
    | none => none) else none
  | _, _ => none
def trKinds (sc : Scope) : Expr → Option Kinds
  | .Name x _ => if isBlt G sc x = true then kindOf1 {} x else none
  | .Tuple es _ _ => if es.length ≤ 100 then trKs G sc {} es else none
  | _ => none
mutual
def trE : Nat → Scope → Expr → Option E
  | 0, _, _ => none
  | n + 1, sc, e => match e with
    | .Name x _ => trName G N sc x
    | .Constant c _ _ => match c with
      | .none => some .non
      | .bool b => some (.bl b)
      | .int i => some (.int i)
      | .str x => if litOk x = true then some (.str x) else none
      | _ => none
    | .Tuple es _ _ => (trEs n sc es).map .tup
    | .List es _ => (trEs n sc es).map .lst
    | .Dict ks vs _ => (trD n sc ks vs).map .dct
    | .BoolOp op es _ => trB n sc op es
    | .UnaryOp .Not a _ => (trE n sc a).map .not
    | .UnaryOp .USub (.Constant (.int i) _ _) _ => some (.int (-i))
    | .IfExp c a b _ => match trE n sc c, trE n sc a, trE n sc b with
      | some c', some a', some b' => some (.ifx c' a' b')
      | _, _, _ => none
    | .Compare a [.Is] [.Constant .none _ _] _ => (trE n sc a).map .isn
    | .Compare a [.IsNot] [.Constant .none _ _] _ => (trE n sc a).map .notn
    | .Compare a [.Is] [.Constant (.bool b) _ _] _ => (trE n sc a).map fun a' => .isb a' b
    | .Compare a [o] [b] _ => match copOf o, trE n sc a, trE n sc b with
      | some o', some a', some b' => some (.cmp o' a' b')
      | _, _, _ => none
    | .Compare a [o, p] [b, c] _ => match copOf o, copOf p, trE n sc a, trE n sc b, trE n sc c with
      | some o', some p', some a', some b', some c' => some (.chain o' p' a' b' c')
      | _, _, _, _, _ => none
    | .BinOp a o b _ => match bopOf o, trE n sc a, trE n sc b with
      | some o', some a', some b' => some (.bin o' a' b')
      | _, _, _ => none
    | .Subscript a (.Slice none none (some (.UnaryOp .USub (.Constant (.int 1) _ _) _)) _) _ => (trE n sc a).map .rev
    | .Subscript a (.Slice lo hi none _) _ => match trE n sc a, trO n sc lo, trO n sc hi with
      | some a', some l', some h' => some (.slc a' l' h')
      | _, _, _ => none
    | .Subscript a i _ => match trE n sc a, trE n sc i with
      | some a', some i' => some (.ix a' i')
      | _, _ => none
    | .Call (.Name f _) args kws _ => trC n sc f args kws
    | .Call (.Attribute o m apos) args [] cpos => if (apos.endLine == cpos.line) = true ∧ args.any isStar = false ∧ plainBase o = true then (match findB m args.length mthOf, trE n sc o, trEs n sc args with
      | some m', some o', some es' => some (.mth m' o' es')
      | _, _, _ => none) else none
    | .ListComp elt [⟨tg, it, ifs, 0⟩] scope _ => if blkOk sc scope = true then (match trP N n scope tg, trI n sc it, trIfs n scope ifs, trE n scope elt with
      | some t, some i, some c, some e' => some (.lc ((ownOf N scope).map (·.2)) t i c e')
      | _, _, _, _ => none) else none
    | .ListComp elt [⟨tg, it, ifs, 0⟩, ⟨tg1, it1, ifs1, 0⟩] scope _ => if blkOk sc scope = true then (match trP N n scope tg, trI n sc it, trIfs n scope ifs, trP N n scope tg1, trI n scope it1, trIfs n scope ifs1, trE n scope elt with
      | some t, some i, some c, some t1, some i1, some c1, some e' => some (.lc2 ((ownOf N scope).map (·.2)) t1.slots t i c t1 i1 c1 e')
      | _, _, _, _, _, _, _ => none) else none
    | .DictComp k v [⟨tg, it, ifs, 0⟩] scope _ => if blkOk sc scope = true then (match trP N n scope tg, trI n sc it, trIfs n scope ifs, trE n scope k, trE n scope v with
      | some t, some i, some c, some k', some v' => some (.dc ((ownOf N scope).map (·.2)) t i c k' v')
      | _, _, _, _, _ => none) else none
    | _ => none
/-- a call by a name -/
def trC : Nat → Scope → Str → List Expr → List Keyword → Option E
  | 0, _, _, _, _ => none
  | n + 1, sc, f, args, kws => if isVis (sc.names.lookup f) = true ∧ args.isEmpty = false ∧ args.any isStar = false then (match kws, trPos f, slotOf N f, trEs n sc args with
      | [], true, some i, some es => some (.callv i es)
      | _, _, _, _ => none)
    else if (G.fns.lookup f).isSome = true ∧ (G.con.lookup f).isNone = true ∧ argsOk args = true then (match kws, trPos f, sc.names.lookup f, G.fns.lookup f, args with
      | [], true, some .globalImplicit, some i, [.Starred v _] => (trE n sc v).map fun v' => .call i (.star v' .nil)
      | [], true, some .globalImplicit, some i, args => (trEs n sc args).map fun es => .call i es
      | _, _, _, _, _ => none)
    else if isBlt G sc f = true then (match kws, args with
      | [], [a] => match a with
        | .Call (.Name g _) [x] [] _ => if f = ("len" : Str) ∧ g = ("set" : Str) ∧ isBlt G sc g = true then (trE n sc x).map fun x' => .blt .lenset (.cons x' .nil)
          else if f = ("sorted" : Str) ∧ g = ("set" : Str) ∧ isBlt G sc g = true then (trE n sc x).map fun x' => .blt .sortset (.cons x' .nil)
          else (match findB f 1 bltOf, trE n sc a with
            | some b, some a' => some (.blt b (.cons a' .nil))
            | _, _ => none)
        | a => match findB f 1 bltOf, trE n sc a with
          | some b, some a' => some (.blt b (.cons a' .nil))
          | _, _ => none
      | [], [a, b] => if f = ("isinstance" : Str) then (match trE n sc a, trKinds G sc b with
          | some a', some k => some (.isi k a')
          | _, _ => none)
        else (match findB f 2 bltOf, trE n sc a, trE n sc b with
          | some c, some a', some b' => some (.blt c (.cons a' (.cons b' .nil)))
          | _, _, _ => none)
      | [⟨some key, .Name g _, _⟩], [a] => if f = ("sorted" : Str) ∧ key = ("key" : Str) then (match trName G N sc g, trE n sc a with
          | some (.gfn i), some a' => some (.skey a' i)
          | _, _ => none) else none
      | _, _ => none)
    else none
def trEs : Nat → Scope → List Expr → Option E
  | _, _, [] => some .nil
  | 0, _, _ => none
  | n + 1, sc, .Starred e _ :: es => match trE n sc e, trEs n sc es with
    | some e', some es' => some (.star e' es')
    | _, _ => none
  | n + 1, sc, e :: es => match trE n sc e, trEs n sc es with
    | some e', some es' => some (.cons e' es')
    | _, _ => none
def trD : Nat → Scope → List (Option Expr) → List Expr → Option E
  | _, _, [], [] => some .dnil
  | n + 1, sc, some k :: ks, v :: vs => match trE n sc k, trE n sc v, trD n sc ks vs with
    | some k', some v', some d => some (.dpair k' v' d)
    | _, _, _ => none
  | n + 1, sc, none :: ks, v :: vs => match trE n sc v, trD n sc ks vs with
    | some v', some d => some (.dstar v' d)
    | _, _ => none
  | _, _, _, _ => none
def trB : Nat → Scope → BoolOp → List Expr → Option E
  | 0, _, _, _ => none
  | n + 1, sc, op, es => match es with
    | [] => none
    | [a] => trE n sc a
    | a :: b :: r => match op, trE n sc a, trB n sc op (b :: r) with
      | .And, some a', some b' => some (.and a' b')
      | .Or, some a', some b' => some (.or a' b')
      | _, _, _ => none
def trO : Nat → Scope → Option Expr → Option E
  | _, _, none => some .non
  | 0, _, _ => none
  | n + 1, sc, some e => trE n sc e
def trIfs : Nat → Scope → List Expr → Option E
  | _, _, [] => some (.bl true)
  | n + 1, sc, [c] => trE n sc c
  | _, _, _ => none
/-- what is walked -/
def trI : Nat → Scope → Expr → Option E
  | 0, _, _ => none
  | n + 1, sc, e => match e with
    | .Call (.Name f _) [a] [] _ => if f = ("range" : Str) ∧ isBlt G sc f = true then (trE n sc a).map .rng1
      else if f = ("enumerate" : Str) ∧ isBlt G sc f = true then (trE n sc a).map .enum
      else (trE n sc e).map .iter
    | .Call (.Name f _) [a, b] [] _ => if f = ("range" : Str) ∧ isBlt G sc f = true then (match trE n sc a, trE n sc b with
        | some a', some b' => some (.rng2 a' b')
        | _, _ => none)
      else if f = ("zip" : Str) ∧ isBlt G sc f = true then (match trE n sc a, trE n sc b with
        | some a', some b' => some (.zip a' b')
        | _, _ => none)
      else (trE n sc e).map .iter
    | .Call (.Attribute o m _) [] [] _ => if m = ("items" : Str) then (trE n sc o).map .items else (trE n sc e).map .iter
    | e => (trE n sc e).map .iter
end
mutual
def trT : Nat → Scope → Expr → Option T
  | n + 1, sc, .Name x _ => if isOwn (sc.names.lookup x) = true then (slotOf N x).map .nm else none
  | n + 1, sc, .Tuple es _ _ => (trTs n sc es).map .tp
  | n + 1, sc, .Subscript o i _ => match i with
    | .Slice _ _ _ _ => none
    | i => match trE G N n sc o, trE G N n sc i with
      | some o', some i' => some (.sub o' i')
      | _, _ => none
  | _, _, _ => none
def trTs : Nat → Scope → List Expr → Option T
  | _, _, [] => some .nil
  | n + 1, sc, e :: es => match trT n sc e, trTs n sc es with
    | some p, some ps => some (.cons p ps)
    | _, _ => none
  | _, _, _ => none
end
mutual
def trS : Nat → Scope → Stmt → Option C
  | 0, _, _ => none
  | n + 1, sc, s => match s with
    | .Pass _ => some .skip
    | .Break _ => some .brk
    | .Continue _ => some .cont
    | .Expr (.Call f as ks p) _ => (trE G N n sc (.Call f as ks p)).map .expr
    | .Return (some e) _ => (trE G N n sc e).map .ret
    | .Return none _ => some (.ret .non)
    | .Assign [t] e _ => if tupOk t e = true then (match trT G N n sc t, trE G N n sc e with
      | some t', some e' => some (.asg t' e')
      | _, _ => none) else none
    | .AugAssign (.Name x _) o e _ => if isOwn (sc.names.lookup x) = true then (match slotOf N x, bopOf o, trE G N n sc e with
      | some i, some o', some e' => some (.aug i o' e')
      | _, _, _ => none) else none
    | .If c a b _ => match trE G N n sc c, trSs n sc a, trSs n sc b with
      | some c', some a', some b' => some (.ite c' a' b')
      | _, _, _ => none
    | .While c a [] _ => match trE G N n sc c, trSs n sc a with
      | some c', some a' => some (.whl c' a')
      | _, _ => none
    | .For t it b [] _ => match trP N n sc t, trI G N n sc it, trSs n sc b with
      | some t', some i', some b' => some (.for_ t' i' b')
      | _, _, _ => none
    | _ => none
def trSs : Nat → Scope → List Stmt → Option C
  | _, _, [] => some .skip
  | 0, _, _ => none
  | n + 1, sc, [s] => trS n sc s
  | n + 1, sc, s :: r => match trS n sc s, trSs n sc r with
    | some a, some b => some (.seq a b)
    | _, _ => none
end
end
end TS

set_option Elab.async false
set_option linter.all false
set_option maxRecDepth 100000
/-! A3: what the plain values and stores stand for in HandS' heap. -/
namespace TS
open PySem L2

/-! ### keys -/
mutual
def W.nkey : W → NestedKey
  | .bl b => .num (if b = true then 1 else 0)
  | .int i => .num i
  | .str x => .text x
  | .tup ws => .tup (nkeys ws)
  | .non | .lst _ | .dct _ _ | .ref _ | .fn _ => .none
def nkeys : List W → List NestedKey
  | [] => []
  | w :: ws => W.nkey w :: nkeys ws
end
/-- the entries of a dict by its keys and values -/
inductive Ents (w : World) : List W → List V → List V → List DictEntry → Prop where
  | nil : Ents w [] [] [] []
  | cons {k : W} {ks : List W} {kv uv : V} {kvs uvs : List V} {e : DictEntry} {es : List DictEntry} : e.hash = k.nkey.hash w → RelV kv e.key → RelV uv e.val → Ents w ks kvs uvs es → Ents w (k :: ks) (kv :: kvs) (uv :: uvs) (e :: es)
/-- a dict object told by its entries -/
def dOb (a : Addr) (es : List DictEntry) (ep : Nat) : HO := .ext fun h => (a == sysModules) = false ∧ es.length ≤ sizeLine ∧ ∃ o, h.get? a = some o ∧ o.ExactDict ∧ o.data = .dict es.toArray ep

/-- a tuple among the module's own objects -/
def CT (K : PySem.W.Frag) (a : Addr) (xs : List V) : Prop :=
  ∃ (o : Obj) (its : Array Value) (n : Nat), K.lookup a = some o ∧ o.cls = .type "tuple" ∧ o.data = .seq its n ∧ its.size ≤ sizeLine ∧ Vals xs its.toList
/-- .. a list -/
def CL (K : PySem.W.Frag) (a : Addr) (xs : List V) : Prop :=
  ∃ (o : Obj) (its : Array Value) (n : Nat), K.lookup a = some o ∧ o.cls = .type "list" ∧ o.dict = none ∧ o.data = .seq its n ∧ its.size ≤ sizeLine ∧ Vals xs its.toList
/-- where the store's objects stand; hd: objects in the making, that no value means -/
structure Pls where
  pl : List Addr
  hd : List Addr
instance : Membership Addr Pls := ⟨fun ι a => a ∈ ι.pl ∨ a ∈ ι.hd⟩
theorem Pls.mem {ι : Pls} {a : Addr} : a ∈ ι ↔ a ∈ ι.pl ∨ a ∈ ι.hd := Iff.rfl
theorem Pls.nmem {ι : Pls} {a : Addr} : a ∉ ι ↔ a ∉ ι.pl ∧ a ∉ ι.hd := not_or
def Pls.push (ι : Pls) (a : Addr) : Pls := ⟨ι.pl ++ [a], ι.hd⟩
def Pls.hide (ι : Pls) (a : Addr) : Pls := ⟨ι.pl, a :: ι.hd⟩
section
variable (w : World) (K : PySem.W.Frag) (fa : Nat → Option Addr)
mutual
/-- the value w stands for: ι says where the store's objects stand -/
def RV (H : Hp) (ι : Pls) : W → V → Prop
  | .non, v => v = .non
  | .bl b, v => v = .bl b
  | .int i, v => v = .int i
  | .str x, v => v = .str x ∧ litOk x = true
  | .tup ws, v => ∃ a vs, v = .ref a ∧ ((Rd H a (.tup vs) ∧ a ∉ ι) ∨ CT K a vs) ∧ RVs H ι ws vs
  | .lst ws, v => ∃ a vs, v = .ref a ∧ ((Rd H a (.lst vs) ∧ a ∉ ι) ∨ CL K a vs) ∧ RVs H ι ws vs
  | .dct ks us, v => ∃ a es ep kvs uvs, v = .ref a ∧ H a = some (dOb a es ep) ∧ a ∉ ι ∧ Ents w ks kvs uvs es ∧ (ks.map W.nkey).Nodup ∧ RVs H ι ks kvs ∧ RVs H ι us uvs
  | .ref n, v => ∃ a, ι.pl[n]? = some a ∧ v = .ref a
  | .fn f, v => ∃ a, fa f = some a ∧ v = .ref a
def RVs (H : Hp) (ι : Pls) : List W → List V → Prop
  | [], vs => vs = []
  | w :: ws, vs => ∃ v vs', vs = v :: vs' ∧ RV H ι w v ∧ RVs H ι ws vs'
end
def RO (H : Hp) (ι : Pls) (a : Addr) : Ob → Prop
  | .lst ws => ∃ vs, H a = some (.lst vs) ∧ RVs w K fa H ι ws vs
  | .dct ks us => ∃ es ep kvs uvs, H a = some (dOb a es ep) ∧ Ents w ks kvs uvs es ∧ (ks.map W.nkey).Nodup ∧ RVs w K fa H ι ks kvs ∧ RVs w K fa H ι us uvs
structure RS (H : Hp) (ι : Pls) (S : Sto) : Prop where
  len : ι.pl.length = S.length
  nd : ι.pl.Nodup
  dj : ∀ a ∈ ι.hd, a ∉ ι.pl
  hid : ∀ a ∈ ι.hd, H a ≠ none
  ob : ∀ (n : Nat) (o : Ob) (a : Addr), S[n]? = some o → ι.pl[n]? = some a → RO w K fa H ι a o
structure RR (H : Hp) (ι : Pls) (ρ : Rho) (σ : St) : Prop where
  len : ρ.length = σ.length
  at_ : ∀ (i : Nat) (x : W), ρ[i]? = some (some x) → ∃ v, σ[i]? = some (some v) ∧ RV w K fa H ι x v
end

/-- a step: the store's places may be more; what is tracked and no place of the store's stays -/
structure Ext (ι : Pls) (H : Hp) (ι' : Pls) (H' : Hp) : Prop where
  pre : ∃ κ, ι'.pl = ι.pl ++ κ ∧ ∀ a ∈ κ, H a = none
  hid : ι'.hd = ι.hd
  keep : ∀ a o, H a = some o → a ∉ ι.pl → H' a = some o
  there : ∀ a, H a ≠ none → H' a ≠ none
  dk : ∀ a es ep, H a = some (dOb a es ep) → ∃ es' ep', H' a = some (dOb a es' ep') ∧ es.length ≤ es'.length ∧ (es'.length = es.length → ep' = ep)
theorem Ext.refl (ι : Pls) (H : Hp) : Ext ι H ι H := ⟨⟨[], by simp, fun _ h => nomatch h⟩, rfl, fun _ _ h _ => h, fun _ h => h, fun _ es ep h => ⟨es, ep, h, Nat.le_refl _, fun _ => rfl⟩⟩
theorem Ext.nopl {ι ι' : Pls} {H H' : Hp} (x : Ext ι H ι' H') {a : Addr} (h : H a ≠ none) (n : a ∉ ι.pl) : a ∉ ι'.pl := by
  obtain ⟨κ, e, hk⟩ := x.pre
  rw [e]
  intro m
  rcases List.mem_append.mp m with m | m
  · exact n m
  · exact h (hk a m)
theorem Ext.notin {ι ι' : Pls} {H H' : Hp} (x : Ext ι H ι' H') {a : Addr} (h : H a ≠ none) (n : a ∉ ι) : a ∉ ι' := by
  rw [Pls.nmem] at n ⊢
  exact ⟨x.nopl h n.1, by rw [x.hid]; exact n.2⟩
theorem Ext.trans {ι ι1 ι2 : Pls} {H H1 H2 : Hp} (x : Ext ι H ι1 H1) (y : Ext ι1 H1 ι2 H2) : Ext ι H ι2 H2 := by
  refine ⟨?_, y.hid.trans x.hid, fun a o h n => ?_, fun a h => y.there a (x.there a h), fun a es ep h => ?_⟩
  · obtain ⟨κ, e, hk⟩ := x.pre
    obtain ⟨κ', e', hk'⟩ := y.pre
    refine ⟨κ ++ κ', by rw [e', e, List.append_assoc], fun a m => ?_⟩
    rcases List.mem_append.mp m with m | m
    · exact hk a m
    · cases q : H a with
      | none => rfl
      | some o => exact absurd (hk' a m) (x.there a (by rw [q]; simp))
  · exact y.keep a o (x.keep a o h n) (x.nopl (by rw [h]; simp) n)
  · obtain ⟨es1, ep1, h1, l1, q1⟩ := x.dk a es ep h
    obtain ⟨es2, ep2, h2, l2, q2⟩ := y.dk a es1 ep1 h1
    exact ⟨es2, ep2, h2, Nat.le_trans l1 l2, fun e => by rw [q2 (by omega), q1 (by omega)]⟩
theorem Ext.at {ι ι' : Pls} {H H' : Hp} (x : Ext ι H ι' H') {n : Nat} {a : Addr} (h : ι.pl[n]? = some a) : ι'.pl[n]? = some a := by
  obtain ⟨κ, e, _⟩ := x.pre
  rw [e, List.getElem?_append_left (List.getElem?_eq_some_iff.mp h).1]
  exact h
/-- as a step, but that objects in the making may be written -/
structure Exh (ι : Pls) (H : Hp) (ι' : Pls) (H' : Hp) : Prop where
  pre : ∀ (n : Nat) (a : Addr), ι.pl[n]? = some a → ι'.pl[n]? = some a
  out : ∀ a, H a ≠ none → a ∉ ι → a ∉ ι'
  keep : ∀ a o, H a = some o → a ∉ ι → H' a = some o
  there : ∀ a, H a ≠ none → H' a ≠ none
  hdo : ∀ a, H a ≠ none → a ∉ ι.hd → a ∉ ι'.hd
  dk : ∀ a es ep, a ∉ ι.hd → H a = some (dOb a es ep) → ∃ es' ep', H' a = some (dOb a es' ep') ∧ es.length ≤ es'.length ∧ (es'.length = es.length → ep' = ep)
theorem Ext.exh {ι ι' : Pls} {H H' : Hp} (x : Ext ι H ι' H') : Exh ι H ι' H' := ⟨fun _ _ => x.at, fun _ => x.notin, fun a o h n => x.keep a o h (Pls.nmem.mp n).1, x.there, fun a _ n => by rw [x.hid]; exact n, fun a es ep _ => x.dk a es ep⟩
theorem Exh.trans {ι ι1 ι2 : Pls} {H H1 H2 : Hp} (x : Exh ι H ι1 H1) (y : Exh ι1 H1 ι2 H2) : Exh ι H ι2 H2 := by
  refine ⟨fun n a h => y.pre n a (x.pre n a h), fun a h n => y.out a (x.there a h) (x.out a h n), fun a o h n => y.keep a o (x.keep a o h n) (x.out a (by rw [h]; simp) n), fun a h => y.there a (x.there a h),
    fun a h n => y.hdo a (x.there a h) (x.hdo a h n), fun a es ep n h => ?_⟩
  obtain ⟨es1, ep1, h1, l1, q1⟩ := x.dk a es ep n h
  obtain ⟨es2, ep2, h2, l2, q2⟩ := y.dk a es1 ep1 (x.hdo a (by rw [h]; simp) n) h1
  exact ⟨es2, ep2, h2, Nat.le_trans l1 l2, fun e => by rw [q2 (by omega), q1 (by omega)]⟩
theorem Exh.rd {ι ι' : Pls} {H H' : Hp} (x : Exh ι H ι' H') {a : Addr} {u : HO} (h : Rd H a u) (n : a ∉ ι) : Rd H' a u ∧ a ∉ ι' := by
  rcases h with h | ⟨o, h⟩
  · exact ⟨.inl (x.keep a _ h n), x.out a (by rw [h]; simp) n⟩
  · exact ⟨.inr ⟨o, x.keep a _ h n⟩, x.out a (by rw [h]; simp) n⟩

section
variable {w : World} {K : PySem.W.Frag} {fa : Nat → Option Addr} {H H' : Hp} {ι ι' : Pls}
mutual
theorem RV.monoH (x : Exh ι H ι' H') : ∀ (a : W) (v : V), RV w K fa H ι a v → RV w K fa H' ι' a v
  | .non, v, h => by simpa only [RV] using h
  | .bl b, v, h => by simpa only [RV] using h
  | .int i, v, h => by simpa only [RV] using h
  | .str s, v, h => by simpa only [RV] using h
  | .fn f, v, h => by simpa only [RV] using h
  | .ref n, v, h => by
    simp only [RV] at h ⊢
    obtain ⟨a, e, r⟩ := h
    exact ⟨a, x.pre n a e, r⟩
  | .tup ws, v, h => by
    simp only [RV] at h ⊢
    obtain ⟨a, vs, e, t, r⟩ := h
    refine ⟨a, vs, e, ?_, RVs.monoH x ws vs r⟩
    rcases t with ⟨t, n⟩ | t
    · exact .inl (x.rd t n)
    · exact .inr t
  | .lst ws, v, h => by
    simp only [RV] at h ⊢
    obtain ⟨a, vs, e, t, r⟩ := h
    refine ⟨a, vs, e, ?_, RVs.monoH x ws vs r⟩
    rcases t with ⟨t, n⟩ | t
    · exact .inl (x.rd t n)
    · exact .inr t
  | .dct ks us, v, h => by
    simp only [RV] at h ⊢
    obtain ⟨a, es, ep, kvs, uvs, e, t, n, en, nd, r1, r2⟩ := h
    exact ⟨a, es, ep, kvs, uvs, e, x.keep a _ t n, x.out a (by rw [t]; simp) n, en, nd, RVs.monoH x ks kvs r1, RVs.monoH x us uvs r2⟩
theorem RVs.monoH (x : Exh ι H ι' H') : ∀ (as : List W) (vs : List V), RVs w K fa H ι as vs → RVs w K fa H' ι' as vs
  | [], vs, h => by simpa only [RVs] using h
  | a :: as, vs, h => by
    simp only [RVs] at h ⊢
    obtain ⟨v, vs', e, r, rs⟩ := h
    exact ⟨v, vs', e, RV.monoH x a v r, RVs.monoH x as vs' rs⟩
end
theorem RV.mono (x : Ext ι H ι' H') (a : W) (v : V) (h : RV w K fa H ι a v) : RV w K fa H' ι' a v := RV.monoH x.exh a v h
theorem RVs.mono (x : Ext ι H ι' H') (as : List W) (vs : List V) (h : RVs w K fa H ι as vs) : RVs w K fa H' ι' as vs := RVs.monoH x.exh as vs h
theorem RR.monoH {ρ : Rho} {σ : St} (x : Exh ι H ι' H') (r : RR w K fa H ι ρ σ) : RR w K fa H' ι' ρ σ :=
  ⟨r.len, fun i a e => let ⟨v, e', q⟩ := r.at_ i a e; ⟨v, e', q.monoH x⟩⟩
theorem RR.mono {ρ : Rho} {σ : St} (x : Ext ι H ι' H') (r : RR w K fa H ι ρ σ) : RR w K fa H' ι' ρ σ := r.monoH x.exh

/-! ### lists of values -/
theorem RVs.nil : RVs w K fa H ι [] [] := by simp only [RVs]
theorem RVs.cons {a : W} {as : List W} {v : V} {vs : List V} (h : RV w K fa H ι a v) (t : RVs w K fa H ι as vs) : RVs w K fa H ι (a :: as) (v :: vs) := by
  simp only [RVs]; exact ⟨v, vs, rfl, h, t⟩
theorem RVs.cons_inv {a : W} {as : List W} {vs : List V} (h : RVs w K fa H ι (a :: as) vs) : ∃ v vs', vs = v :: vs' ∧ RV w K fa H ι a v ∧ RVs w K fa H ι as vs' := by
  simpa only [RVs] using h
theorem RVs.nil_inv {vs : List V} (h : RVs w K fa H ι [] vs) : vs = [] := by simpa only [RVs] using h
theorem RVs.length : ∀ {as : List W} {vs : List V}, RVs w K fa H ι as vs → as.length = vs.length
  | [], _, h => by rw [h.nil_inv]; rfl
  | a :: as, _, h => by
    obtain ⟨v, vs', rfl, _, t⟩ := h.cons_inv
    simp [t.length]
theorem RVs.append : ∀ {as bs : List W} {vs us : List V}, RVs w K fa H ι as vs → RVs w K fa H ι bs us → RVs w K fa H ι (as ++ bs) (vs ++ us)
  | [], _, _, _, h, t => by rw [h.nil_inv]; exact t
  | a :: as, _, _, _, h, t => by
    obtain ⟨v, vs', rfl, r, q⟩ := h.cons_inv
    exact .cons r (q.append t)
theorem RVs.get : ∀ {as : List W} {vs : List V} {i : Nat} {a : W}, RVs w K fa H ι as vs → as[i]? = some a → ∃ v, vs[i]? = some v ∧ RV w K fa H ι a v
  | [], _, _, _, _, e => by simp at e
  | b :: as, _, 0, a, h, e => by
    obtain ⟨v, vs', rfl, r, q⟩ := h.cons_inv
    simp at e; subst e
    exact ⟨v, rfl, r⟩
  | b :: as, _, i + 1, a, h, e => by
    obtain ⟨v, vs', rfl, r, q⟩ := h.cons_inv
    obtain ⟨u, h1, h2⟩ := q.get (i := i) (by simpa using e)
    exact ⟨u, by simpa using h1, h2⟩
theorem RVs.get' : ∀ {as : List W} {vs : List V} {i : Nat} {v : V}, RVs w K fa H ι as vs → vs[i]? = some v → ∃ a, as[i]? = some a ∧ RV w K fa H ι a v
  | [], _, _, _, h, e => by rw [h.nil_inv] at e; simp at e
  | b :: as, _, 0, v, h, e => by
    obtain ⟨v, vs', rfl, r, q⟩ := h.cons_inv
    simp at e; subst e
    exact ⟨b, rfl, r⟩
  | b :: as, _, i + 1, v, h, e => by
    obtain ⟨v, vs', rfl, r, q⟩ := h.cons_inv
    obtain ⟨u, h1, h2⟩ := q.get' (i := i) (by simpa using e)
    exact ⟨u, by simpa using h1, h2⟩
theorem RVs.take : ∀ {as : List W} {vs : List V} (n : Nat), RVs w K fa H ι as vs → RVs w K fa H ι (as.take n) (vs.take n)
  | _, _, 0, _ => by simpa using RVs.nil
  | [], _, n + 1, h => by rw [h.nil_inv]; simpa using RVs.nil
  | a :: as, _, n + 1, h => by
    obtain ⟨v, vs', rfl, r, q⟩ := h.cons_inv
    exact .cons r (q.take n)
theorem RVs.drop : ∀ {as : List W} {vs : List V} (n : Nat), RVs w K fa H ι as vs → RVs w K fa H ι (as.drop n) (vs.drop n)
  | _, _, 0, h => by simpa using h
  | [], _, n + 1, h => by rw [h.nil_inv]; simpa using RVs.nil
  | a :: as, _, n + 1, h => by
    obtain ⟨v, vs', rfl, r, q⟩ := h.cons_inv
    exact q.drop n
theorem RVs.set {a : W} {v : V} (r : RV w K fa H ι a v) : ∀ {as : List W} {vs : List V} (n : Nat), RVs w K fa H ι as vs → RVs w K fa H ι (as.set n a) (vs.set n v)
  | [], _, n, h => by rw [h.nil_inv]; simpa using RVs.nil
  | b :: as, _, 0, h => by
    obtain ⟨v, vs', rfl, _, q⟩ := h.cons_inv
    exact .cons r q
  | b :: as, _, n + 1, h => by
    obtain ⟨v, vs', rfl, r', q⟩ := h.cons_inv
    exact .cons r' (q.set r n)
theorem RVs.reverse : ∀ {as : List W} {vs : List V}, RVs w K fa H ι as vs → RVs w K fa H ι as.reverse vs.reverse
  | [], _, h => by rw [h.nil_inv]; simpa using RVs.nil
  | a :: as, _, h => by
    obtain ⟨v, vs', rfl, r, q⟩ := h.cons_inv
    rw [List.reverse_cons, List.reverse_cons]
    exact q.reverse.append (.cons r .nil)
theorem RVs.dropLast {as : List W} {vs : List V} (h : RVs w K fa H ι as vs) : RVs w K fa H ι as.dropLast vs.dropLast := by
  rw [List.dropLast_eq_take, List.dropLast_eq_take, h.length]; exact h.take _
theorem RVs.eraseIdx : ∀ {as : List W} {vs : List V} (n : Nat), RVs w K fa H ι as vs → RVs w K fa H ι (as.eraseIdx n) (vs.eraseIdx n)
  | [], _, n, h => by rw [h.nil_inv]; simpa using RVs.nil
  | b :: as, _, 0, h => by
    obtain ⟨v, vs', rfl, _, q⟩ := h.cons_inv
    exact q
  | b :: as, _, n + 1, h => by
    obtain ⟨v, vs', rfl, r', q⟩ := h.cons_inv
    exact .cons r' (q.eraseIdx n)
theorem RVs.rep {as : List W} {vs : List V} (h : RVs w K fa H ι as vs) : ∀ k : Nat, RVs w K fa H ι (TS.rep k as) (List.replicate k vs).flatten
  | 0 => RVs.nil
  | k + 1 => by
    show RVs w K fa H ι (List.replicate (k + 1) as).flatten (List.replicate (k + 1) vs).flatten
    rw [List.replicate_succ, List.replicate_succ, List.flatten_cons, List.flatten_cons]
    exact h.append (h.rep k)
theorem RVs.cut {as : List W} {vs : List V} (h : RVs w K fa H ι as vs) (lo hi : Option Int) : RVs w K fa H ι (cutOf as lo hi) (cutV vs lo hi) := by
  have e : ∀ n d o, plOf n d o = HT.sIx n d o := fun n d o => by cases o <;> rfl
  unfold cutOf cutV
  rw [e, e, h.length]
  exact (h.drop _).take _

/-! ### the store's objects -/
theorem RO.monoH {o : Ob} {a : Addr} (x : Exh ι H ι' H') (h : RO w K fa H ι a o) (e : H' a = H a) : RO w K fa H' ι' a o := by
  cases o with
  | lst ws =>
    obtain ⟨vs, h1, h2⟩ := h
    exact ⟨vs, by rw [e]; exact h1, h2.monoH x⟩
  | dct ks us =>
    obtain ⟨es, ep, kvs, uvs, h1, h2, h3, h4, h5⟩ := h
    exact ⟨es, ep, kvs, uvs, by rw [e]; exact h1, h2, h3, h4.monoH x, h5.monoH x⟩
theorem RO.there {o : Ob} {a : Addr} (h : RO w K fa H ι a o) : H a ≠ none := by
  cases o with
  | lst ws => obtain ⟨vs, h1, _⟩ := h; rw [h1]; simp
  | dct ks us => obtain ⟨es, ep, kvs, uvs, h1, _⟩ := h; rw [h1]; simp
theorem RS.there {S : Sto} (r : RS w K fa H ι S) {a : Addr} (m : a ∈ ι) : H a ≠ none := by
  rcases Pls.mem.mp m with m | m
  · obtain ⟨n, hn, e⟩ := List.getElem_of_mem m
    have hs : n < S.length := by rw [← r.len]; exact hn
    exact (r.ob n S[n] a (by simp [hs]) (by simp [hn, e])).there
  · exact r.hid a m
/-- a new object that is no place of the store's -/
theorem ext_new {p : Addr} {o : HO} (hp : H p = none) : Ext ι H ι (upd H p o) := by
  refine ⟨⟨[], by simp, fun _ h => nomatch h⟩, rfl, fun a u h _ => ?_, fun a h => ?_, fun a es ep h => ⟨es, ep, ?_, Nat.le_refl _, fun _ => rfl⟩⟩
  · rw [upd_ne (ne_of_none h hp)]; exact h
  · by_cases e : a = p
    · rw [e, upd_same]; simp
    · rw [upd_ne e]; exact h
  · rw [upd_ne (ne_of_none h hp)]; exact h
theorem RS.new {S : Sto} (r : RS w K fa H ι S) {p : Addr} {o : HO} (hp : H p = none) : Ext ι H ι (upd H p o) ∧ RS w K fa (upd H p o) ι S ∧ p ∉ ι := by
  have x : Ext ι H ι (upd H p o) := ext_new hp
  have n : p ∉ ι := fun m => r.there m hp
  refine ⟨x, ⟨r.len, r.nd, r.dj, fun a m => x.there a (r.hid a m), fun k ob a h1 h2 => (r.ob k ob a h1 h2).monoH x.exh ?_⟩, n⟩
  have q : a ≠ p := fun e => n (Pls.mem.mpr (.inl (by rw [← e]; exact List.mem_of_getElem? h2)))
  exact upd_ne q
/-- a new place -/
theorem RS.push {S : Sto} (r : RS w K fa H ι S) {p : Addr} {o : HO} {ob : Ob} (hp : H p = none)
    (h : ∀ H' ι', Ext ι H ι' H' → H' p = some o → RO w K fa H' ι' p ob) :
    Ext ι H (ι.push p) (upd H p o) ∧ RS w K fa (upd H p o) (ι.push p) (S ++ [ob]) := by
  have n : p ∉ ι := fun m => r.there m hp
  have n1 := Pls.nmem.mp n
  have x : Ext ι H (ι.push p) (upd H p o) := by
    refine ⟨⟨[p], rfl, fun a m => by rw [List.mem_singleton.mp m]; exact hp⟩, rfl, fun a u h _ => ?_, fun a h => ?_, fun a es ep h => ⟨es, ep, ?_, Nat.le_refl _, fun _ => rfl⟩⟩
    · rw [upd_ne (ne_of_none h hp)]; exact h
    · by_cases e : a = p
      · rw [e, upd_same]; simp
      · rw [upd_ne e]; exact h
    · rw [upd_ne (ne_of_none h hp)]; exact h
  refine ⟨x, ⟨by simp [Pls.push, r.len], ?_, ?_, fun a m => x.there a (r.hid a m), fun k u a h1 h2 => ?_⟩⟩
  · exact List.nodup_append.mpr ⟨r.nd, by simp, fun a ha b hb => by rw [List.mem_singleton.mp hb]; exact fun e => n1.1 (e ▸ ha)⟩
  · intro a ha m
    rcases List.mem_append.mp m with m | m
    · exact r.dj a ha m
    · rw [List.mem_singleton.mp m] at ha; exact n1.2 ha
  · have h2 : (ι.pl ++ [p])[k]? = some a := h2
    by_cases hk : k < S.length
    · rw [List.getElem?_append_left hk] at h1
      rw [List.getElem?_append_left (by rw [r.len]; exact hk)] at h2
      refine (r.ob k u a h1 h2).monoH x.exh ?_
      have q : a ≠ p := fun e => n1.1 (by rw [← e]; exact List.mem_of_getElem? h2)
      exact upd_ne q
    · have hk' : k = S.length := by
        have := (List.getElem?_eq_some_iff.mp h1).1
        simp at this; omega
      subst hk'
      rw [List.getElem?_append_right (Nat.le_refl _), Nat.sub_self] at h1
      rw [← r.len, List.getElem?_append_right (Nat.le_refl _), Nat.sub_self] at h2
      simp at h1 h2
      subst h1 h2
      exact h _ _ x upd_same
theorem RS.last {S : Sto} (r : RS w K fa H ι S) (p : Addr) : (ι.push p).pl[S.length]? = some p := by
  show (ι.pl ++ [p])[S.length]? = some p
  rw [← r.len]; simp
/-- a list written over -/
theorem lst_no {p : Addr} {vs : List V} {o : HO} (h : H p = some (.lst vs)) : ∀ es ep, H p = some (dOb p es ep) → ∃ es' ep', o = dOb p es' ep' ∧ es.length ≤ es'.length ∧ (es'.length = es.length → ep' = ep) := fun es ep e => by
  rw [h] at e; cases e
/-- a place written -/
theorem RS.put {S : Sto} (r : RS w K fa H ι S) {n : Nat} {p : Addr} {o : HO} {ob : Ob} (hn : ι.pl[n]? = some p)
    (hd : ∀ es ep, H p = some (dOb p es ep) → ∃ es' ep', o = dOb p es' ep' ∧ es.length ≤ es'.length ∧ (es'.length = es.length → ep' = ep))
    (h : ∀ H' ι', Ext ι H ι' H' → H' p = some o → RO w K fa H' ι' p ob) :
    Ext ι H ι (upd H p o) ∧ RS w K fa (upd H p o) ι (S.set n ob) := by
  have m : p ∈ ι.pl := List.mem_of_getElem? hn
  have x : Ext ι H ι (upd H p o) := by
    refine ⟨⟨[], by simp, fun _ h => nomatch h⟩, rfl, fun a u h q => ?_, fun a h => ?_, fun a es ep h0 => ?_⟩
    · have z : a ≠ p := fun e => q (by rw [e]; exact m)
      rw [upd_ne z]; exact h
    · by_cases e : a = p
      · rw [e, upd_same]; simp
      · rw [upd_ne e]; exact h
    · by_cases e : a = p
      · rw [e] at h0 ⊢
        obtain ⟨es', ep', e1, e2, e3⟩ := hd es ep h0
        exact ⟨es', ep', by rw [upd_same, e1], e2, e3⟩
      · exact ⟨es, ep, by rw [upd_ne e]; exact h0, Nat.le_refl _, fun _ => rfl⟩
  refine ⟨x, ⟨by simp [r.len], r.nd, r.dj, fun a m => x.there a (r.hid a m), fun k u a h1 h2 => ?_⟩⟩
  by_cases hk : n = k
  · subst hk
    rw [hn] at h2; cases h2
    have hs : n < S.length := by rw [← r.len]; exact (List.getElem?_eq_some_iff.mp hn).1
    rw [List.getElem?_set_self hs] at h1
    cases h1
    exact h _ _ x upd_same
  · rw [List.getElem?_set_ne hk] at h1
    refine (r.ob k u a h1 h2).monoH x.exh ?_
    have ne : a ≠ p := fun e => by
      subst e
      obtain ⟨l1, e1⟩ := List.getElem?_eq_some_iff.mp hn
      obtain ⟨l2, e2⟩ := List.getElem?_eq_some_iff.mp h2
      exact hk ((List.getElem_inj r.nd).mp (e1.trans e2.symm))
    rw [upd_ne ne]

/-! ### an object in the making -/
theorem exh_hide {p : Addr} {o : HO} (hp : H p = none) : Exh ι H (ι.hide p) (upd H p o) := by
  refine ⟨fun n a h => h, fun a h n => ?_, fun a u h _ => ?_, fun a h => ?_, fun a h n => ?_, fun a es ep n h => ?_⟩
  · rw [Pls.nmem] at n ⊢
    refine ⟨n.1, fun m => ?_⟩
    rcases List.mem_cons.mp m with m | m
    · rw [m] at h; exact h hp
    · exact n.2 m
  · rw [upd_ne (ne_of_none h hp)]; exact h
  · by_cases e : a = p
    · rw [e, upd_same]; simp
    · rw [upd_ne e]; exact h
  · intro m
    rcases List.mem_cons.mp m with m | m
    · rw [m] at h; exact h hp
    · exact n m
  · exact ⟨es, ep, by rw [upd_ne (ne_of_none h hp)]; exact h, Nat.le_refl _, fun _ => rfl⟩
theorem RS.hide {S : Sto} (r : RS w K fa H ι S) {p : Addr} {o : HO} (hp : H p = none) : RS w K fa (upd H p o) (ι.hide p) S := by
  have n : p ∉ ι := fun m => r.there m hp
  have n1 := Pls.nmem.mp n
  refine ⟨r.len, r.nd, fun a m => ?_, fun a m => ?_, fun k u a h1 h2 => ?_⟩
  · rcases List.mem_cons.mp m with m | m
    · rw [m]; exact n1.1
    · exact r.dj a m
  · rcases List.mem_cons.mp m with m | m
    · rw [m, upd_same]; simp
    · have : a ≠ p := fun e => n1.2 (by rw [← e]; exact m)
      rw [upd_ne this]; exact r.hid a m
  · refine (r.ob k u a h1 h2).monoH (exh_hide hp) ?_
    have q : a ≠ p := fun e => n1.1 (by rw [← e]; exact List.mem_of_getElem? h2)
    exact upd_ne q
/-- the object in the making is written -/
theorem exh_write {p : Addr} {o : HO} (hp : p ∈ ι.hd) : Exh ι H ι (upd H p o) :=
  ⟨fun n a h => h, fun a h n => n, fun a u h n => by
    have : a ≠ p := fun e => (Pls.nmem.mp n).2 (by rw [e]; exact hp)
    rw [upd_ne this]; exact h, fun a h => by
    by_cases e : a = p
    · rw [e, upd_same]; simp
    · rw [upd_ne e]; exact h, fun a h n => n, fun a es ep n h => by
    have : a ≠ p := fun e => n (by rw [e]; exact hp)
    exact ⟨es, ep, by rw [upd_ne this]; exact h, Nat.le_refl _, fun _ => rfl⟩⟩
theorem RS.write {S : Sto} (r : RS w K fa H ι S) {p : Addr} {o : HO} (hp : p ∈ ι.hd) : RS w K fa (upd H p o) ι S := by
  refine ⟨r.len, r.nd, r.dj, fun a m => ?_, fun k u a h1 h2 => (r.ob k u a h1 h2).monoH (exh_write hp) ?_⟩
  · by_cases e : a = p
    · rw [e, upd_same]; simp
    · rw [upd_ne e]; exact r.hid a m
  · exact upd_ne fun e => r.dj p hp (by rw [← e]; exact List.mem_of_getElem? h2)
/-- it is made -/
def Pls.show (ι : Pls) : Pls := ⟨ι.pl, ι.hd.tail⟩
theorem exh_show : Exh ι H ι.show H :=
  ⟨fun n a h => h, fun a h n => by
    rw [Pls.nmem] at n ⊢
    exact ⟨n.1, fun m => n.2 (List.mem_of_mem_tail m)⟩, fun a u h n => h, fun a h => h, fun a h n m => n (List.mem_of_mem_tail m), fun a es ep n h => ⟨es, ep, h, Nat.le_refl _, fun _ => rfl⟩⟩
theorem Ext.show (x : Ext ι H ι' H') : Ext ι.show H ι'.show H' := ⟨x.pre, by show ι'.hd.tail = ι.hd.tail; rw [x.hid], x.keep, x.there, x.dk⟩
/-- the object in the making wasn't there -/
theorem Ext.wr {p : Addr} {o : HO} (x : Ext ι H ι' H') (hp : H p = none) : Ext ι H ι' (upd H' p o) := by
  refine ⟨x.pre, x.hid, fun a u h n => ?_, fun a h => ?_, fun a es ep h => ?_⟩
  · rw [upd_ne (ne_of_none h hp)]; exact x.keep a u h n
  · have : a ≠ p := fun e => h (by rw [e]; exact hp)
    rw [upd_ne this]; exact x.there a h
  · obtain ⟨es', ep', h1, h2⟩ := x.dk a es ep h
    exact ⟨es', ep', by rw [upd_ne (ne_of_none h hp)]; exact h1, h2⟩
theorem RS.show {S : Sto} (r : RS w K fa H ι S) : RS w K fa H ι.show S :=
  ⟨r.len, r.nd, fun a m => r.dj a (List.mem_of_mem_tail m), fun a m => r.hid a (List.mem_of_mem_tail m), fun k u a h1 h2 => (r.ob k u a h1 h2).monoH exh_show rfl⟩
end
end TS

set_option Elab.async false
set_option linter.all false
set_option maxRecDepth 100000
/-! A4: readings by what the small syntax computes, and how they go together. -/
namespace TS
open PySem L2 StX PyProof.Rows

/-! ### the monad -/
theorem bindM {α β : Type} {m : M α} {f : α → M β} {S S' : Sto} {b : β} (h : (m >>= f) S = some (b, S')) : ∃ a S1, m S = some (a, S1) ∧ f a S1 = some (b, S') := by
  have h : (match m S with | some (a, S1) => f a S1 | none => none) = some (b, S') := h
  cases e : m S with
  | none => rw [e] at h; cases h
  | some p => obtain ⟨a, S1⟩ := p; rw [e] at h; exact ⟨a, S1, rfl, h⟩
theorem retM {α : Type} {a b : α} {S S' : Sto} (h : (pure a : M α) S = some (b, S')) : b = a ∧ S' = S := by
  have h : some (a, S) = some (b, S') := h
  cases h; exact ⟨rfl, rfl⟩
theorem truthM {m : M W} {S S' : Sto} {b : Bool} (h : truth m S = some (b, S')) : m S = some (.bl b, S') := by
  unfold truth at h
  split at h
  · rename_i b' S1 e
    cases h; exact e
  · cases h
theorem grdM {b : Bool} {S S' : Sto} {u : Unit} (h : M.grd b S = some (u, S')) : b = true ∧ S' = S := by
  unfold M.grd at h
  split at h
  · rename_i e; cases h; exact ⟨e, rfl⟩
  · cases h
theorem bind_some {α β : Type} {m : M α} {f : α → M β} {S S1 : Sto} {a : α} (h : m S = some (a, S1)) : (m >>= f) S = f a S1 := by
  show (match m S with | some (a, S1) => f a S1 | none => none) = f a S1
  rw [h]
theorem truth_some {m : M W} {S S1 : Sto} {b : Bool} (h : m S = some (.bl b, S1)) : truth m S = some (b, S1) := by
  unfold truth; rw [h]
theorem rhoM {i : Nat} {ρ : Rho} {S S' : Sto} {a : W} (h : rhoAt i ρ S = some (a, S')) : ρ[i]? = some (some a) ∧ S' = S := by
  unfold rhoAt at h
  split at h
  · rename_i b e; cases h; exact ⟨e, rfl⟩
  · cases h
theorem itemsM {a : W} {S S' : Sto} {us : List W} (h : itemsOf a S = some (us, S')) : seqOf S a = some us ∧ S' = S := by
  unfold itemsOf at h
  split at h
  · rename_i b e; cases h; exact ⟨e, rfl⟩
  · cases h
theorem lineN_eq : lineN = sizeLine := by rw [sizeLine_eq]; rfl

section
variable (w : World) (K : PySem.W.Frag) (fa : Nat → Option Addr)
/-- behind a value: whatever the heap is then -/
def After (ι : Pls) (H : Hp) (a : W) (S' : Sto) (Q : VK) : Prop := ∀ v H' ι', Ext ι H ι' H' → RS w K fa H' ι' S' → RV w K fa H' ι' a v → Q v H'
def rV (m : Rho → M W) : TE := fun σ H Q => ∃ ι ρ S a S', RS w K fa H ι S ∧ RR w K fa H ι ρ σ ∧ m ρ S = some (a, S') ∧ After w K fa ι H a S' Q
def rA (m : Rho → M (List W)) : TA := fun σ H Q => ∃ ι ρ S as S', RS w K fa H ι S ∧ RR w K fa H ι ρ σ ∧ m ρ S = some (as, S') ∧
  ∀ vs H' ι', Ext ι H ι' H' → RS w K fa H' ι' S' → RVs w K fa H' ι' as vs → Q vs H'
def rB (m : Rho → M Bool) : TT := fun σ H Q => ∃ ι ρ S b S', RS w K fa H ι S ∧ RR w K fa H ι ρ σ ∧ m ρ S = some (b, S') ∧
  ∀ H' ι', Ext ι H ι' H' → RS w K fa H' ι' S' → Q b H'
def rO2 (f : W → W → M W) : R2 := fun x y H Q => ∃ ι S a b c S', RS w K fa H ι S ∧ RV w K fa H ι a x ∧ RV w K fa H ι b y ∧ f a b S = some (c, S') ∧ After w K fa ι H c S' Q
def rCl (f : List W → M W) : List V → Hp → VK → Prop := fun xs H Q => ∃ ι S as c S', RS w K fa H ι S ∧ RVs w K fa H ι as xs ∧ f as S = some (c, S') ∧ After w K fa ι H c S' Q
def rMt (f : W → List W → M W) : V → List V → Hp → VK → Prop := fun x xs H Q => ∃ ι S a as c S', RS w K fa H ι S ∧ RV w K fa H ι a x ∧ RVs w K fa H ι as xs ∧ f a as S = some (c, S') ∧ After w K fa ι H c S' Q
end
section
variable {w : World} {K : PySem.W.Frag} {fa : Nat → Option Addr}
theorem After.mono {ι ι1 : Pls} {H H1 : Hp} {a : W} {S' : Sto} {Q : VK} (h : After w K fa ι H a S' Q) (x : Ext ι H ι1 H1) : After w K fa ι1 H1 a S' Q :=
  fun v H' ι' y rs rv => h v H' ι' (x.trans y) rs rv
/-- nothing is made: the value is there -/
theorem After.here {ι : Pls} {H : Hp} {a : W} {S : Sto} {Q : VK} {v : V} (h : After w K fa ι H a S Q) (rs : RS w K fa H ι S) (rv : RV w K fa H ι a v) : Q v H := h v H ι (Ext.refl _ _) rs rv
end

theorem PEimp {X : Cx} {e : Expr} {t t' : TE} (h : PE X e t) (i : ∀ σ H Q, t' σ H Q → t σ H Q) : PE X e t' := ⟨fun pins s σ H Q I q => h.run pins s σ H Q I (i σ H Q q)⟩
theorem PTimp {X : Cx} {e : Expr} {t t' : TT} (h : PT X e t) (i : ∀ σ H Q, t' σ H Q → t σ H Q) : PT X e t' := ⟨fun pins s σ H Q I q => h.run pins s σ H Q I (i σ H Q q)⟩
theorem PWimp {X : Cx} {e : Expr} {t t' : TT} (h : PW X e t) (i : ∀ σ H Q, t' σ H Q → t σ H Q) : PW X e t' := ⟨fun wh pins s σ H Q I q => h.run wh pins s σ H Q I (i σ H Q q)⟩
theorem PAimp {X : Cx} {e : List Expr} {t t' : TA} (h : PA X e t) (i : ∀ σ H Q, t' σ H Q → t σ H Q) : PA X e t' := ⟨fun pos pins s σ H Q I q => h.run pos pins s σ H Q I (i σ H Q q)⟩
theorem PSimp {X : Cx} {e : Stmt} {t t' : TS} (h : PS X e t) (i : ∀ D σ H, t' D σ H → t D σ H) : PS X e t' := ⟨fun pins s σ H D I q => h.run pins s σ H D I (i D σ H q)⟩
theorem PSsimp {X : Cx} {e : List Stmt} {t t' : TS} (h : PSs X e t) (i : ∀ D σ H, t' D σ H → t D σ H) : PSs X e t' := ⟨fun pins s σ H D I q => h.run pins s σ H D I (i D σ H q)⟩

section
variable {X : Cx} {w : World} {K : PySem.W.Frag} {fa : Nat → Option Addr} {pos : Pos}

/-! ### names and constants -/
theorem ev_const {e : Expr} {v : V} {a : W} (h : PE X e (tC v)) (r : ∀ H ι, RV w K fa H ι a v) : PE X e (rV w K fa fun _ => .ret a) :=
  PEimp h fun σ H Q ⟨ι, ρ, S, b, S', rs, rr, hm, q⟩ => by
    have e : some (a, S) = some (b, S') := hm
    cases e
    exact q.here rs (r H ι)
theorem ev_var {i : Nat} {x : Str} {p : Pos} (h : PE X (.Name x p) (tVar i)) : PE X (.Name x p) (rV w K fa (rhoAt i)) :=
  PEimp h fun σ H Q ⟨ι, ρ, S, b, S', rs, rr, hm, q⟩ => by
    obtain ⟨e, rfl⟩ := rhoM hm
    obtain ⟨v, e', rv⟩ := rr.at_ i _ e
    exact ⟨v, e', q.here rs rv⟩

/-! ### argument lists and displays -/
theorem ev_nil : PA X [] (rA w K fa fun _ => .ret []) := PAimp pa_nil fun σ H Q ⟨ι, ρ, S, b, S', rs, rr, hm, q⟩ => by
  have e : some (([] : List W), S) = some (b, S') := hm
  cases e
  exact q [] H ι (Ext.refl _ _) rs .nil
theorem ev_cons {e : Expr} {es : List Expr} {m : Rho → M W} {ms : Rho → M (List W)} (h1 : PE X e (rV w K fa m)) (h2 : PA X es (rA w K fa ms)) (hs : starEach (e :: es) X.env = (false, eval e X.env) :: starEach es X.env) :
    PA X (e :: es) (rA w K fa fun ρ => do let a ← m ρ; let as ← ms ρ; pure (a :: as)) := PAimp (pa_cons h1 h2 hs) fun σ H Q ⟨ι, ρ, S, b, S', rs, rr, hm, q⟩ => by
  obtain ⟨a, S1, h1, hm⟩ := bindM hm
  obtain ⟨as, S2, h2, hm⟩ := bindM hm
  obtain ⟨rfl, rfl⟩ := retM hm
  exact ⟨ι, ρ, S, a, S1, rs, rr, h1, fun v H1 ι1 x1 rs1 rv1 => ⟨ι1, ρ, S1, as, _, rs1, rr.mono x1, h2, fun vs H2 ι2 x2 rs2 rv2 => q (v :: vs) H2 ι2 (x1.trans x2) rs2 (.cons (rv1.mono x2) rv2)⟩⟩
theorem seqOf_rv {H : Hp} {ι : Pls} {S : Sto} {a : W} {ws : List W} {v : V} (rs : RS w K fa H ι S) (h : seqOf S a = some ws) (rv : RV w K fa H ι a v) : ∃ p vs, v = .ref p ∧ (SqT K H p vs ∨ SqL K H p vs) ∧ RVs w K fa H ι ws vs := by
  cases a with
  | tup us =>
    cases h
    simp only [RV] at rv
    obtain ⟨p, vs, e, t, r⟩ := rv
    refine ⟨p, vs, e, .inl ?_, r⟩
    rcases t with ⟨t, _⟩ | t
    · exact .inl t
    · exact .inr t
  | lst us =>
    cases h
    simp only [RV] at rv
    obtain ⟨p, vs, e, t, r⟩ := rv
    refine ⟨p, vs, e, .inr ?_, r⟩
    rcases t with ⟨t, _⟩ | t
    · exact .inl t
    · exact .inr t
  | ref n =>
    simp only [RV] at rv
    obtain ⟨p, hp, e⟩ := rv
    have h : (match S[n]? with | some (Ob.lst ws) => some ws | _ => none) = some ws := h
    split at h
    · rename_i us hn
      cases h
      obtain ⟨vs, h1, h2⟩ := rs.ob n _ p hn hp
      exact ⟨p, vs, e, .inr (SqL.of h1), h2⟩
    · cases h
  | non => cases h
  | bl b => cases h
  | int i => cases h
  | str s => cases h
  | dct ks us => cases h
  | fn f => cases h
theorem listOf_seq {S : Sto} {a : W} {ws : List W} (h : listOf S a = some ws) : seqOf S a = some ws := by
  cases a <;> first | exact h | cases h
theorem listOf_rv {H : Hp} {ι : Pls} {S : Sto} {a : W} {ws : List W} {v : V} (rs : RS w K fa H ι S) (h : listOf S a = some ws) (rv : RV w K fa H ι a v) : ∃ p vs, v = .ref p ∧ SqL K H p vs ∧ RVs w K fa H ι ws vs := by
  cases a with
  | lst us =>
    cases h
    simp only [RV] at rv
    obtain ⟨p, vs, e, t, r⟩ := rv
    refine ⟨p, vs, e, ?_, r⟩
    rcases t with ⟨t, _⟩ | t
    · exact .inl t
    · exact .inr t
  | ref n =>
    simp only [RV] at rv
    obtain ⟨p, hp, e⟩ := rv
    have h : (match S[n]? with | some (Ob.lst ws) => some ws | _ => none) = some ws := h
    split at h
    · rename_i us hn
      cases h
      obtain ⟨vs, h1, h2⟩ := rs.ob n _ p hn hp
      exact ⟨p, vs, e, SqL.of h1, h2⟩
    · cases h
  | non => cases h
  | bl b => cases h
  | int i => cases h
  | str s => cases h
  | tup ws => cases h
  | dct ks us => cases h
  | fn f => cases h
theorem ev_star {e : Expr} {es : List Expr} {p : Pos} {m : Rho → M W} {ms : Rho → M (List W)} (hK : K = X.K) (h1 : PE X e (rV w K fa m)) (h2 : PA X es (rA w K fa ms)) :
    PA X (.Starred e p :: es) (rA w K fa fun ρ => do
      let a ← m ρ
      let us ← itemsOf a
      let as ← ms ρ
      pure (us ++ as)) := PAimp (pa_star h1 h2) fun σ H Q ⟨ι, ρ, S, b, S', rs, rr, hm, q⟩ => by
  subst hK
  obtain ⟨a, S1, h1, hm⟩ := bindM hm
  obtain ⟨us, S2, h2, hm⟩ := bindM hm
  obtain ⟨as, S3, h3, hm⟩ := bindM hm
  obtain ⟨rfl, rfl⟩ := retM hm
  refine ⟨ι, ρ, S, a, S1, rs, rr, h1, fun v H1 ι1 x1 rs1 rv1 => ?_⟩
  obtain ⟨hw, rfl⟩ := itemsM h2
  obtain ⟨p, vs, e, hq, r⟩ := seqOf_rv rs1 hw rv1
  exact ⟨p, vs, e, hq, ι1, ρ, _, as, _, rs1, rr.mono x1, h3, fun vs' H2 ι2 x2 rs2 rv2 => q (vs ++ vs') H2 ι2 (x1.trans x2) rs2 ((r.mono x2).append rv2)⟩
theorem ev_tup {es : List Expr} {k : Nat} {ms : Rho → M (List W)} (h : PA X es (rA w K fa ms)) : PE X (.Tuple es k pos) (rV w K fa fun ρ => do let ws ← ms ρ; M.fits ws.length; pure (.tup ws)) :=
  PEimp (pe_tup h) fun σ H Q ⟨ι, ρ, S, b, S', rs, rr, hm, q⟩ => by
    obtain ⟨as, S1, h1, hm⟩ := bindM hm
    obtain ⟨_, S2, h2, hm⟩ := bindM hm
    obtain ⟨rfl, rfl⟩ := retM hm
    obtain ⟨hf, rfl⟩ := grdM h2
    have hz : as.length ≤ sizeLine := by rw [← lineN_eq]; exact of_decide_eq_true hf
    refine ⟨ι, ρ, S, as, _, rs, rr, h1, fun vs H1 ι1 x1 rs1 rv1 => ⟨by rw [← rv1.length]; exact hz, fun p hp => ?_⟩⟩
    obtain ⟨x2, rs2, n⟩ := rs1.new (o := .tup vs) hp
    refine q _ _ ι1 (x1.trans x2) rs2 ?_
    simp only [RV]
    exact ⟨p, vs, rfl, .inl ⟨.inl upd_same, n⟩, rv1.mono x2⟩
theorem ev_lst {es : List Expr} {ms : Rho → M (List W)} (h : PA X es (rA w K fa ms)) : PE X (.List es pos) (rV w K fa fun ρ => do let ws ← ms ρ; M.fits ws.length; M.new (.lst ws)) :=
  PEimp (pe_lst h) fun σ H Q ⟨ι, ρ, S, b, S', rs, rr, hm, q⟩ => by
    obtain ⟨as, S1, h1, hm⟩ := bindM hm
    obtain ⟨_, S2, h2, hm⟩ := bindM hm
    have e : some (W.ref S2.length, S2 ++ [Ob.lst as]) = some (b, S') := hm
    cases e
    obtain ⟨hf, rfl⟩ := grdM h2
    have hz : as.length ≤ sizeLine := by rw [← lineN_eq]; exact of_decide_eq_true hf
    refine ⟨ι, ρ, S, as, _, rs, rr, h1, fun vs H1 ι1 x1 rs1 rv1 => ⟨by rw [← rv1.length]; exact hz, fun p hp => ?_⟩⟩
    obtain ⟨x2, rs2⟩ := rs1.push (o := .lst vs) (ob := .lst as) hp fun H' ι' x e => ⟨vs, e, rv1.mono x⟩
    refine q _ _ _ (x1.trans x2) rs2 ?_
    simp only [RV]
    exact ⟨p, rs1.last p, rfl⟩

/-! ### tests, and, or, not -/
theorem tt_plain {e : Expr} {m : Rho → M W} (h : PE X e (rV w K fa m)) (he : ∀ whole, isTrue e X.env whole = (do let v ← whole; standAt e.pos; holding [v] (truthy v))) : PT X e (rB w K fa fun ρ => truth (m ρ)) :=
  PTimp (pt_val h he) fun σ H Q ⟨ι, ρ, S, b, S', rs, rr, hm, q⟩ => by
    refine ⟨ι, ρ, S, _, S', rs, rr, truthM hm, fun v H' ι' x rs' rv => ⟨b, ?_, q H' ι' x rs'⟩⟩
    simpa only [RV] using rv
theorem tt_cmp {r : R2} {m : Rho → M W} {t : TE} {e : Expr} (h : PT X e (tTest t)) (i : ∀ σ H Q, rV w K fa m σ H Q → t σ H Q) : PT X e (rB w K fa fun ρ => truth (m ρ)) :=
  PTimp h fun σ H Q ⟨ι, ρ, S, b, S', rs, rr, hm, q⟩ => by
    refine i σ H _ ⟨ι, ρ, S, _, S', rs, rr, truthM hm, fun v H' ι' x rs' rv => ⟨b, ?_, q H' ι' x rs'⟩⟩
    simpa only [RV] using rv
/-- the reading of `and` as a value, from a test of the left -/
theorem bl_of {v : V} {b : Bool} {H : Hp} {ι : Pls} (h : RV w K fa H ι (.bl b) v) : v = .bl b := by simpa only [RV] using h
theorem bl_to {b : Bool} {H : Hp} {ι : Pls} : RV w K fa H ι (.bl b) (.bl b) := by simp only [RV]
theorem ev_and {a b : Expr} {rest : List Expr} {ma mb : Rho → M W} (ha : PE X a (rV w K fa ma)) (hb : PE X (.BoolOp .And (b :: rest) pos) (rV w K fa mb)) :
    PE X (.BoolOp .And (a :: b :: rest) pos) (rV w K fa fun ρ => do let c ← truth (ma ρ); if c = true then mb ρ else pure (.bl false)) :=
  PEimp (pe_and ha hb) fun σ H Q ⟨ι, ρ, S, c, S', rs, rr, hm, q⟩ => by
    obtain ⟨d, S1, h1, hm⟩ := bindM hm
    refine ⟨ι, ρ, S, _, S1, rs, rr, truthM h1, fun v H1 ι1 x1 rs1 rv1 => ⟨d, bl_of rv1, ?_⟩⟩
    cases d with
    | true => exact ⟨ι1, ρ, S1, c, S', rs1, rr.mono x1, hm, q.mono x1⟩
    | false =>
      obtain ⟨rfl, rfl⟩ := retM hm
      exact (q.mono x1).here rs1 bl_to
theorem ev_or {a b : Expr} {rest : List Expr} {ma mb : Rho → M W} (ha : PE X a (rV w K fa ma)) (hb : PE X (.BoolOp .Or (b :: rest) pos) (rV w K fa mb)) :
    PE X (.BoolOp .Or (a :: b :: rest) pos) (rV w K fa fun ρ => do let c ← truth (ma ρ); if c = true then pure (.bl true) else mb ρ) :=
  PEimp (pe_or ha hb) fun σ H Q ⟨ι, ρ, S, c, S', rs, rr, hm, q⟩ => by
    obtain ⟨d, S1, h1, hm⟩ := bindM hm
    refine ⟨ι, ρ, S, _, S1, rs, rr, truthM h1, fun v H1 ι1 x1 rs1 rv1 => ⟨d, bl_of rv1, ?_⟩⟩
    cases d with
    | false => exact ⟨ι1, ρ, S1, c, S', rs1, rr.mono x1, hm, q.mono x1⟩
    | true =>
      obtain ⟨rfl, rfl⟩ := retM hm
      exact (q.mono x1).here rs1 bl_to
theorem tt_and {a b : Expr} {rest : List Expr} {ma mb : Rho → M W} (ha : PT X a (rB w K fa fun ρ => truth (ma ρ))) (hb : PW X (.BoolOp .And (b :: rest) pos) (rB w K fa fun ρ => truth (mb ρ))) :
    PW X (.BoolOp .And (a :: b :: rest) pos) (rB w K fa fun ρ => truth (do let c ← truth (ma ρ); if c = true then mb ρ else pure (.bl false))) :=
  PWimp (pw_and ha hb) fun σ H Q ⟨ι, ρ, S, c, S', rs, rr, hm, q⟩ => by
    obtain ⟨d, S1, h1, hm⟩ := bindM (truthM hm)
    refine ⟨ι, ρ, S, d, S1, rs, rr, h1, fun H1 ι1 x1 rs1 => ?_⟩
    cases d with
    | true => exact ⟨ι1, ρ, S1, c, S', rs1, rr.mono x1, by simp only [if_true] at hm; exact truth_some hm, fun H2 ι2 x2 rs2 => q H2 ι2 (x1.trans x2) rs2⟩
    | false =>
      obtain ⟨e, rfl⟩ := retM hm
      cases e
      exact q H1 ι1 x1 rs1
theorem tt_or {a b : Expr} {rest : List Expr} {ma mb : Rho → M W} (ha : PT X a (rB w K fa fun ρ => truth (ma ρ))) (hb : PW X (.BoolOp .Or (b :: rest) pos) (rB w K fa fun ρ => truth (mb ρ))) :
    PW X (.BoolOp .Or (a :: b :: rest) pos) (rB w K fa fun ρ => truth (do let c ← truth (ma ρ); if c = true then pure (.bl true) else mb ρ)) :=
  PWimp (pw_or ha hb) fun σ H Q ⟨ι, ρ, S, c, S', rs, rr, hm, q⟩ => by
    obtain ⟨d, S1, h1, hm⟩ := bindM (truthM hm)
    refine ⟨ι, ρ, S, d, S1, rs, rr, h1, fun H1 ι1 x1 rs1 => ?_⟩
    cases d with
    | false => exact ⟨ι1, ρ, S1, c, S', rs1, rr.mono x1, by simp only [Bool.false_eq_true, if_false] at hm; exact truth_some hm, fun H2 ι2 x2 rs2 => q H2 ι2 (x1.trans x2) rs2⟩
    | true =>
      obtain ⟨e, rfl⟩ := retM hm
      cases e
      exact q H1 ι1 x1 rs1
theorem ev_not {a : Expr} {ma : Rho → M W} (ha : PE X a (rV w K fa ma)) : PE X (.UnaryOp .Not a pos) (rV w K fa fun ρ => do let c ← truth (ma ρ); pure (.bl (!c))) :=
  PEimp (pe_not ha) fun σ H Q ⟨ι, ρ, S, c, S', rs, rr, hm, q⟩ => by
    obtain ⟨d, S1, h1, hm⟩ := bindM hm
    obtain ⟨rfl, rfl⟩ := retM hm
    exact ⟨ι, ρ, S, _, _, rs, rr, truthM h1, fun v H1 ι1 x1 rs1 rv1 => ⟨d, bl_of rv1, (q.mono x1).here rs1 bl_to⟩⟩
theorem tt_not {a : Expr} {ma : Rho → M W} (ha : PT X a (rB w K fa fun ρ => truth (ma ρ))) : PT X (.UnaryOp .Not a pos) (rB w K fa fun ρ => truth (do let c ← truth (ma ρ); pure (.bl (!c)))) :=
  PTimp (pt_not ha) fun σ H Q ⟨ι, ρ, S, c, S', rs, rr, hm, q⟩ => by
    obtain ⟨d, S1, h1, hm⟩ := bindM (truthM hm)
    obtain ⟨e, rfl⟩ := retM hm
    cases e
    exact ⟨ι, ρ, S, d, _, rs, rr, h1, q⟩
theorem ev_ifx {c a b : Expr} {mc ma mb : Rho → M W} (hc : PT X c (rB w K fa fun ρ => truth (mc ρ))) (ha : PE X a (rV w K fa ma)) (hb : PE X b (rV w K fa mb)) :
    PE X (.IfExp c a b pos) (rV w K fa fun ρ => do let c ← truth (mc ρ); if c = true then ma ρ else mb ρ) :=
  PEimp (pe_ifExp hc ha hb) fun σ H Q ⟨ι, ρ, S, r, S', rs, rr, hm, q⟩ => by
    obtain ⟨d, S1, h1, hm⟩ := bindM hm
    refine ⟨ι, ρ, S, d, S1, rs, rr, h1, fun H1 ι1 x1 rs1 => ?_⟩
    cases d with
    | true => exact ⟨ι1, ρ, S1, r, S', rs1, rr.mono x1, hm, q.mono x1⟩
    | false => exact ⟨ι1, ρ, S1, r, S', rs1, rr.mono x1, hm, q.mono x1⟩

/-! ### operators -/
theorem rV_op {a b : Expr} {ma mb : Rho → M W} {f : W → W → M W} (σ : L2.St) (H : Hp) (Q : VK) (h : rV w K fa (fun ρ => do let x ← ma ρ; let y ← mb ρ; f x y) σ H Q) :
    tOp (rO2 w K fa f) (rV w K fa ma) (rV w K fa mb) σ H Q := by
  obtain ⟨ι, ρ, S, c, S', rs, rr, hm, q⟩ := h
  obtain ⟨x, S1, h1, hm⟩ := bindM hm
  obtain ⟨y, S2, h2, hm⟩ := bindM hm
  exact ⟨ι, ρ, S, x, S1, rs, rr, h1, fun v1 H1 ι1 x1 rs1 rv1 => ⟨ι1, ρ, S1, y, S2, rs1, rr.mono x1, h2, fun v2 H2 ι2 x2 rs2 rv2 =>
    ⟨ι2, S2, x, y, c, S', rs2, rv1.mono x2, rv2, hm, q.mono (x1.trans x2)⟩⟩⟩
theorem ev_bin {a b : Expr} {op : Operator} {ma mb : Rho → M W} {f : W → W → M W} (ho : OpR X (binaryOp op) (rO2 w K fa f)) (ha : PE X a (rV w K fa ma)) (hb : PE X b (rV w K fa mb)) :
    PE X (.BinOp a op b pos) (rV w K fa fun ρ => do let x ← ma ρ; let y ← mb ρ; f x y) := PEimp (pe_op ho ha hb) fun σ H Q h => rV_op (a := a) (b := b) σ H Q h
theorem ev_cmp {a b : Expr} {op : CmpOp} {ma mb : Rho → M W} {f : W → W → M W} (ho : OpR X (compareOp op) (rO2 w K fa f)) (ha : PE X a (rV w K fa ma)) (hb : PE X b (rV w K fa mb)) (hm : behindInMarks op b = false) :
    PE X (.Compare a [op] [b] pos) (rV w K fa fun ρ => do let x ← ma ρ; let y ← mb ρ; f x y) := PEimp (pe_cmpR ho ha hb hm) fun σ H Q h => rV_op (a := a) (b := b) σ H Q h
theorem tt_cmp1 {a b : Expr} {op : CmpOp} {ma mb : Rho → M W} {f : W → W → M W} (ho : OpR X (compareOp op) (rO2 w K fa f)) (ha : PE X a (rV w K fa ma)) (hb : PE X b (rV w K fa mb)) (hm : behindInMarks op b = false) :
    PT X (.Compare a [op] [b] pos) (rB w K fa fun ρ => truth (do let x ← ma ρ; let y ← mb ρ; f x y)) := tt_cmp (r := rO2 w K fa f) (pt_cmpR ho ha hb hm) fun σ H Q h => rV_op (a := a) (b := b) σ H Q h
/-- a chain's reading -/
theorem rV_chain {ma mb mc : Rho → M W} {f g : W → W → M Bool} (σ : L2.St) (H : Hp) (Q : VK) (h : rV w K fa (fun ρ => do
      let x ← ma ρ
      let y ← mb ρ
      let c1 ← f x y
      if c1 = true then do let z ← mc ρ; let c2 ← g y z; pure (.bl c2) else pure (.bl false)) σ H Q) :
    tChain (rO2 w K fa fun x y => do let c ← f x y; pure (.bl c)) (rO2 w K fa fun x y => do let c ← g x y; pure (.bl c)) (rV w K fa ma) (rV w K fa mb) (rV w K fa mc) σ H Q := by
  obtain ⟨ι, ρ, S, c, S', rs, rr, hm, q⟩ := h
  obtain ⟨x, S1, h1, hm⟩ := bindM hm
  obtain ⟨y, S2, h2, hm⟩ := bindM hm
  obtain ⟨c1, S3, h3, hm⟩ := bindM hm
  refine ⟨ι, ρ, S, x, S1, rs, rr, h1, fun v1 H1 ι1 x1 rs1 rv1 => ⟨ι1, ρ, S1, y, S2, rs1, rr.mono x1, h2, fun v2 H2 ι2 x2 rs2 rv2 =>
    ⟨ι2, S2, x, y, .bl c1, S3, rs2, rv1.mono x2, rv2, ?_, fun v3 H3 ι3 x3 rs3 rv3 => ⟨c1, bl_of rv3, ?_⟩⟩⟩⟩
  · exact bind_some h3
  · cases c1 with
    | true =>
      simp only [if_true] at hm ⊢
      obtain ⟨z, S4, h4, hm⟩ := bindM hm
      exact ⟨ι3, ρ, S3, z, S4, rs3, ((rr.mono x1).mono x2).mono x3, h4, fun v4 H4 ι4 x4 rs4 rv4 => ⟨ι4, S4, y, z, c, S', rs4, (rv2.mono x3).mono x4, rv4, hm, ((q.mono x1).mono x2).mono (x3.trans x4)⟩⟩
    | false =>
      simp only [Bool.false_eq_true, if_false] at hm ⊢
      obtain ⟨rfl, rfl⟩ := retM hm
      exact (q.mono (x1.trans (x2.trans x3))).here rs3 bl_to
theorem non_iff {x : W} {v : V} {H : Hp} {ι : Pls} (h : RV w K fa H ι x v) : decide (v = .non) = decide (x = .non) := by
  cases x with
  | non => simp only [RV] at h; subst h; simp
  | bl b => simp only [RV] at h; subst h; simp
  | int b => simp only [RV] at h; subst h; simp
  | str b => simp only [RV] at h; obtain ⟨rfl, _⟩ := h; simp
  | tup b => simp only [RV] at h; obtain ⟨a, vs, rfl, _⟩ := h; simp
  | lst b => simp only [RV] at h; obtain ⟨a, vs, rfl, _⟩ := h; simp
  | dct b c => simp only [RV] at h; obtain ⟨a, es, ep, b, c, rfl, _⟩ := h; simp
  | ref b => simp only [RV] at h; obtain ⟨a, _, rfl⟩ := h; simp
  | fn b => simp only [RV] at h; obtain ⟨a, _, rfl⟩ := h; simp
theorem ev_isn {a : Expr} {ma : Rho → M W} {j p'} (ha : PE X a (rV w K fa ma)) : PE X (.Compare a [.Is] [.Constant .none j p'] pos) (rV w K fa fun ρ => do let x ← ma ρ; pure (.bl (decide (x = .non)))) :=
  PEimp (pe_cmp (pc_isN ha)) fun σ H Q ⟨ι, ρ, S, c, S', rs, rr, hm, q⟩ => by
    obtain ⟨x, S1, h1, hm⟩ := bindM hm
    obtain ⟨rfl, rfl⟩ := retM hm
    refine ⟨ι, ρ, S, x, _, rs, rr, h1, fun v H1 ι1 x1 rs1 rv1 => ?_⟩
    show Q (.bl (decide (v = .non))) H1
    rw [non_iff rv1]; exact (q.mono x1).here rs1 bl_to
theorem ev_notn {a : Expr} {ma : Rho → M W} {j p'} (ha : PE X a (rV w K fa ma)) : PE X (.Compare a [.IsNot] [.Constant .none j p'] pos) (rV w K fa fun ρ => do let x ← ma ρ; pure (.bl (!decide (x = .non)))) :=
  PEimp (pe_cmp (pc_notN ha)) fun σ H Q ⟨ι, ρ, S, c, S', rs, rr, hm, q⟩ => by
    obtain ⟨x, S1, h1, hm⟩ := bindM hm
    obtain ⟨rfl, rfl⟩ := retM hm
    refine ⟨ι, ρ, S, x, _, rs, rr, h1, fun v H1 ι1 x1 rs1 rv1 => ?_⟩
    show Q (.bl (!decide (v = .non))) H1
    rw [non_iff rv1]; exact (q.mono x1).here rs1 bl_to
theorem tB_rV {e : Expr} {t : TE} {m : Rho → M W} (h : PT X e (tB t)) (i : ∀ σ H Q, rV w K fa m σ H Q → t σ H Q) : PT X e (rB w K fa fun ρ => truth (m ρ)) :=
  PTimp h fun σ H Q ⟨ι, ρ, S, b, S', rs, rr, hm, q⟩ => i σ H _ ⟨ι, ρ, S, _, S', rs, rr, truthM hm, fun v H' ι' x rs' rv => ⟨b, bl_of rv, q H' ι' x rs'⟩⟩
end
end TS

set_option Elab.async false
set_option linter.all false
set_option maxRecDepth 100000
/-! A5: calls. -/
namespace TS
open PySem L2 StX PyProof.Rows

theorem star_no {e : Expr} {es : List Expr} {env : Env} (h : isStar e = false) : starEach (e :: es) env = (false, eval e env) :: starEach es env := by
  cases e <;> first | rfl | cases h
theorem back_any {pos : Pos} {env : Env} : ∀ es : List Expr, (backTo pos (starEach es env)).any (·.1) = es.any isStar
  | [] => rfl
  | e :: es => by
    have ih := back_any (pos := pos) (env := env) es
    cases hs : isStar e with
    | false =>
      rw [star_no hs, List.any_cons, hs]
      show (false || (backTo pos (starEach es env)).any (·.1)) = _
      rw [ih]
    | true =>
      cases e with
      | Starred v p => rw [List.any_cons, hs]; rfl
      | _ => cases hs

/-- what a def of the table promises -/
def spD (w : World) (K : PySem.W.Frag) (fa : Nat → Option Addr) (f : List W → M W) : Sp := fun vs H Q _ => rCl w K fa f vs H Q
structure Tbl (P : Program) (w : World) (K : PySem.W.Frag) (mg : Str → Option Value) (base : Heap) (fa : Nat → Option Addr) (n : Nat) (cf : Nat → List W → M W) : Prop where
  fn : ∀ f a, fa f = some a → PySem.W.keepIn K (.ref a) = true ∧ FnR P w K mg base CX0 n a (spD w K fa (cf f))

section
variable {X : Cx} {fa : Nat → Option Addr} {pos : Pos} {n : Nat} {cf : Nat → List W → M W} {x : Str} {p : Pos} {f : Nat} {a : Addr} {e : Expr} {es : List Expr} {ms : Rho → M (List W)}
theorem run_R {sp : Sp} {pins : List (Addr × Obj)} {σ : L2.St} {H : Hp} {s : Shared} {Q : VK} {us : List Value} {vs : List V} (F : FnR X.prog X.w X.K X.mg X.base CX0 n a sp) (hr : Room n X.A) (I : Inv X pins σ H s) (r : Vals vs us) (h : sp vs H Q E0) :
    wpAny (model X.prog X.w) X.A (call (.ref a) us) (EP X pins σ Q) X.xe s := wpAny_call (run_fnR F hr pass0 I r h)
theorem rA_args {g : List W → M W} {σ : L2.St} {H : Hp} {Q : VK} (h : rV X.w X.K fa (fun ρ => do let ws ← ms ρ; g ws) σ H Q) : rA X.w X.K fa ms σ H (fun vs H1 => spD X.w X.K fa g vs H1 Q E0) := by
  obtain ⟨ι, ρ, S, b, S', rs, rr, hw, q⟩ := h
  obtain ⟨ws, S1, h1, hw⟩ := bindM hw
  exact ⟨ι, ρ, S, ws, S1, rs, rr, h1, fun vs H1 ι1 x1 rs1 rv1 => ⟨ι1, S1, ws, b, S', rs1, rv1, hw, q.mono x1⟩⟩
/-- f(e, ..) -/
theorem ev_call (T : Tbl X.prog X.w X.K X.mg X.base fa n cf) (hf : fa f = some a) (hr : Room n X.A) (hg : Gl X x) (hm : X.mg x = some (.ref a)) (hd : (x == ("__debug__" : Str)) = false)
    (h : PA X (e :: es) (rA X.w X.K fa ms)) (hs : isStar e = false) : PE X (.Call (.Name x p) (e :: es) [] pos) (rV X.w X.K fa fun ρ => do let ws ← ms ρ; cf f ws) := by
  obtain ⟨hk, F⟩ := T.fn f a hf
  refine ⟨fun pins s σ H Q I hw => ?_⟩
  have arg := rA_args hw
  refine wpAny_Call_Name_kw (ld_glob I hg hm ?_ hd)
  cases hst : es.any isStar with
  | false =>
    exact PySem.W.callWith_K (h₀ := X.base) I.ok.mod.kin hk (thn (h.run pos pins s σ H _ I arg) fun us s1 ⟨vs, H1, I1, r, q⟩ => ⟨I1.kIn, run_R F hr I1 r q⟩) (star_no hs) (by rw [back_any]; exact hst)
  | true =>
    exact PySem.W.callWith_S2 (h₀ := X.base) I.ok.mod.kin hk (thn (h.run pos pins s σ H _ I arg) fun us s1 ⟨vs, H1, I1, r, q⟩ => ⟨I1.kIn, run_R F hr I1 r q⟩) (star_no hs) (by rw [back_any]; exact hst)
/-- f() -/
theorem ev_call0 (T : Tbl X.prog X.w X.K X.mg X.base fa n cf) (hf : fa f = some a) (hr : Room n X.A) (hg : Gl X x) (hm : X.mg x = some (.ref a)) (hd : (x == ("__debug__" : Str)) = false) :
    PE X (.Call (.Name x p) [] [] pos) (rV X.w X.K fa fun _ => do let ws ← (M.ret [] : M (List W)); cf f ws) := by
  obtain ⟨hk, F⟩ := T.fn f a hf
  refine ⟨fun pins s σ H Q I hw => ?_⟩
  refine wpAny_Call_Name_kw (ld_glob I hg hm ?_ hd)
  refine PySem.W.callWith_K0 I.kIn hk (run_R (us := []) (vs := []) F hr I .nil ?_)
  obtain ⟨ι, ρ, S, b, S', rs, rr, hw, q⟩ := hw
  exact ⟨ι, S, [], b, S', rs, .nil, hw, q⟩
/-- f(*e) -/
theorem ev_callS {m : Rho → M W} {sp_ : Pos} (T : Tbl X.prog X.w X.K X.mg X.base fa n cf) (hf : fa f = some a) (hr : Room n X.A) (hg : Gl X x) (hm : X.mg x = some (.ref a)) (hd : (x == ("__debug__" : Str)) = false)
    (h : PE X e (rV X.w X.K fa m)) : PE X (.Call (.Name x p) [.Starred e sp_] [] pos) (rV X.w X.K fa fun ρ => do
      let ws ← (do let a ← m ρ; let us ← itemsOf a; let as ← (M.ret [] : M (List W)); pure (us ++ as))
      cf f ws) := by
  obtain ⟨hk, F⟩ := T.fn f a hf
  refine PEimp (pe_callS1 F hr hk hg hm pass0 h hd) fun σ H Q ⟨ι, ρ, S, b, S', rs, rr, hw, q⟩ => ?_
  obtain ⟨ws, S1, h1, hw⟩ := bindM hw
  obtain ⟨x, S2, h2, h1⟩ := bindM h1
  obtain ⟨us, S3, h3, h1⟩ := bindM h1
  obtain ⟨as, S4, h4, h1⟩ := bindM h1
  obtain ⟨rfl, rfl⟩ := retM h1
  have e4 : some (([] : List W), S3) = some (as, S1) := h4
  cases e4
  obtain ⟨h3, rfl⟩ := itemsM h3
  refine ⟨ι, ρ, S, x, _, rs, rr, h2, fun v1 H1 ι1 x1 rs1 rv1 => ?_⟩
  obtain ⟨p, vs, ev, hq, r⟩ := seqOf_rv rs1 h3 rv1
  rw [List.append_nil] at hw
  exact ⟨p, vs, ev, hq, ι1, _, us, b, S', rs1, r, hw, q.mono x1⟩
/-- a call of what a name of the def holds -/
theorem ev_callv {i : Nat} (T : Tbl X.prog X.w X.K X.mg X.base fa n cf) (hr : Room n X.A) (hx : PE X (.Name x p) (rV X.w X.K fa (rhoAt i))) (h : PA X (e :: es) (rA X.w X.K fa ms)) (hs : isStar e = false) (hst : es.any isStar = false) :
    PE X (.Call (.Name x p) (e :: es) [] pos) (rV X.w X.K fa fun ρ => do let y ← rhoAt i ρ; let ws ← ms ρ; wCallV cf y ws) := by
  refine ⟨fun pins s σ H Q I hw => ?_⟩
  obtain ⟨ι, ρ, S, b, S', rs, rr, hw0, q⟩ := hw
  obtain ⟨y, S1, h1, hw1⟩ := bindM hw0
  obtain ⟨ws, S2, h2, hw2⟩ := bindM hw1
  clear hw0 hw1
  obtain ⟨hρ, rfl⟩ := rhoM h1
  refine wpAny_Call_Name_kw (thn (hx.run pins s σ H (fun v H1 => ∃ ι1, Ext ι H ι1 H1 ∧ RS X.w X.K fa H1 ι1 S1 ∧ RV X.w X.K fa H1 ι1 y v) I ⟨ι, ρ, S1, y, S1, rs, rr, h1, fun v H1 ι1 x1 rs1 rv1 => ⟨ι1, x1, rs1, rv1⟩⟩) fun u s1 ⟨v, H1, I1, r1, ι1, x1, rs1, rv1⟩ => ?_)
  cases y with
  | fn f =>
    simp only [RV] at rv1
    obtain ⟨a, hf, ev⟩ := rv1
    subst ev
    obtain rfl : u = Value.ref a := r1
    obtain ⟨hk, F⟩ := T.fn f a hf
    have arg : rA X.w X.K fa ms σ H1 (fun vs H2 => spD X.w X.K fa (cf f) vs H2 Q E0) :=
      ⟨ι1, ρ, S1, ws, S2, rs1, rr.mono x1, h2, fun vs H2 ι2 x2 rs2 rv2 => ⟨ι2, S2, ws, b, S', rs2, rv2, hw2, q.mono (x1.trans x2)⟩⟩
    exact PySem.W.callWith_K (h₀ := X.base) I.ok.mod.kin hk (thn (h.run pos pins s1 σ H1 _ I1 arg) fun us s2 ⟨vs, H2, I2, r, q⟩ => ⟨I2.kIn, run_R F hr I2 r q⟩) (star_no hs) (by rw [back_any]; exact hst)
  | _ => cases hw2

/-! ### built-ins, methods, subscripts -/
theorem rA_cl {g : List W → M W} (σ : L2.St) (H : Hp) (Q : VK) (h : rV X.w X.K fa (fun ρ => do let ws ← ms ρ; g ws) σ H Q) : tCB (rCl X.w X.K fa g) (rA X.w X.K fa ms) σ H Q := by
  obtain ⟨ι, ρ, S, b, S', rs, rr, hw, q⟩ := h
  obtain ⟨ws, S1, h1, hw⟩ := bindM hw
  exact ⟨ι, ρ, S, ws, S1, rs, rr, h1, fun vs H1 ι1 x1 rs1 rv1 => ⟨ι1, S1, ws, b, S', rs1, rv1, hw, q.mono x1⟩⟩
theorem ev_blt {id : String} {g : List W → M W} (hc : CallR X (.builtin id) (rCl X.w X.K fa g)) (hg : Gl X x) (hm : X.mg x = none) (hv : bootBuiltins x = some (.builtin id)) (hn : x ≠ "__name__") (hd : (x == ("__debug__" : Str)) = false)
    (h : PA X (e :: es) (rA X.w X.K fa ms)) (hs : isStar e = false) (hst : es.any isStar = false) : PE X (.Call (.Name x p) (e :: es) [] pos) (rV X.w X.K fa fun ρ => do let ws ← ms ρ; g ws) :=
  PEimp (pe_callB hc hg hm hv h hn hd (star_no hs) (by rw [back_any]; exact hst)) fun σ H Q q => rA_cl σ H Q q
theorem ev_ty {id : String} {g : List W → M W} (hc : CallR X (.type id) (rCl X.w X.K fa g)) (hg : Gl X x) (hm : X.mg x = none) (hv : bootBuiltins x = some (.type id)) (hn : x ≠ "__name__") (hd : (x == ("__debug__" : Str)) = false)
    (h : PA X (e :: es) (rA X.w X.K fa ms)) (hs : isStar e = false) (hst : es.any isStar = false) : PE X (.Call (.Name x p) (e :: es) [] pos) (rV X.w X.K fa fun ρ => do let ws ← ms ρ; g ws) :=
  PEimp (pe_callTy hc hg hm hv h hn hd (star_no hs) (by rw [back_any]; exact hst)) fun σ H Q q => rA_cl σ H Q q
/-- o[i], i no slice -/
theorem plain_ix {b : Expr} (h : isSlice b = false) : PlainIx b := by
  intro o i
  cases b <;> first | rfl | cases h
theorem ev_ix {b : Expr} {ma mb : Rho → M W} {g : W → W → M W} (ho : IxR X (rO2 X.w X.K fa g)) (ha : PE X e (rV X.w X.K fa ma)) (hb : PE X b (rV X.w X.K fa mb)) (hs : isSlice b = false) :
    PE X (.Subscript e b pos) (rV X.w X.K fa fun ρ => do let x ← ma ρ; let y ← mb ρ; g x y) := PEimp (pe_ix ho ha hb (plain_ix hs)) fun σ H Q h => rV_op (a := e) (b := b) σ H Q h
end
end TS

set_option Elab.async false
set_option linter.all false
set_option maxRecDepth 100000
/-! A6: the operators on values. -/
namespace TS
open PySem L2 StX PyProof.Rows

section
variable {X : Cx} {fa : Nat → Option Addr}
theorem After.new_tup {w : World} {K : PySem.W.Frag} {ι : Pls} {H : Hp} {ws : List W} {vs : List V} {S : Sto} {Q : VK} {p : Addr} (q : After w K fa ι H (.tup ws) S Q) (rs : RS w K fa H ι S) (r : RVs w K fa H ι ws vs) (hp : H p = none) : Q (.ref p) (upd H p (.tup vs)) := by
  obtain ⟨x, rs', n⟩ := rs.new (o := .tup vs) hp
  refine q _ _ ι x rs' ?_
  simp only [RV]
  exact ⟨p, vs, rfl, .inl ⟨.inl upd_same, n⟩, r.mono x⟩
theorem After.new_lst {w : World} {K : PySem.W.Frag} {ι : Pls} {H : Hp} {ws : List W} {vs : List V} {S : Sto} {Q : VK} {p : Addr} (q : After w K fa ι H (.lst ws) S Q) (rs : RS w K fa H ι S) (r : RVs w K fa H ι ws vs) (hp : H p = none) : Q (.ref p) (upd H p (.lst vs)) := by
  obtain ⟨x, rs', n⟩ := rs.new (o := .lst vs) hp
  refine q _ _ ι x rs' ?_
  simp only [RV]
  exact ⟨p, vs, rfl, .inl ⟨.inl upd_same, n⟩, r.mono x⟩
/-- a new list of the store -/
theorem After.push_lst {w : World} {K : PySem.W.Frag} {ι : Pls} {H : Hp} {ws : List W} {vs : List V} {S : Sto} {Q : VK} {p : Addr} (q : After w K fa ι H (.ref S.length) (S ++ [.lst ws]) Q) (rs : RS w K fa H ι S) (r : RVs w K fa H ι ws vs) (hp : H p = none) : Q (.ref p) (upd H p (.lst vs)) := by
  obtain ⟨x, rs'⟩ := rs.push (o := .lst vs) (ob := .lst ws) hp fun H' ι' y e => ⟨vs, e, r.mono y⟩
  refine q _ _ _ x rs' ?_
  simp only [RV]
  exact ⟨p, rs.last p, rfl⟩
theorem rv_int {w : World} {K : PySem.W.Frag} {H : Hp} {ι : Pls} {i : Int} {v : V} : RV w K fa H ι (.int i) v ↔ v = .int i := by simp only [RV]
theorem rv_bl {w : World} {K : PySem.W.Frag} {H : Hp} {ι : Pls} {i : Bool} {v : V} : RV w K fa H ι (.bl i) v ↔ v = .bl i := by simp only [RV]
theorem rv_non {w : World} {K : PySem.W.Frag} {H : Hp} {ι : Pls} {v : V} : RV w K fa H ι .non v ↔ v = .non := by simp only [RV]
theorem rv_str {w : World} {K : PySem.W.Frag} {H : Hp} {ι : Pls} {x : Str} {v : V} : RV w K fa H ι (.str x) v ↔ v = .str x ∧ litOk x = true := by simp only [RV]
theorem rv_tup {w : World} {K : PySem.W.Frag} {H : Hp} {ι : Pls} {ws : List W} {v : V} : RV w K fa H ι (.tup ws) v ↔ ∃ a vs, v = .ref a ∧ ((Rd H a (.tup vs) ∧ a ∉ ι) ∨ CT K a vs) ∧ RVs w K fa H ι ws vs := by simp only [RV]
theorem rv_tup' {w : World} {K : PySem.W.Frag} {H : Hp} {ι : Pls} {ws : List W} {v : V} (h : RV w K fa H ι (.tup ws) v) : ∃ a vs, v = .ref a ∧ SqT K H a vs ∧ RVs w K fa H ι ws vs := by
  obtain ⟨a, vs, e, t, r⟩ := rv_tup.mp h
  refine ⟨a, vs, e, ?_, r⟩
  rcases t with ⟨t, _⟩ | t
  · exact .inl t
  · exact .inr t
theorem rv_ref {w : World} {K : PySem.W.Frag} {H : Hp} {ι : Pls} {n : Nat} {v : V} : RV w K fa H ι (.ref n) v ↔ ∃ a, ι.pl[n]? = some a ∧ v = .ref a := by simp only [RV]
theorem listOf_rv' {w : World} {K : PySem.W.Frag} {H : Hp} {ι : Pls} {ws : List W} {v : V} (h : RV w K fa H ι (.lst ws) v) : ∃ a vs, v = .ref a ∧ SqL K H a vs ∧ RVs w K fa H ι ws vs := by
  simp only [RV] at h
  obtain ⟨p, vs, e, t, r⟩ := h
  refine ⟨p, vs, e, ?_, r⟩
  rcases t with ⟨t, _⟩ | t
  · exact .inl t
  · exact .inr t
theorem litOk_app {x y : Str} (hx : litOk x = true) (hy : litOk y = true) (h : x.length + y.length ≤ lineN) : litOk (x ++ y) = true := by
  unfold litOk at *
  rw [Bool.and_eq_true] at *
  have e : (x ++ y : Str).cps = x.cps ++ y.cps := rfl
  refine ⟨?_, decide_eq_true ?_⟩
  · have h1 := hx.1
    have h2 := hy.1
    unfold PyData.strOk at *
    rw [e, Array.all_append, h1, h2]; rfl
  · show (x ++ y : Str).cps.size ≤ lineN
    rw [e, Array.size_append]; exact h
theorem litOk_len {x : Str} (h : litOk x = true) : x.length ≤ sizeLine := by
  unfold litOk at h
  rw [Bool.and_eq_true] at h
  rw [← lineN_eq]; exact of_decide_eq_true h.2
theorem litOk_str {x : Str} (h : litOk x = true) : PyData.strOk x = true := by
  unfold litOk at h
  rw [Bool.and_eq_true] at h
  exact h.1

/-- list + list, both of any standing -/
theorem op_catR : OpR X (binaryOp .Add) (fun x y H Q => ∃ l b xs zs, x = .ref l ∧ y = .ref b ∧ SqL X.K H l xs ∧ SqL X.K H b zs ∧ xs.length + zs.length ≤ sizeLine ∧ ∀ p, H p = none → Q (.ref p) (upd H p (.lst (xs ++ zs)))) := by
  rintro pins s σ H x y v u Q I rx ry ⟨l, b, xs, zs, rfl, rfl, h1, h2, hz, q⟩
  obtain rfl : v = Value.ref l := rx
  obtain rfl : u = Value.ref b := ry
  obtain ⟨its, r, p1, z1⟩ := I.list h1
  obtain ⟨its2, r2, p2, z2⟩ := I.list h2
  have l1 := r.length
  have l2 := r2.length
  obtain ⟨⟨cls, dd, data, sl⟩, ho, hc, n, hd⟩ := id p1.isList
  obtain ⟨⟨cls2, dd2, data2, sl2⟩, ho2, hc2, n2, hd2⟩ := id p2.isList
  simp only at hc hd hc2 hd2
  subst hc hd hc2 hd2
  refine concat_meets ⟨_, ho, rfl⟩ ⟨_, ho2, rfl⟩ noFill_list_add seq_list_add PySem.F.slot_list_add PySem.F.entry_list_add (PySem.F.args_list_add_2 _ _) (list_addW l b its.toArray its2.toArray n n2 dd dd2 sl sl2 (by simp; omega)) ⟨ho, ho2, ?_⟩
  rw [List.append_toArray]
  exact ⟨.ref _, _, I.lnew (t' := s.toks) (r.append r2) (by rw [List.length_append]; omega), rfl, q _ I.fresh⟩

theorem o_add : OpR X (binaryOp .Add) (rO2 X.w X.K fa wAdd) := by
  rintro pins s σ H x y v u Q I rx ry ⟨ι, S, a, b, c, S', rs, ra, rb, hf, q⟩
  have lists : ∀ xs ys, listOf S a = some xs → listOf S b = some ys → (if xs.length + ys.length ≤ lineN then some (W.lst (xs ++ ys), S) else none) = some (c, S') → wpAny (model X.prog X.w) X.A (binaryOp .Add v u) (EP X pins σ Q) X.xe s := by
    intro xs ys h1 h2 h3
    split at h3
    · rename_i hz
      cases h3
      obtain ⟨l, vs, e1, d1, r1⟩ := listOf_rv rs h1 ra
      obtain ⟨l', vs', e2, d2, r2⟩ := listOf_rv rs h2 rb
      refine op_catR pins s σ H x y v u Q I rx ry ⟨l, l', vs, vs', e1, e2, d1, d2, by rw [← r1.length, ← r2.length, ← lineN_eq]; exact hz, fun p hp => q.new_lst rs (r1.append r2) hp⟩
    · cases h3
  unfold wAdd at hf
  split at hf
  · cases hf
    rw [rv_int] at ra rb
    exact op_add pins s σ H x y v u Q I rx ry ⟨_, _, ra, rb, q.here rs (rv_int.mpr rfl)⟩
  · split at hf
    · rename_i hz
      cases hf
      rw [rv_str] at ra rb
      exact op_add_str pins s σ H x y v u Q I rx ry ⟨_, _, ra.1, rb.1, by rw [← lineN_eq]; exact hz, q.here rs (rv_str.mpr ⟨rfl, litOk_app ra.2 rb.2 hz⟩)⟩
    · cases hf
  · split at hf
    · rename_i hz
      cases hf
      obtain ⟨l, vs, e1, d1, r1⟩ := rv_tup' ra
      obtain ⟨l', vs', e2, d2, r2⟩ := rv_tup' rb
      refine op_catA pins s σ H x y v u Q I rx ry ⟨l, l', vs, vs', e1, e2, d1, d2, by rw [← r1.length, ← r2.length, ← lineN_eq]; exact hz, fun e => ?_, fun _ e => ?_, fun _ _ p hp => q.new_tup rs (r1.append r2) hp⟩
      · subst e
        have z : _ = 0 := r1.length
        rw [List.eq_nil_of_length_eq_zero z] at q
        rw [e2] at rb
        exact q.here rs rb
      · subst e
        have z : _ = 0 := r2.length
        rw [List.eq_nil_of_length_eq_zero z, List.append_nil] at q
        rw [e1] at ra
        exact q.here rs ra
    · cases hf
  · split at hf
    · rename_i h1 h2
      exact lists _ _ h1 h2 hf
    · cases hf

theorem o_mul : OpR X (binaryOp .Mult) (rO2 X.w X.K fa wMul) := by
  rintro pins s σ H x y v u Q I rx ry ⟨ι, S, a, b, c, S', rs, ra, rb, hf, q⟩
  unfold wMul at hf
  split at hf
  · split at hf
    · rename_i hz
      cases hf
      rw [rv_int] at ra rb
      exact op_mul pins s σ H x y v u Q I rx ry ⟨_, _, ra, rb, .inl ⟨by have := hz.1; unfold bigN at this; omega, by have := hz.2; unfold bigN at this; omega⟩, q.here rs (rv_int.mpr rfl)⟩
    · cases hf
  · split at hf
    · rename_i hz
      cases hf
      rw [rv_int] at rb
      obtain ⟨p, vs, e1, d1, r1⟩ := rv_tup' ra
      exact op_repT pins s σ H x y v u Q I rx ry ⟨p, _, vs, e1, rb, d1, fun e => hz.2.1 (by rw [e] at r1; exact List.eq_nil_of_length_eq_zero r1.length), hz.2.2.1, hz.2.2.2, by rw [← r1.length]; exact hz.1, fun p hp => q.new_tup rs (r1.rep _) hp⟩
    · cases hf
  · split at hf
    · rename_i n k xs hn
      split at hf
      · rename_i hz
        cases hf
        rw [rv_int] at rb
        obtain ⟨p, hp, ea⟩ := rv_ref.mp ra
        obtain ⟨vs, h1, r1⟩ := rs.ob _ _ _ hn hp
        exact op_rep pins s σ H x y v u Q I rx ry ⟨p, _, vs, ea, rb, h1, by omega, by omega, by rw [← r1.length, ← lineN_eq]; exact hz.1, fun p hp => q.new_lst rs (r1.rep _) hp⟩
      · cases hf
    · cases hf
  · cases hf
theorem o_sub : OpR X (binaryOp .Sub) (rO2 X.w X.K fa wSub) := by
  rintro pins s σ H x y v u Q I rx ry ⟨ι, S, a, b, c, S', rs, ra, rb, hf, q⟩
  unfold wSub at hf
  split at hf
  · cases hf
    rw [rv_int] at ra rb
    exact op_sub pins s σ H x y v u Q I rx ry ⟨_, _, ra, rb, q.here rs (rv_int.mpr rfl)⟩
  · cases hf
theorem o_mod : OpR X (binaryOp .Mod) (rO2 X.w X.K fa wMod) := by
  rintro pins s σ H x y v u Q I rx ry ⟨ι, S, a, b, c, S', rs, ra, rb, hf, q⟩
  unfold wMod at hf
  split at hf
  · split at hf
    · rename_i hz
      cases hf
      rw [rv_int] at ra rb
      exact op_mod pins s σ H x y v u Q I rx ry ⟨_, _, ra, rb, hz, q.here rs (rv_int.mpr rfl)⟩
    · cases hf
  · cases hf
theorem o_fdiv : OpR X (binaryOp .FloorDiv) (rO2 X.w X.K fa wFdiv) := by
  rintro pins s σ H x y v u Q I rx ry ⟨ι, S, a, b, c, S', rs, ra, rb, hf, q⟩
  unfold wFdiv at hf
  split at hf
  · split at hf
    · rename_i hz
      cases hf
      rw [rv_int] at ra rb
      have h2 := hz.2
      unfold bigN at h2
      exact op_fdivW pins s σ H x y v u Q I rx ry ⟨_, _, ra, rb, wide_div (b := 64) hz.1 (by omega) (by decide) (by decide), q.here rs (rv_int.mpr rfl)⟩
    · cases hf
  · cases hf
theorem o_pow : OpR X (binaryOp .Pow) (rO2 X.w X.K fa wPow) := by
  rintro pins s σ H x y v u Q I rx ry ⟨ι, S, a, b, c, S', rs, ra, rb, hf, q⟩
  unfold wPow at hf
  split at hf
  · split at hf
    · rename_i hz
      cases hf
      rw [rv_int] at ra rb
      exact op_pow pins s σ H x y v u Q I rx ry ⟨_, _, ra, rb, ⟨hz.1, by omega, by omega⟩, q.here rs (rv_int.mpr rfl)⟩
    · cases hf
  · cases hf

/-! ### comparisons of order -/
/-- a comparison's answer as a value -/
def bV (f : W → W → M Bool) (a b : W) : M W := do let c ← f a b; pure (.bl c)
theorem bvM {f : W → W → M Bool} {a b c : W} {S S' : Sto} (h : bV f a b S = some (c, S')) : ∃ k, f a b S = some (k, S') ∧ c = .bl k := by
  obtain ⟨k, S1, h1, h⟩ := bindM h
  obtain ⟨rfl, rfl⟩ := retM h
  exact ⟨k, h1, rfl⟩
theorem o_lt : OpR X (compareOp .Lt) (rO2 X.w X.K fa (bV wLt)) := by
  rintro pins s σ H x y v u Q I rx ry ⟨ι, S, a, b, c, S', rs, ra, rb, hf, q⟩
  obtain ⟨k, hg, rfl⟩ := bvM hf
  clear hf
  unfold wLt at hg
  split at hg
  · cases hg
    rw [rv_int] at ra rb
    exact op_lt pins s σ H x y v u Q I rx ry ⟨_, _, ra, rb, q.here rs (rv_bl.mpr rfl)⟩
  · cases hg
    rw [rv_str] at ra rb
    exact op_lt_str pins s σ H x y v u Q I rx ry ⟨_, _, ra.1, rb.1, q.here rs (rv_bl.mpr rfl)⟩
  · cases hg
theorem o_le : OpR X (compareOp .LtE) (rO2 X.w X.K fa (bV wLe)) := by
  rintro pins s σ H x y v u Q I rx ry ⟨ι, S, a, b, c, S', rs, ra, rb, hf, q⟩
  obtain ⟨k, hg, rfl⟩ := bvM hf
  clear hf
  unfold wLe at hg
  split at hg
  · cases hg
    rw [rv_int] at ra rb
    exact op_le pins s σ H x y v u Q I rx ry ⟨_, _, ra, rb, q.here rs (rv_bl.mpr rfl)⟩
  · cases hg
    rw [rv_str] at ra rb
    exact op_le_str pins s σ H x y v u Q I rx ry ⟨_, _, ra.1, rb.1, q.here rs (rv_bl.mpr rfl)⟩
  · cases hg
theorem o_gt : OpR X (compareOp .Gt) (rO2 X.w X.K fa (bV wGt)) := by
  rintro pins s σ H x y v u Q I rx ry ⟨ι, S, a, b, c, S', rs, ra, rb, hf, q⟩
  obtain ⟨k, hg, rfl⟩ := bvM hf
  clear hf
  unfold wGt at hg
  split at hg
  · cases hg
    rw [rv_int] at ra rb
    exact op_gt pins s σ H x y v u Q I rx ry ⟨_, _, ra, rb, q.here rs (rv_bl.mpr rfl)⟩
  · cases hg
theorem o_ge : OpR X (compareOp .GtE) (rO2 X.w X.K fa (bV wGe)) := by
  rintro pins s σ H x y v u Q I rx ry ⟨ι, S, a, b, c, S', rs, ra, rb, hf, q⟩
  obtain ⟨k, hg, rfl⟩ := bvM hf
  clear hf
  unfold wGe at hg
  split at hg
  · cases hg
    rw [rv_int] at ra rb
    exact op_ge pins s σ H x y v u Q I rx ry ⟨_, _, ra, rb, q.here rs (rv_bl.mpr rfl)⟩
  · cases hg

/-! ### data -/
mutual
theorem dpV {w : World} {K : PySem.W.Frag} {H : Hp} {ι : Pls} {g : Nat → Option W} (hg : ∀ r a' v n, g r = some a' → a'.flat n = true → RV w K fa H ι (.ref r) v → Dp K H v a'.py ∧ a'.py.canLay0 = true) :
    ∀ (a a' : W) (v : V) (n : Nat), a.mapR g = some a' → a'.flat n = true → RV w K fa H ι a v → Dp K H v a'.py ∧ a'.py.canLay0 = true
  | .non, a', v, n, e, hn, r => by simp only [W.mapR] at e; cases e; rw [rv_non] at r; subst r; simp only [W.py, PyData.canLay0]; exact ⟨.non, trivial⟩
  | .bl b, a', v, n, e, hn, r => by simp only [W.mapR] at e; cases e; rw [rv_bl] at r; subst r; simp only [W.py, PyData.canLay0]; exact ⟨.bl b, trivial⟩
  | .int i, a', v, n, e, hn, r => by simp only [W.mapR] at e; cases e; rw [rv_int] at r; subst r; simp only [W.py, PyData.canLay0]; exact ⟨.int i, trivial⟩
  | .str x, a', v, n, e, hn, r => by simp only [W.mapR] at e; cases e; rw [rv_str] at r; obtain ⟨rfl, h⟩ := r; simp only [W.py, PyData.canLay0]; exact ⟨.str x, litOk_str h⟩
  | .fn f, a', v, n, e, hn, r => by simp only [W.mapR] at e; cases e; cases n <;> simp only [W.flat, Bool.false_eq_true] at hn
  | .ref r, a', v, n, e, hn, rv => by simp only [W.mapR] at e; exact hg r a' v n e hn rv
  | .dct ks us, a', v, n, e, hn, r => by
    simp only [W.mapR] at e
    split at e
    · cases e; cases n <;> simp only [W.flat, Bool.false_eq_true] at hn
    · cases e
  | .tup ws, a', v, n, e, hn, r => by
    simp only [W.mapR] at e
    obtain ⟨ws', e1, rfl⟩ := Option.map_eq_some_iff.mp e
    obtain ⟨p, vs, rfl, t, r⟩ := rv_tup' r
    cases n with
    | zero => simp only [W.flat, Bool.false_eq_true] at hn
    | succ n =>
      simp only [W.flat] at hn
      obtain ⟨h1, h2⟩ := dpVs hg ws ws' vs n e1 hn r
      simp only [W.py, PyData.canLay0]
      exact ⟨.tup t h1, h2⟩
  | .lst ws, a', v, n, e, hn, r => by
    simp only [W.mapR] at e
    obtain ⟨ws', e1, rfl⟩ := Option.map_eq_some_iff.mp e
    obtain ⟨p, vs, rfl, t, r⟩ := listOf_rv' r
    cases n with
    | zero => simp only [W.flat, Bool.false_eq_true] at hn
    | succ n =>
      simp only [W.flat] at hn
      obtain ⟨h1, h2⟩ := dpVs hg ws ws' vs n e1 hn r
      simp only [W.py, PyData.canLay0]
      exact ⟨.lst t h1, h2⟩
theorem dpVs {w : World} {K : PySem.W.Frag} {H : Hp} {ι : Pls} {g : Nat → Option W} (hg : ∀ r a' v n, g r = some a' → a'.flat n = true → RV w K fa H ι (.ref r) v → Dp K H v a'.py ∧ a'.py.canLay0 = true) :
    ∀ (as as' : List W) (vs : List V) (n : Nat), mapRs g as = some as' → flats n as' = true → RVs w K fa H ι as vs → DpAll K H vs (pys as') ∧ PyData.canLayAll0 (pys as') = true
  | [], as', vs, n, e, hn, r => by simp only [mapRs] at e; cases e; rw [r.nil_inv]; simp only [pys, PyData.canLayAll0]; exact ⟨.nil, trivial⟩
  | a :: as, as', vs, n, e, hn, r => by
    simp only [mapRs] at e
    split at e
    · rename_i b bs e1 e2
      cases e
      obtain ⟨v, vs', rfl, r1, r2⟩ := r.cons_inv
      simp only [flats, Bool.and_eq_true] at hn
      obtain ⟨h1, h2⟩ := dpV hg a b v n e1 hn.1 r1
      obtain ⟨h3, h4⟩ := dpVs hg as bs vs' n e2 hn.2 r2
      simp only [pys, PyData.canLayAll0, h2, h4]
      exact ⟨.cons h1 h3, rfl⟩
    · cases e
end
mutual
theorem flat_depth : ∀ (a : W) (n : Nat), a.flat n = true → a.py.depth ≤ n
  | .non, n, h => by simp only [W.py, PyData.depth]; exact Nat.zero_le _
  | .bl _, n, h => by simp only [W.py, PyData.depth]; exact Nat.zero_le _
  | .int _, n, h => by simp only [W.py, PyData.depth]; exact Nat.zero_le _
  | .str _, n, h => by simp only [W.py, PyData.depth]; exact Nat.zero_le _
  | .dct _ _, n, h => by simp only [W.py, PyData.depth]; exact Nat.zero_le _
  | .ref _, n, h => by simp only [W.py, PyData.depth]; exact Nat.zero_le _
  | .fn _, n, h => by simp only [W.py, PyData.depth]; exact Nat.zero_le _
  | .tup ws, n, h => by
    cases n with
    | zero => simp only [W.flat, Bool.false_eq_true] at h
    | succ n =>
      simp only [W.flat] at h
      have := flats_depth ws n h
      simp only [W.py, PyData.depth]; omega
  | .lst ws, n, h => by
    cases n with
    | zero => simp only [W.flat, Bool.false_eq_true] at h
    | succ n =>
      simp only [W.flat] at h
      have := flats_depth ws n h
      simp only [W.py, PyData.depth]; omega
theorem flats_depth : ∀ (as : List W) (n : Nat), flats n as = true → PyData.depthAll (pys as) ≤ n
  | [], n, h => by simp only [pys, PyData.depthAll]; exact Nat.zero_le _
  | a :: as, n, h => by
    simp only [flats, Bool.and_eq_true] at h
    have h1 := flat_depth a n h.1
    have h2 := flats_depth as n h.2
    simp only [pys, PyData.depthAll]; omega
end
theorem dp_thaw {w : World} {K : PySem.W.Frag} {H : Hp} {ι : Pls} {S : Sto} (rs : RS w K fa H ι S) : ∀ (k r : Nat) (a' : W) (v : V) (n : Nat), thaw 0 S k r = some a' → a'.flat n = true → RV w K fa H ι (.ref r) v → Dp K H v a'.py ∧ a'.py.canLay0 = true
  | 0, r, a', v, n, e, hn, rv => by simp only [thaw, Nat.not_lt_zero, if_false] at e; cases e
  | k + 1, r, a', v, n, e, hn, rv => by
    simp only [thaw, Nat.not_lt_zero, if_false] at e
    obtain ⟨p, hp, rfl⟩ := rv_ref.mp rv
    split at e
    · rename_i ws hr
      obtain ⟨ws', e1, rfl⟩ := Option.map_eq_some_iff.mp e
      obtain ⟨vs, h1, h2⟩ := rs.ob _ _ _ hr hp
      cases n with
      | zero => simp only [W.flat, Bool.false_eq_true] at hn
      | succ n =>
        simp only [W.flat] at hn
        obtain ⟨h3, h4⟩ := dpVs (dp_thaw rs k) ws ws' vs n e1 hn h2
        simp only [W.py, PyData.canLay0]
        exact ⟨.lst (SqL.of h1) h3, h4⟩
    · split at e
      · cases e; cases n <;> simp only [W.flat, Bool.false_eq_true] at hn
      · cases e
    · cases e
/-- a value as data, over the heap -/
theorem data_rv {w : World} {K : PySem.W.Frag} {H : Hp} {ι : Pls} {S : Sto} {a a' : W} {v : V} (rs : RS w K fa H ι S) (h : asData S a = some a') (r : RV w K fa H ι a v) : Dp K H v a'.py ∧ SeqAt.shaped a'.py = true := by
  unfold asData at h
  split at h
  · rename_i b e
    split at h
    · rename_i hn
      cases h
      obtain ⟨h1, h2⟩ := dpV (dp_thaw rs 8) a _ v deep e hn r
      have h3 := flat_depth _ deep hn
      unfold deep at h3
      refine ⟨h1, ?_⟩
      unfold SeqAt.shaped
      rw [h2, decide_eq_true (by omega)]; rfl
    · cases h
  · cases h
theorem o_eq (hu : X.A.units + 64 < cLine) : OpR X (compareOp .Eq) (rO2 X.w X.K fa (bV wEq)) := by
  rintro pins s σ H x y v u Q I rx ry ⟨ι, S, a, b, c, S', rs, ra, rb, hf, q⟩
  obtain ⟨k, hg, rfl⟩ := bvM hf
  clear hf
  unfold wEq at hg
  split at hg
  · rename_i a' b' h1 h2
    cases hg
    obtain ⟨d1, s1⟩ := data_rv rs h1 ra
    obtain ⟨d2, s2⟩ := data_rv rs h2 rb
    exact op_eqD hu pins s σ H x y v u Q I rx ry ⟨_, _, d1, d2, s1, s2, q.here rs (rv_bl.mpr rfl)⟩
  · cases hg
theorem o_ne (hu : X.A.units + 64 < cLine) : OpR X (compareOp .NotEq) (rO2 X.w X.K fa (bV fun a b => do let c ← wEq a b; pure (!c))) := by
  rintro pins s σ H x y v u Q I rx ry ⟨ι, S, a, b, c, S', rs, ra, rb, hf, q⟩
  obtain ⟨k, hg0, rfl⟩ := bvM hf
  clear hf
  obtain ⟨k', S1, hg, h⟩ := bindM hg0
  clear hg0
  obtain ⟨rfl, rfl⟩ := retM h
  clear h
  unfold wEq at hg
  split at hg
  · rename_i a' b' h1 h2
    cases hg
    obtain ⟨d1, s1⟩ := data_rv rs h1 ra
    obtain ⟨d2, s2⟩ := data_rv rs h2 rb
    exact op_neD hu pins s σ H x y v u Q I rx ry ⟨_, _, d1, d2, s1, s2, q.here rs (rv_bl.mpr rfl)⟩
  · cases hg

/-! ### subscripts of lists, tuples, texts; slices -/
theorem ixOf_eq (n : Nat) (i : Int) : ixOf n i = ixN n i := rfl
theorem atOf_eq {α : Type} (xs : List α) (i : Int) : atOf xs i = atI xs i := by
  unfold atOf atI
  rw [ixOf_eq]
  cases ixN xs.length i <;> rfl
theorem rvs_at {w : World} {K : PySem.W.Frag} {H : Hp} {ι : Pls} {ws : List W} {vs : List V} {i : Int} {a : W} (r : RVs w K fa H ι ws vs) (h : atOf ws i = some a) : ∃ v, atI vs i = some v ∧ RV w K fa H ι a v := by
  rw [atOf_eq] at h
  unfold atI at h ⊢
  rw [r.length] at h
  cases e : ixN vs.length i with
  | none => rw [e] at h; cases h
  | some j => rw [e] at h; exact r.get h
theorem litOk_one {x : Str} {c : Nat} (h : litOk x = true) (m : c ∈ x.cps.toList) : litOk ⟨#[c]⟩ = true := by
  have h1 := litOk_str h
  unfold PyData.strOk at h1
  rw [Array.all_eq_true_iff_forall_mem] at h1
  unfold litOk
  rw [Bool.and_eq_true]
  refine ⟨?_, decide_eq_true (show 1 ≤ lineN by decide)⟩
  unfold PyData.strOk
  have := h1 c (by simpa using m)
  simpa using this
theorem atOf_mem {α : Type} {xs : List α} {i : Int} {a : α} (h : atOf xs i = some a) : a ∈ xs := by
  unfold atOf at h
  split at h
  · exact List.mem_of_getElem? h
  · cases h
end
end TS

set_option Elab.async false
set_option linter.all false
set_option maxRecDepth 100000
/-! A7: dicts. -/
namespace TS
open PySem L2 StX PyProof.Rows

/-! ### keys -/
mutual
theorem eqv_key : ∀ (a b : W) (n m : Nat), a.hk n = true → b.hk m = true → W.eqv a b = NestedKey.beq a.nkey b.nkey
  | .tup as, b, n, m, h1, h2 => by
    cases b with
    | tup bs =>
      cases n with
      | zero => simp only [W.hk, Bool.false_eq_true] at h1
      | succ n =>
        cases m with
        | zero => simp only [W.hk, Bool.false_eq_true] at h2
        | succ m =>
          simp only [W.hk] at h1 h2
          show PyData.eqv (W.py (.tup as)) (W.py (.tup bs)) = _
          simp only [W.py, PyData.eqv, W.nkey, NestedKey.beq]
          exact eqvs_key as bs n m h1 h2
    | _ => (first | (cases m <;> simp only [W.hk, Bool.false_eq_true] at h2) | skip); all_goals simp [W.eqv, W.py, PyData.eqv, W.nkey, NestedKey.beq]
  | .lst _, b, n, m, h1, h2 => by cases n <;> simp only [W.hk, Bool.false_eq_true] at h1
  | .dct _ _, b, n, m, h1, h2 => by cases n <;> simp only [W.hk, Bool.false_eq_true] at h1
  | .ref _, b, n, m, h1, h2 => by cases n <;> simp only [W.hk, Bool.false_eq_true] at h1
  | .fn _, b, n, m, h1, h2 => by cases n <;> simp only [W.hk, Bool.false_eq_true] at h1
  | .non, b, n, m, h1, h2 => by
    cases b <;> (first | (cases m <;> simp only [W.hk, Bool.false_eq_true] at h2; done) | simp [W.eqv, W.py, PyData.eqv, W.nkey, NestedKey.beq])
  | .bl x, b, n, m, h1, h2 => by
    cases b with
    | bl y => cases x <;> cases y <;> rfl
    | int j => show ((if x = true then 1 else 0) == j) = decide ((if x = true then (1 : Int) else 0) = j); cases x <;> rfl
    | non => rfl
    | str y => rfl
    | tup ws => rfl
    | lst ws => cases m <;> simp only [W.hk, Bool.false_eq_true] at h2
    | dct _ _ => cases m <;> simp only [W.hk, Bool.false_eq_true] at h2
    | ref _ => cases m <;> simp only [W.hk, Bool.false_eq_true] at h2
    | fn _ => cases m <;> simp only [W.hk, Bool.false_eq_true] at h2
  | .int i, b, n, m, h1, h2 => by
    cases b with
    | bl y => show (i == (if y = true then 1 else 0)) = decide (i = (if y = true then (1 : Int) else 0)); cases y <;> rfl
    | int j => rfl
    | non => rfl
    | str y => rfl
    | tup ws => rfl
    | lst ws => cases m <;> simp only [W.hk, Bool.false_eq_true] at h2
    | dct _ _ => cases m <;> simp only [W.hk, Bool.false_eq_true] at h2
    | ref _ => cases m <;> simp only [W.hk, Bool.false_eq_true] at h2
    | fn _ => cases m <;> simp only [W.hk, Bool.false_eq_true] at h2
  | .str x, b, n, m, h1, h2 => by
    cases b with
    | str y =>
      show (x == y) = decide (x = y)
      rw [Bool.eq_iff_iff]; simp
    | bl y => rfl
    | int j => rfl
    | non => rfl
    | tup ws => rfl
    | lst ws => cases m <;> simp only [W.hk, Bool.false_eq_true] at h2
    | dct _ _ => cases m <;> simp only [W.hk, Bool.false_eq_true] at h2
    | ref _ => cases m <;> simp only [W.hk, Bool.false_eq_true] at h2
    | fn _ => cases m <;> simp only [W.hk, Bool.false_eq_true] at h2
theorem eqvs_key : ∀ (as bs : List W) (n m : Nat), hks n as = true → hks m bs = true → PyData.eqvAll (pys as) (pys bs) = NestedKey.beqAll (nkeys as) (nkeys bs)
  | [], [], _, _, _, _ => rfl
  | [], b :: bs, _, _, _, _ => rfl
  | a :: as, [], _, _, _, _ => rfl
  | a :: as, b :: bs, n, m, h1, h2 => by
    simp only [hks, Bool.and_eq_true] at h1 h2
    simp only [pys, nkeys, PyData.eqvAll, NestedKey.beqAll]
    rw [← eqv_key a b n m h1.1 h2.1, ← eqvs_key as bs n m h1.2 h2.2]
    rfl
end
theorem leaf_hk {a : W} (h : a.leaf = true) : a.hk 8 = true := by cases a <;> first | rfl | cases h
theorem eqv_dec {a b : W} (h1 : a.hk 8 = true) (h2 : b.hk 8 = true) : W.eqv a b = decide (a.nkey = b.nkey) := by
  rw [eqv_key a b 8 8 h1 h2, NestedKey.decide_eq]
theorem keyFor_hk {ks : List W} {x : W} (h : keyFor ks x = true) : x.hk 8 = true ∧ ∀ k ∈ ks, k.hk 8 = true := by
  unfold keyFor at h
  rw [Bool.or_eq_true, Bool.and_eq_true, Bool.and_eq_true] at h
  rcases h with ⟨h1, h2⟩ | ⟨h1, h2⟩
  · exact ⟨leaf_hk h1, fun k hk => leaf_hk (List.all_eq_true.mp h2 k hk)⟩
  · unfold W.tkey at h1 h2
    rw [Bool.and_eq_true] at h1
    refine ⟨h1.2, fun k hk => ?_⟩
    have := List.all_eq_true.mp h2 k hk
    rw [Bool.and_eq_true] at this
    exact this.2

def W.leafOf : W → Leaf
  | .bl b => .num (if b = true then 1 else 0)
  | .int i => .num i
  | .str x => .text x
  | _ => .none
theorem leafOf_key {a : W} (h : a.leaf = true) : a.leafOf.key = a.nkey := by
  cases a <;> first | rfl | cases h

section
variable {w : World} {K : PySem.W.Frag} {fa : Nat → Option Addr} {H : Hp} {ι : Pls}
theorem leaf_is {a : W} {v : V} {u : Value} (h : a.leaf = true) (r : RV w K fa H ι a v) (rv : RelV v u) : Leaf.isOf a.leafOf u = true := by
  cases a with
  | non => rw [rv_non] at r; subst r; cases rv; rfl
  | bl b => rw [rv_bl] at r; subst r; cases rv; cases b <;> rfl
  | int i => rw [rv_int] at r; subst r; obtain ⟨t, rfl⟩ := rv; exact decide_eq_true rfl
  | str x => rw [rv_str] at r; obtain ⟨rfl, _⟩ := r; obtain ⟨t, rfl⟩ := rv; show (x == x) = true; simp
  | _ => cases h
end
section
variable {X : Cx} {fa : Nat → Option Addr} {pins : List (Addr × Obj)} {σ : L2.St} {H : Hp} {s : Shared} {ι : Pls}
mutual
theorem nest_is (I : Inv X pins σ H s) : ∀ (a : W) (n : Nat) (v : V) (u : Value), a.hk n = true → RV X.w X.K fa H ι a v → RelV v u → NestedIs s.heap a.nkey u ∧ a.nkey.depth ≤ n
  | .non, n, v, u, h, r, rv => by rw [rv_non] at r; subst r; cases rv; simp only [W.nkey, NestedKey.depth]; exact ⟨.none, Nat.zero_le _⟩
  | .bl b, n, v, u, h, r, rv => by rw [rv_bl] at r; subst r; cases rv; simp only [W.nkey, NestedKey.depth]; exact ⟨.bool rfl, Nat.zero_le _⟩
  | .int i, n, v, u, h, r, rv => by rw [rv_int] at r; subst r; obtain ⟨t, rfl⟩ := rv; simp only [W.nkey, NestedKey.depth]; exact ⟨.int _ _, Nat.zero_le _⟩
  | .str x, n, v, u, h, r, rv => by rw [rv_str] at r; obtain ⟨rfl, _⟩ := r; obtain ⟨t, rfl⟩ := rv; simp only [W.nkey, NestedKey.depth]; exact ⟨.text _ _, Nat.zero_le _⟩
  | .lst _, n, v, u, h, r, rv => by cases n <;> simp only [W.hk, Bool.false_eq_true] at h
  | .dct _ _, n, v, u, h, r, rv => by cases n <;> simp only [W.hk, Bool.false_eq_true] at h
  | .ref _, n, v, u, h, r, rv => by cases n <;> simp only [W.hk, Bool.false_eq_true] at h
  | .fn _, n, v, u, h, r, rv => by cases n <;> simp only [W.hk, Bool.false_eq_true] at h
  | .tup ws, n, v, u, h, r, rv => by
    cases n with
    | zero => simp only [W.hk, Bool.false_eq_true] at h
    | succ n =>
      simp only [W.hk] at h
      obtain ⟨a, vs, rfl, t, rs⟩ := rv_tup' r
      obtain rfl : u = Value.ref a := rv
      obtain ⟨its, rr, ⟨o, ho, hc, m, hd⟩, _⟩ := I.tuple t
      obtain ⟨h1, h2⟩ := nests_is I ws n vs its h rs rr
      simp only [W.nkey, NestedKey.depth]
      exact ⟨.tup ho hc hd (by simpa using h1), by omega⟩
theorem nests_is (I : Inv X pins σ H s) : ∀ (as : List W) (n : Nat) (vs : List V) (us : List Value), hks n as = true → RVs X.w X.K fa H ι as vs → Vals vs us → NestedAll s.heap (nkeys as) us ∧ NestedKey.depthAll (nkeys as) ≤ n
  | [], n, vs, us, h, r, rv => by
    rw [r.nil_inv] at rv; cases rv
    simp only [nkeys, NestedKey.depthAll]
    exact ⟨.nil, Nat.zero_le _⟩
  | a :: as, n, vs, us, h, r, rv => by
    obtain ⟨v, vs', rfl, r1, r2⟩ := r.cons_inv
    cases rv with
    | cons q1 q2 =>
      simp only [hks, Bool.and_eq_true] at h
      obtain ⟨h1, h2⟩ := nest_is I a n v _ h.1 r1 q1
      obtain ⟨h3, h4⟩ := nests_is I as n vs' _ h.2 r2 q2
      simp only [nkeys, NestedKey.depthAll]
      exact ⟨.cons h1 h3, by omega⟩
end

/-! ### a key as it is looked for -/
structure KA (P : Program) (w : World) (A : Around) (s : Shared) (d : Addr) (hash : Int) (key : Value) (ix : Option Nat) (c : Nat) : Prop where
  hash_ : ∀ (E : Value → Shared → Prop) (Q : Int → Shared → Prop), Q hash { s with toks := s.toks + c } → wpAny (model P w) A (pyHash key) Q E s
  find : ∀ (E : Value → Shared → Prop) (Q : Option Nat → Shared → Prop), Q ix { s with toks := s.toks + c } → wpAny (model P w) A (dictFind d key hash) Q E { s with toks := s.toks + c }
theorem ents_len {w : World} {ks : List W} {kvs uvs : List V} {es : List DictEntry} (h : Ents w ks kvs uvs es) : ks.length = es.length ∧ kvs.length = es.length ∧ uvs.length = es.length := by
  induction h with
  | nil => exact ⟨rfl, rfl, rfl⟩
  | cons _ _ _ _ ih => simp [ih.1, ih.2.1, ih.2.2]
theorem ents_get {w : World} : ∀ {ks : List W} {kvs uvs : List V} {es : List DictEntry}, Ents w ks kvs uvs es → ∀ {i : Nat} {e : DictEntry}, es[i]? = some e → ∃ k kv uv, ks[i]? = some k ∧ kvs[i]? = some kv ∧ uvs[i]? = some uv ∧ e.hash = k.nkey.hash w ∧ RelV kv e.key ∧ RelV uv e.val
  | _, _, _, _, .nil, _, _, h => by simp at h
  | _, _, _, _, .cons a b c t, 0, e, h => by simp at h; subst h; exact ⟨_, _, _, rfl, rfl, rfl, a, b, c⟩
  | _, _, _, _, .cons a b c t, i + 1, e, h => by
    obtain ⟨k, kv, uv, h1, h2, h3, r⟩ := ents_get t (i := i) (by simpa using h)
    exact ⟨k, kv, uv, by simpa using h1, by simpa using h2, by simpa using h3, r⟩
theorem findIdx_map {α β : Type} (p : α → Bool) (q : β → Bool) : ∀ (xs : List α) (ys : List β), xs.length = ys.length → (∀ (i : Nat) (x : α) (y : β), xs[i]? = some x → ys[i]? = some y → p x = q y) → xs.findIdx? p = ys.findIdx? q
  | [], [], _, _ => rfl
  | [], _ :: _, h, _ => by simp at h
  | _ :: _, [], h, _ => by simp at h
  | x :: xs, y :: ys, h, e => by
    rw [List.findIdx?_cons, List.findIdx?_cons, e 0 x y rfl rfl, findIdx_map p q xs ys (by simpa using h) fun i a b h1 h2 => e (i + 1) a b (by simpa using h1) (by simpa using h2)]
theorem ents_nested (I : Inv X pins σ H s) : ∀ {ks us : List W} {kvs uvs : List V} {es : List DictEntry}, Ents X.w ks kvs uvs es → RVs X.w X.K fa H ι ks kvs → ks.all W.tkey = true →
    ∃ xs : List (NestedKey × Addr × Value), es = xs.map (entryOfKey (nestedKind X.prog X.w)) ∧ xs.map (·.1) = ks.map W.nkey ∧ ∀ x ∈ xs, (nestedKind X.prog X.w).is s.heap x.1 x.2.1
  | _, _, _, _, _, .nil, _, _ => ⟨[], rfl, rfl, fun _ h => nomatch h⟩
  | _, us, _, _, _, .cons (k := k) (ks := ks) (e := e) a b c t, r, h => by
    obtain ⟨v, vs', e1, r1, r2⟩ := r.cons_inv
    cases e1
    rw [List.all_cons, Bool.and_eq_true] at h
    obtain ⟨xs, e2, e3, e4⟩ := ents_nested I (us := us) t r2 h.2
    have h1 := h.1
    unfold W.tkey at h1
    rw [Bool.and_eq_true] at h1
    obtain ⟨n1, n2⟩ := nest_is I k 8 _ e.key h1.2 r1 b
    cases k with
    | tup ws =>
      obtain ⟨p, vs, rfl, _⟩ := rv_tup' r1
      have ek : e.key = Value.ref p := b
      refine ⟨((W.tup ws).nkey, p, e.val) :: xs, ?_, by rw [List.map_cons, List.map_cons, e3], fun x hx => ?_⟩
      · rw [List.map_cons, ← e2]
        obtain ⟨eh, ekey, ev⟩ := e
        show (⟨eh, ekey, ev⟩ : DictEntry) :: _ = ⟨_, Value.ref p, ev⟩ :: _
        have a : eh = NestedKey.hash X.w (W.tup ws).nkey := a
        have ek : ekey = Value.ref p := ek
        rw [a, ek]; rfl
      · rcases List.mem_cons.mp hx with rfl | hx
        · rw [ek] at n1; exact ⟨n1, n2⟩
        · exact e4 x hx
    | _ => cases h1.1
/-- the dict at d, the key asked -/
theorem key_at {A : Around} {d : Addr} {o : Obj} {ep : Nat} {ks us : List W} {kvs uvs : List V} {es : List DictEntry} {k : W} {v : V} {u : Value} (hA : A.units + 8 < cLine) (I : Inv X pins σ H s) (ho : s.heap.get? d = some o) (hd : o.data = .dict es.toArray ep)
    (en : Ents X.w ks kvs uvs es) (nd : (ks.map W.nkey).Nodup) (rks : RVs X.w X.K fa H ι ks kvs) (hk : keyFor ks k = true) (r : RV X.w X.K fa H ι k v) (rv : RelV v u) : ∃ c, KA X.prog X.w A s d (k.nkey.hash X.w) u (kIdx ks k) c := by
  obtain ⟨hk1, hk2⟩ := keyFor_hk hk
  unfold keyFor at hk
  rw [Bool.or_eq_true, Bool.and_eq_true, Bool.and_eq_true] at hk
  rcases hk with ⟨h1, h2⟩ | ⟨h1, h2⟩
  · -- keys carried by value
    have hu := leaf_is h1 r rv
    have hh : (leafKind X.prog X.w).hash k.leafOf = k.nkey.hash X.w := by show k.leafOf.key.hash X.w = _; rw [leafOf_key h1]
    refine ⟨1, fun E Q q => ?_, fun E Q q => ?_⟩
    · exact (leafKind X.prog X.w).pyHash (k := k.leafOf) hu (by rw [hh]; exact q)
    · rw [← hh]
      refine wpAny_dictFind_of (knd := leafKind X.prog X.w) (k := k.leafOf) hu ho hd (fun e he => ?_) ?_
      · obtain ⟨i, hi⟩ := List.mem_iff_getElem?.mp (show e ∈ es by simpa using he)
        obtain ⟨k', kv, uv, e1, e2, e3, e4, e5, e6⟩ := ents_get en hi
        have hl : k'.leaf = true := List.all_eq_true.mp h2 k' (List.mem_of_getElem? e1)
        obtain ⟨v', e7, r7⟩ := rks.get e1
        rw [e2] at e7; cases e7
        refine ⟨k'.leafOf, leaf_is hl r7 e5, ?_⟩
        show e.hash = k'.leafOf.key.hash X.w
        rw [leafOf_key hl]; exact e4
      · have e : (es.toArray.findIdx? fun e => (leafKind X.prog X.w).is k.leafOf e.key) = kIdx ks k := by
          rw [List.findIdx?_toArray]
          unfold kIdx
          refine (findIdx_map _ _ _ _ (ents_len en).1 fun i x y g1 g2 => ?_).symm
          obtain ⟨k', kv, uv, e1, e2, e3, e4, e5, e6⟩ := ents_get en g2
          rw [g1] at e1; cases e1
          have hl : x.leaf = true := List.all_eq_true.mp h2 x (List.mem_of_getElem? g1)
          obtain ⟨v', e7, r7⟩ := rks.get g1
          rw [e2] at e7; cases e7
          rw [KeyKind.is_eq_decide (knd := leafKind X.prog X.w) (k := x.leafOf) (leaf_is hl r7 e5), eqv_dec (leaf_hk hl) (leaf_hk h1)]
          have key_inj : x.nkey = k.nkey ↔ k.leafOf = x.leafOf := by
            rw [← leafOf_key hl, ← leafOf_key h1]
            exact ⟨fun z => (Leaf.key_inj z).symm, fun z => by rw [z]⟩
          exact decide_eq_decide.mpr key_inj
        rw [e]; exact q
  · -- keys that are tuples
    obtain ⟨xs, e1, e2, e3⟩ := ents_nested I (us := us) en rks h2
    cases k with
    | tup ws =>
      obtain ⟨p, vs, rfl, _⟩ := rv_tup' r
      obtain rfl : u = Value.ref p := rv
      have hp : (nestedKind X.prog X.w).is s.heap (W.tup ws).nkey p := nest_is I _ 8 _ _ hk1 r rfl
      have nd' : (xs.map (·.1)).Nodup := by rw [e2]; exact nd
      have hix : ∀ j, kIdx ks (.tup ws) = some j ↔ ∃ q, xs[j]? = some ((W.tup ws).nkey, q) := by
        intro j
        have hks : ∀ i k', ks[i]? = some k' → W.eqv k' (.tup ws) = decide (k'.nkey = (W.tup ws).nkey) := fun i k' g => eqv_dec (hk2 k' (List.mem_of_getElem? g)) hk1
        have e4 : kIdx ks (.tup ws) = xs.findIdx? fun x => decide (x.1 = (W.tup ws).nkey) := by
          refine findIdx_map _ _ _ _ (by have := congrArg List.length e2; simpa using this.symm) fun i k' x g1 g2 => ?_
          rw [hks i k' g1]
          have : (xs.map (·.1))[i]? = (ks.map W.nkey)[i]? := by rw [e2]
          rw [List.getElem?_map, List.getElem?_map, g1, g2] at this
          have z : x.1 = k'.nkey := by simpa using this
          rw [z]
        rw [e4, List.findIdx?_eq_some_iff_getElem]
        constructor
        · rintro ⟨hj, h1, _⟩
          refine ⟨xs[j].2, ?_⟩
          rw [List.getElem?_eq_getElem hj]
          have := of_decide_eq_true h1
          rw [← this]
        · rintro ⟨q, hq⟩
          obtain ⟨hj, e5⟩ := List.getElem?_eq_some_iff.mp hq
          refine ⟨hj, by rw [e5]; exact decide_eq_true rfl, fun i hi => ?_⟩
          intro z
          have z := of_decide_eq_true z
          have h6 : (xs.map (·.1))[i]'(by simp; omega) = (xs.map (·.1))[j]'(by simpa using hj) := by
            rw [List.getElem_map, List.getElem_map, z, e5]
          have := (List.getElem_inj nd').mp h6
          omega
      refine ⟨(nestedKind X.prog X.w).draws (W.tup ws).nkey, fun E Q q => ?_, fun E Q q => ?_⟩
      · exact (nestedKind X.prog X.w).pyHash hA hp q
      · show wpAny (model X.prog X.w) A (dictFind d (.ref p) ((nestedKind X.prog X.w).hash (W.tup ws).nkey)) Q E _
        generalize hs' : ({ s with toks := s.toks + (nestedKind X.prog X.w).draws (W.tup ws).nkey } : Shared) = s' at q ⊢
        have hh : s'.heap = s.heap := by rw [← hs']
        refine wpAny_dictFind_heap (knd := nestedKind X.prog X.w) (s := s') (o := o) (es := es.toArray) (ep := ep) (xs := xs) hA (by rw [hh]; exact hp) (by rw [hh]; exact ho) hd e1 (by rw [hh]; exact e3) nd' (fun hn => ?_) fun j q' hj => ?_
        · have : kIdx ks (.tup ws) = none := by
            cases z : kIdx ks (.tup ws) with
            | none => rfl
            | some j => obtain ⟨q', hq⟩ := (hix j).mp z; exact absurd hq (hn j q')
          rw [← this]; exact q
        · rw [← (hix j).mpr ⟨q', hj⟩]; exact q
    | _ => cases h1

/-! ### the dict's operations -/
theorem dob_at {a : Addr} {es : List DictEntry} {ep : Nat} (I : Inv X pins σ H s) (h : H a = some (dOb a es ep)) : (a == sysModules) = false ∧ es.length ≤ sizeLine ∧ ∃ o, s.heap.get? a = some o ∧ o.ExactDict ∧ o.data = .dict es.toArray ep := (I.hok a _ h).1
theorem dob_ok {P : Program} {w : World} {H' : Hp} {h' : Heap} {a : Addr} {es : List DictEntry} (h1 : (a == sysModules) = false) (h2 : es.length ≤ sizeLine) {o : Obj} {ep : Nat} (h3 : h'.get? a = some o) (h4 : o.ExactDict) (h5 : o.data = .dict es.toArray ep) : ObjOk P w H' h' a (dOb a es ep) :=
  ⟨⟨h1, h2, o, h3, h4, h5⟩, ⟨o, h3⟩, fun g1 g2 ⟨x1, x2, o', x3, x4, x5⟩ k => ⟨x1, x2, o', k _ x3, x4, x5⟩⟩
theorem dictOf_rv {S : Sto} {a : W} {ks us : List W} {v : V} (rs : RS X.w X.K fa H ι S) (h : dictOf S a = some (ks, us)) (r : RV X.w X.K fa H ι a v) :
    ∃ p es ep kvs uvs, v = .ref p ∧ H p = some (dOb p es ep) ∧ Ents X.w ks kvs uvs es ∧ (ks.map W.nkey).Nodup ∧ RVs X.w X.K fa H ι ks kvs ∧ RVs X.w X.K fa H ι us uvs := by
  cases a with
  | dct ks' us' =>
    cases h
    simp only [RV] at r
    obtain ⟨p, es, ep, kvs, uvs, e, h1, _, h2, h3, h4, h5⟩ := r
    exact ⟨p, es, ep, kvs, uvs, e, h1, h2, h3, h4, h5⟩
  | ref n =>
    obtain ⟨p, hp, e⟩ := rv_ref.mp r
    have h : (match S[n]? with | some (Ob.dct ks us) => some (ks, us) | _ => none) = some (ks, us) := h
    split at h
    · rename_i ks' us' hn
      cases h
      obtain ⟨es, ep, kvs, uvs, h1, h2, h3, h4, h5⟩ := rs.ob n _ p hn hp
      exact ⟨p, es, ep, kvs, uvs, e, h1, h2, h3, h4, h5⟩
    · cases h
  | _ => cases h
variable {A : Around} {E : Value → Shared → Prop} {d : Addr} {o : Obj} {ep c : Nat} {es : List DictEntry} {hash : Int} {key : Value} {ix : Option Nat}
/-- what is found at a place -/
def valAt (es : List DictEntry) : Option Nat → Option Value
  | some i => es[i]?.map (·.val)
  | none => none
theorem d_get {Q : Option Value → Shared → Prop} (ka : KA X.prog X.w A s d hash key ix c) (ho : s.heap.get? d = some o) (hd : o.data = .dict es.toArray ep) (h : Q (valAt es ix) { s with toks := s.toks + c }) : wpAny (model X.prog X.w) A (dictGet d key) Q E s := by
  unfold dictGet
  (try with_reducible refine wpAny_holding ?_)
  refine wpAny_bind (ka.hash_ _ _ (wpAny_bind (ka.find _ _ ?_)))
  cases ix with
  | none => exact wpAny_pure h
  | some i =>
    refine wpAny_bind (wpAny_dictEntries (s := { s with toks := s.toks + c }) ho hd (wpAny_pure ?_))
    have e : (es.toArray[i]?.map fun x => x.val) = valAt es (some i) := by simp [valAt]
    rw [e]; exact h
theorem d_isDict (ho : s.heap.get? d = some o) (hc : o.ExactDict) : s.TypeIs (.ref d) "dict" := ⟨o, ho, hc.1⟩
theorem d_cont {Q : Bool → Shared → Prop} (ka : KA X.prog X.w A.in1 s d hash key ix c) (hs : (d == sysModules) = false) (ho : s.heap.get? d = some o) (hc : o.ExactDict) (hd : o.data = .dict es.toArray ep)
    (h : Q (valAt es ix).isSome { s with toks := s.toks + c }) : wpAny (model X.prog X.w) A (contains (.ref d) key) Q E s := by
  have ty := d_isDict ho hc
  refine wpAny_contains_slot ty PySem.F.slot_dict_contains ?_
  refine wpAny_call_entry PySem.F.slot_dict_contains ty PySem.F.entry_dict_contains ?_ (PySem.F.args_dict_contains_2 _ _)
  show wpAny _ _ (dictGet d key >>= _) _ _ s
  refine wpAny_bind (d_get ka ho hd ?_)
  cases e : valAt es ix with
  | some v =>
    rw [e] at h
    show wpAny _ _ (ret (.bool true)) _ _ _
    exact wpAny_pure ⟨_, rfl, wpAny_truthy_bool h⟩
  | none =>
    rw [e] at h
    show wpAny _ _ (Builtin.Dict.pendingKey? d key >>= _) _ _ _
    exact wpAny_bind (wpAny_pendingKey_other hs (wpAny_pure ⟨_, rfl, wpAny_truthy_bool h⟩))
theorem d_item {v : Value} {Q : Value → Shared → Prop} (ka : KA X.prog X.w A.in1 s d hash key ix c) (ho : s.heap.get? d = some o) (hc : o.ExactDict) (hd : o.data = .dict es.toArray ep) (hv : valAt es ix = some v)
    (h : Q v { s with toks := s.toks + c }) : wpAny (model X.prog X.w) A (getItem (.ref d) key) Q E s := by
  have ty := d_isDict ho hc
  unfold getItem
  (try with_reducible refine wpAny_holding ?_)
  refine wpAny_bind (wpAny_sequenceKey ty (by decide) ?_)
  refine wpAny_bind (wpAny_callSpecial?_slot (name := Str.ofString "__getitem__") ty PySem.slot_dict_getitem (wpAny_call_entry PySem.slot_dict_getitem ty PySem.entry_dict_getitem ?_ (PySem.args_dict_getitem _ _)))
  show wpAny _ _ (dictGet d key >>= _) _ _ s
  refine wpAny_bind (d_get ka ho hd ?_)
  rw [hv]
  exact wpAny_pure ⟨v, rfl, wpAny_pure h⟩
/-- the keys' count behind d[k] = v -/
def putN (ep : Nat) (ix : Option Nat) : Nat := match ix with
  | some _ => ep
  | none => ep + 1
/-- the entries behind d[k] = v -/
def putE (es : List DictEntry) (ix : Option Nat) (hash : Int) (key v : Value) : List DictEntry := match ix with
  | some i => es.modify i fun e => { e with val := v }
  | none => es ++ [⟨hash, key, v⟩]
theorem d_set {v : Value} {Q : Unit → Shared → Prop} (ka : KA X.prog X.w A s d hash key ix c) (ho : s.heap.get? d = some o) (hc : o.ExactDict) (hd : o.data = .dict es.toArray ep) (hz : es.length ≤ sizeLine)
    (h : ∀ h' o', h'.get? d = some o' → o'.ExactDict → o'.data = .dict (putE es ix hash key v).toArray (putN ep ix) → Heap.SameBut d s.heap h' → Q () { s with heap := h', toks := s.toks + c }) : wpAny (model X.prog X.w) A (dictSet d key v) Q E s := by
  unfold dictSet
  (try with_reducible refine wpAny_holding ?_)
  refine wpAny_bind (ka.hash_ _ _ ?_)
  unfold dictSetHashed
  (try with_reducible refine wpAny_holding ?_)
  refine wpAny_bind (ka.find _ _ ?_)
  cases ix with
  | some i =>
    refine wpAny_bind (wpAny_rule (wpAny_bind (wpAny_updateDict (s := { s with toks := s.toks + c }) ho hd (wpAny_point (h _ _ (Heap.get?_update_self _ ho (Obj.isFreed_of_dict (Obj.data_mapDict hd _))) (hc.mapDict _) ?_ (Heap.SameBut.update ..))))))
    rw [Obj.data_mapDict hd]
    have e : es.toArray.modify i (fun e => { e with val := v }) = (putE es (some i) hash key v).toArray := by
      show _ = (es.modify i _).toArray
      rw [List.modify_toArray]
    rw [e]; rfl
  | none =>
    refine wpAny_bind (wpAny_rule (wpAny_updateDictKeys (hz := by simpa using hz) (s := { s with toks := s.toks + c }) ho hd (h _ _ (Heap.get?_update_self _ ho (Obj.isFreed_of_dict (Obj.data_mapDictKeys hd _))) (hc.mapDictKeys _) ?_ (Heap.SameBut.update ..))))
    rw [Obj.data_mapDictKeys hd]
    have e : es.toArray.push ⟨hash, key, v⟩ = (putE es none hash key v).toArray := by
      show _ = (es ++ [_]).toArray
      simp
    rw [e]; rfl
theorem d_setItem {v : Value} {Q : Unit → Shared → Prop} (ka : KA X.prog X.w A.in1 s d hash key ix c) (ho : s.heap.get? d = some o) (hc : o.ExactDict) (hd : o.data = .dict es.toArray ep) (hz : es.length ≤ sizeLine)
    (h : ∀ h' o', h'.get? d = some o' → o'.ExactDict → o'.data = .dict (putE es ix hash key v).toArray (putN ep ix) → Heap.SameBut d s.heap h' → Q () { s with heap := h', toks := s.toks + c }) : wpAny (model X.prog X.w) A (setItem (.ref d) key v) Q E s := by
  have ty := d_isDict ho hc
  unfold setItem
  (try with_reducible refine wpAny_holding ?_)
  refine wpAny_bind (wpAny_sequenceKey ty (by decide) ?_)
  refine wpAny_bind (wpAny_callSpecial?_slot (name := Str.ofString "__setitem__") ty PySem.slot_dict_setitem (wpAny_call_entry PySem.slot_dict_setitem ty PySem.entry_dict_setitem ?_ (PySem.args_dict_setitem _ _ _)))
  show wpAny _ _ (Builtin.Dict.notOrdered "__setitem__" ⟨[.ref d, key, v], []⟩ >>= _) _ _ s
  refine wpAny_bind (wpAny_notOrdered_dict ty ?_)
  show wpAny _ _ (dictSet d key v >>= _) _ _ s
  exact wpAny_bind (d_set ka ho hc hd hz fun h' o' x1 x2 x3 x4 => wpAny_pure ⟨.none, rfl, wpAny_pure (h h' o' x1 x2 x3 x4)⟩)
end
end TS

set_option Elab.async false
set_option linter.all false
set_option maxRecDepth 100000
/-! A8: in, subscripts, slices, stores at places. -/
namespace TS
open PySem L2 StX PyProof.Rows

section
variable {X : Cx} {fa : Nat → Option Addr}
theorem valAt_get {w : World} {ks us : List W} {kvs uvs : List V} {es : List DictEntry} {K : PySem.W.Frag} {H : Hp} {ι : Pls} {k : W} (en : Ents w ks kvs uvs es) (ru : RVs w K fa H ι us uvs) :
    (valAt es (kIdx ks k)).isSome = dHas ks k ∧ (∀ u, dAt ks us k = some u → ∃ v uv, valAt es (kIdx ks k) = some v ∧ RelV uv v ∧ RV w K fa H ι u uv) ∧ (dAt ks us k = none → valAt es (kIdx ks k) = none) := by
  obtain ⟨l1, l2, l3⟩ := ents_len en
  have l4 := ru.length
  unfold dHas dAt
  cases e : kIdx ks k with
  | none => exact ⟨rfl, ⟨fun u h => (nomatch h), fun _ => rfl⟩⟩
  | some i =>
    have hi : i < es.length := by
      unfold kIdx at e
      have := (List.findIdx?_eq_some_iff_getElem.mp e).1
      omega
    obtain ⟨k', kv, uv, e1, e2, e3, e4, e5, e6⟩ := ents_get en (List.getElem?_eq_getElem hi)
    have hv : valAt es (some i) = some es[i].val := by simp [valAt, hi]
    have hu : i < us.length := by omega
    refine ⟨by rw [hv]; rfl, fun u h => ?_, fun h => ?_⟩
    · obtain ⟨uv', e7, r7⟩ := ru.get h
      rw [e3] at e7; cases e7
      exact ⟨_, uv, hv, e6, r7⟩
    · simp [List.getElem?_eq_getElem hu] at h
theorem data_in {w : World} {K : PySem.W.Frag} {a : W} : ∀ ws : List W, ((pys ws).any fun z => PyData.eqv z a.py) = anyEqv a ws
  | [] => rfl
  | b :: bs => by simp only [pys, List.any_cons, anyEqv]; rw [data_in (w := w) (K := K) bs]; rfl
/-- x in s, x not in s: with what the answer does -/
theorem in_ok (hu : X.A.units + 65 < cLine) {pins : List (Addr × Obj)} {s : Shared} {σ : L2.St} {H : Hp} {x y : V} {v u : Value} {Q : VK} {ι : Pls} {S S' : Sto} {a b : W} {k : Bool} (I : Inv X pins σ H s) (rx : RelV x v) (ry : RelV y u)
    (rs : RS X.w X.K fa H ι S) (ra : RV X.w X.K fa H ι a x) (rb : RV X.w X.K fa H ι b y) (hg : wIn a b S = some (k, S')) : S' = S ∧
    ((Q (.bl k) H → wpAny (model X.prog X.w) X.A (compareOp .In v u) (EP X pins σ Q) X.xe s) ∧ (Q (.bl (!k)) H → wpAny (model X.prog X.w) X.A (compareOp .NotIn v u) (EP X pins σ Q) X.xe s)) := by
  unfold wIn at hg
  split at hg
  · cases hg
    rw [rv_str] at ra rb
    exact ⟨rfl, fun q => op_in_str pins s σ H x y v u Q I rx ry ⟨_, _, ra.1, rb.1, q⟩, fun q => op_notin_str pins s σ H x y v u Q I rx ry ⟨_, _, ra.1, rb.1, q⟩⟩
  · split at hg
    · rename_i ks us hd
      split at hg
      · rename_i hk
        cases hg
        obtain ⟨p, es, ep, kvs, uvs, rfl, hp, en, nd, r1, r2⟩ := dictOf_rv rs hd rb
        obtain ⟨g1, g2, o, ho, hc, hdata⟩ := dob_at I hp
        obtain rfl : u = Value.ref p := ry
        obtain ⟨c, ka⟩ := key_at (A := X.A.in1) (us := us) (by show X.A.units + 1 + 8 < cLine; omega) I ho hdata en nd r1 hk ra rx
        have hh := (valAt_get (k := a) en r2).1
        refine ⟨rfl, fun q => ?_, fun q => ?_⟩
        · show wpAny _ _ (contains (.ref p) v >>= fun r => pure (Value.bool r)) _ _ _
          refine wpAny_bind (d_cont ka g1 ho hc hdata (wpAny_pure ?_))
          rw [hh]
          exact ⟨.bl _, H, I.tok _, rfl, q⟩
        · show wpAny _ _ (contains (.ref p) v >>= fun r => pure (Value.bool (!r))) _ _ _
          refine wpAny_bind (d_cont ka g1 ho hc hdata (wpAny_pure ?_))
          rw [hh]
          exact ⟨.bl _, H, I.tok _, rfl, q⟩
      · cases hg
    · split at hg
      · rename_i h1 h2
        cases hg
        obtain ⟨d1, s1⟩ := data_rv rs h1 ra
        obtain ⟨d2, s2⟩ := data_rv rs h2 rb
        refine ⟨rfl, fun q => op_inD hu pins s σ H x y v u Q I rx ry ⟨_, _, d1, by simpa only [W.py] using d2, s1, by simpa only [W.py] using s2, ?_⟩, fun q => op_notInD hu pins s σ H x y v u Q I rx ry ⟨_, _, d1, by simpa only [W.py] using d2, s1, by simpa only [W.py] using s2, ?_⟩⟩ <;> (rw [data_in (w := X.w) (K := X.K)]; exact q)
      · rename_i h1 h2
        cases hg
        obtain ⟨d1, s1⟩ := data_rv rs h1 ra
        obtain ⟨d2, s2⟩ := data_rv rs h2 rb
        simp only [W.py] at d2 s2
        obtain ⟨as, r1⟩ := Dp.reads I _ x v d1 rx
        obtain ⟨bs, r2⟩ := Dp.reads I _ y u d2 ry
        have l2 : PyData.canLayAll0 _ = true := SeqAt.canLay_of_shaped s2
        refine ⟨rfl, fun q => SeqAt.in_tuple_reads r2 r1 l2 (SeqAt.canLay_of_shaped s1) (room_in_shaped s1 hu) ⟨.bl _, H, I, rfl, ?_⟩, fun q => SeqAt.notIn_tuple_reads r2 r1 l2 (SeqAt.canLay_of_shaped s1) (room_in_shaped s1 hu) ⟨.bl _, H, I, rfl, ?_⟩⟩ <;> (rw [data_in (w := X.w) (K := X.K)]; exact q)
      · cases hg
theorem o_in (hu : X.A.units + 65 < cLine) : OpR X (compareOp .In) (rO2 X.w X.K fa (bV wIn)) := by
  rintro pins s σ H x y v u Q I rx ry ⟨ι, S, a, b, c, S', rs, ra, rb, hf, q⟩
  obtain ⟨k, hg, rfl⟩ := bvM hf
  clear hf
  obtain ⟨rfl, h1, _⟩ := in_ok (Q := Q) hu I rx ry rs ra rb hg
  exact h1 (q.here rs (rv_bl.mpr rfl))
theorem o_ni (hu : X.A.units + 65 < cLine) : OpR X (compareOp .NotIn) (rO2 X.w X.K fa (bV fun a b => do let c ← wIn a b; pure (!c))) := by
  rintro pins s σ H x y v u Q I rx ry ⟨ι, S, a, b, c, S', rs, ra, rb, hf, q⟩
  obtain ⟨k, hg0, rfl⟩ := bvM hf
  clear hf
  obtain ⟨k', S1, hg, h⟩ := bindM hg0
  clear hg0
  obtain ⟨rfl, rfl⟩ := retM h
  clear h
  obtain ⟨rfl, _, h2⟩ := in_ok (Q := Q) hu I rx ry rs ra rb hg
  exact h2 (q.here rs (rv_bl.mpr rfl))

theorem tail_dict {value slice : Expr} {v u : Value} {E : Value → Shared → Prop} {Q : Value → Shared → Prop} {s : Shared} (ht : s.TypeIs v "dict") (h : wpAny (model X.prog X.w) X.A (getItem v u) Q E s) (hs : subscripted slice false v u = operate [v, u] (getItem v u)) :
    wpAny (model X.prog X.w) X.A (subscriptTail value slice v u) Q E s := tail_any ht slot_dict_getitem.lookup h hs
/-- a subscript -/
theorem i_ix (hu : X.A.units + 65 < cLine) : IxR X (rO2 X.w X.K fa wIx) := by
  rintro value slice pins s σ H x y v u Q I rx ry ⟨ι, S, a, b, c, S', rs, ra, rb, hg, q⟩ hs
  unfold wIx at hg
  split at hg
  · split at hg
    · rename_i e
      cases hg
      rw [rv_str] at ra
      rw [rv_int] at rb
      refine ix_str value slice pins s σ H x y v u Q I rx ry ⟨_, _, _, ra.1, rb, litOk_len ra.2, by rw [← atOf_eq]; exact e, q.here rs (rv_str.mpr ⟨rfl, litOk_one ra.2 (atOf_mem e)⟩)⟩ hs
    · cases hg
  · split at hg
    · rename_i ks us hd
      split at hg
      · rename_i hk
        split at hg
        · rename_i w hw
          cases hg
          obtain ⟨p, es, ep, kvs, uvs, rfl, hp, en, nd, r1, r2⟩ := dictOf_rv rs hd ra
          obtain ⟨g1, g2, o, ho, hc, hdata⟩ := dob_at I hp
          obtain rfl : v = Value.ref p := rx
          obtain ⟨cc, ka⟩ := key_at (A := X.A.in1) (us := us) (by show X.A.units + 1 + 8 < cLine; omega) I ho hdata en nd r1 hk rb ry
          obtain ⟨v1, uv, e1, e2, e3⟩ := (valAt_get (k := b) en r2).2.1 _ hw
          exact tail_dict (d_isDict ho hc) (d_item ka ho hc hdata e1 ⟨uv, H, I.tok _, e2, q.here rs e3⟩) hs
        · cases hg
      · cases hg
    · split at hg
      · rename_i xs hx _
        split at hg
        · rename_i w hw
          cases hg
          rw [rv_int] at rb
          obtain ⟨p, vs, e, hq, r⟩ := seqOf_rv rs hx ra
          obtain ⟨v1, e1, r1⟩ := rvs_at r hw
          rcases hq with hq | hq
          · exact ix_tup value slice pins s σ H x y v u Q I rx ry ⟨p, vs, _, v1, e, rb, hq, e1, q.here rs r1⟩ hs
          · exact ix_list value slice pins s σ H x y v u Q I rx ry ⟨p, vs, _, v1, e, rb, hq, e1, q.here rs r1⟩ hs
        · cases hg
      · cases hg

/-! ### slices -/
def rSlW (X : Cx) (fa : Nat → Option Addr) : V → Option Int → Option Int → Hp → VK → Prop := fun x lo hi H Q => ∃ ι S a l h c S', RS X.w X.K fa H ι S ∧ RV X.w X.K fa H ι a x ∧ endOf l = some lo ∧ endOf h = some hi ∧ wSlc a l h S = some (c, S') ∧ After X.w X.K fa ι H c S' Q
theorem litOk_cut {x : Str} (h : litOk x = true) (lo hi : Option Int) : litOk ⟨(cutOf x.cps.toList lo hi).toArray⟩ = true := by
  have h1 := litOk_str h
  have h2 := litOk_len h
  unfold PyData.strOk at h1
  rw [Array.all_eq_true_iff_forall_mem] at h1
  unfold litOk
  rw [Bool.and_eq_true]
  refine ⟨?_, decide_eq_true ?_⟩
  · unfold PyData.strOk
    rw [Array.all_eq_true_iff_forall_mem]
    intro c hc
    have hc : c ∈ cutOf x.cps.toList lo hi := by simpa using hc
    exact h1 c (by simpa using List.mem_of_mem_drop (List.mem_of_mem_take hc))
  · show (cutOf x.cps.toList lo hi).toArray.size ≤ lineN
    have hl : x.cps.toList.length = x.length := by simp [Str.length]
    rw [List.size_toArray, lineN_eq]
    unfold cutOf
    rw [List.length_take, List.length_drop, hl]; omega
theorem plOf_sIx (n d : Nat) (o : Option Int) : plOf n d o = HT.sIx n d o := by cases o <;> rfl
theorem i_slc : SlR X (rSlW X fa) := by
  rintro pins s σ H x v vl vu lo hi sl Q I rx hs pl pu ⟨ι, S, a, l, h, c, S', rs, ra, el, eh, hg, q⟩
  unfold wSlc at hg
  rw [el, eh] at hg
  simp only at hg
  split at hg
  · rename_i z
    cases hg
    rw [rv_str] at ra
    refine sl_str pins s σ H x v vl vu lo hi sl Q I rx hs pl pu ⟨_, ra.1, litOk_len ra.2, ?_⟩
    have e : cutS z lo hi = ⟨(cutOf z.cps.toList lo hi).toArray⟩ := by
      show cutS z lo hi = ⟨(cutOf z.cps.toList lo hi).toArray⟩
      unfold cutS cutOf
      rw [plOf_sIx, plOf_sIx, show z.length = z.cps.toList.length by simp [Str.length]]
    rw [e]
    exact q.here rs (rv_str.mpr ⟨rfl, litOk_cut ra.2 lo hi⟩)
  · rename_i xs
    cases hg
    obtain ⟨p, vs, e, t, r⟩ := rv_tup' ra
    refine sl_tupA pins s σ H x v vl vu lo hi sl Q I rx hs pl pu ⟨p, vs, e, t, fun hw => ?_, fun _ p hp => q.new_tup rs (r.cut lo hi) hp⟩
    have e2 : cutOf xs lo hi = xs := by
      unfold cutOf
      rw [plOf_sIx, plOf_sIx, r.length, hw.1, hw.2, Nat.sub_zero, List.drop_zero, ← r.length, List.take_length]
    rw [e2] at q
    rw [e] at ra
    exact q.here rs ra
  · split at hg
    · rename_i xs hx
      cases hg
      obtain ⟨p, vs, e, t, r⟩ := listOf_rv rs hx ra
      exact sl_list pins s σ H x v vl vu lo hi sl Q I rx hs pl pu ⟨p, vs, e, t, fun p hp => q.new_lst rs (r.cut lo hi) hp⟩
    · cases hg
end
end TS

set_option Elab.async false
set_option linter.all false
set_option maxRecDepth 100000
/-! A9: slices and stores as they are written; methods. -/
namespace TS
open PySem L2 StX PyProof.Rows

section
variable {X : Cx} {fa : Nat → Option Addr}
/-! ### slices -/
def rPO (w : World) (K : PySem.W.Frag) (fa : Nat → Option Addr) (m : Rho → M W) : TO := fun σ H Q => ∃ ι ρ S a o S', RS w K fa H ι S ∧ RR w K fa H ι ρ σ ∧ m ρ S = some (a, S') ∧ endOf a = some o ∧
  ∀ H' ι', Ext ι H ι' H' → RS w K fa H' ι' S' → Q o H'
theorem po_non : PO X none (rPO X.w X.K fa fun _ => .ret .non) := by
  refine ⟨fun pins s σ H Q I ⟨ι, ρ, S, a, o, S', rs, rr, hm, ho, q⟩ => ?_⟩
  have e : some (W.non, S) = some (a, S') := hm
  cases e
  cases ho
  exact po_none.run pins s σ H Q I (q H ι (Ext.refl _ _) rs)
theorem po_ev {e : Expr} {m : Rho → M W} (h : PE X e (rV X.w X.K fa m)) : PO X (some e) (rPO X.w X.K fa m) := by
  refine ⟨fun pins s σ H Q I ⟨ι, ρ, S, a, o, S', rs, rr, hm, ho, q⟩ => ?_⟩
  rw [evalPart_some]
  refine thn (h.run pins s σ H (fun v H1 => ∃ ι1, Ext ι H ι1 H1 ∧ RS X.w X.K fa H1 ι1 S' ∧ RV X.w X.K fa H1 ι1 a v) I ⟨ι, ρ, S, a, S', rs, rr, hm, fun v H1 ι1 x1 rs1 rv1 => ⟨ι1, x1, rs1, rv1⟩⟩) fun u s1 ⟨v, H1, I1, r1, ι1, x1, rs1, rv1⟩ => ?_
  cases a with
  | non =>
    cases ho
    rw [rv_non] at rv1; subst rv1
    cases r1
    exact ⟨none, H1, I1, .none, q H1 ι1 x1 rs1⟩
  | int i =>
    cases ho
    rw [rv_int] at rv1; subst rv1
    obtain ⟨t, rfl⟩ := r1
    exact ⟨some i, H1, I1, .int i t, q H1 ι1 x1 rs1⟩
  | _ => cases ho
theorem ev_slc {e : Expr} {lo hi : Option Expr} {p2 pos : Pos} {ma ml mh : Rho → M W} (ha : PE X e (rV X.w X.K fa ma)) (hl : PO X lo (rPO X.w X.K fa ml)) (hh : PO X hi (rPO X.w X.K fa mh)) :
    PE X (.Subscript e (.Slice lo hi none p2) pos) (rV X.w X.K fa fun ρ => do let x ← ma ρ; let l ← ml ρ; let h ← mh ρ; wSlc x l h) :=
  PEimp (pe_slice (i_slc (fa := fa)) ha hl hh) fun σ H Q ⟨ι, ρ, S, b, S', rs, rr, hm, q⟩ => by
    obtain ⟨x, S1, h1, hm1⟩ := bindM hm
    obtain ⟨l, S2, h2, hm2⟩ := bindM hm1
    obtain ⟨h, S3, h3, hm3⟩ := bindM hm2
    have hs : ∃ lo, endOf l = some lo := by
      unfold wSlc at hm3
      split at hm3
      · rename_i e1 e2; exact ⟨_, e1⟩
      · cases hm3
    have ht : ∃ hi, endOf h = some hi := by
      unfold wSlc at hm3
      split at hm3
      · rename_i e1 e2; exact ⟨_, e2⟩
      · cases hm3
    obtain ⟨lo, el⟩ := hs
    obtain ⟨hi, eh⟩ := ht
    exact ⟨ι, ρ, S, x, S1, rs, rr, h1, fun v H1 ι1 x1 rs1 rv1 => ⟨ι1, ρ, S1, l, lo, S2, rs1, rr.mono x1, h2, el, fun H2 ι2 x2 rs2 => ⟨ι2, ρ, S2, h, hi, S3, rs2, (rr.mono x1).mono x2, h3, eh, fun H3 ι3 x3 rs3 =>
      ⟨ι3, S3, x, l, h, b, S', rs3, (rv1.mono x2).mono x3, el, eh, hm3, q.mono ((x1.trans x2).trans x3)⟩⟩⟩⟩
theorem ev_rev {e : Expr} {k : Nat} {p1 p2 p3 pos : Pos} {ma : Rho → M W} (ha : PE X e (rV X.w X.K fa ma)) : PE X (.Subscript e (.Slice none none (some (.UnaryOp .USub (.Constant (.int 1) k p1) p2)) p3) pos) (rV X.w X.K fa fun ρ => do let x ← ma ρ; wRev x) :=
  PEimp (pe_revL ha) fun σ H Q ⟨ι, ρ, S, b, S', rs, rr, hm, q⟩ => by
    obtain ⟨x, S1, h1, hm1⟩ := bindM hm
    refine ⟨ι, ρ, S, x, S1, rs, rr, h1, fun v H1 ι1 x1 rs1 rv1 => ?_⟩
    unfold wRev at hm1
    split at hm1
    · rename_i xs hx
      have e : some (W.ref S1.length, S1 ++ [Ob.lst xs.reverse]) = some (b, S') := hm1
      cases e
      obtain ⟨p, vs, e, hq, r⟩ := listOf_rv rs1 hx rv1
      exact ⟨p, vs, e, hq, fun p' hp => (q.mono x1).push_lst rs1 r.reverse hp⟩
    · cases hm1

/-! ### o[i] = v -/
theorem ents_put {w : World} {k : W} {kv uv : V} {hash : Int} {key v : Value} (hh : hash = k.nkey.hash w) (rk : RelV kv key) (rv : RelV uv v) : ∀ {ks : List W} {kvs uvs : List V} {es : List DictEntry} , Ents w ks kvs uvs es →
    (∀ i, i < es.length → Ents w ks kvs (uvs.set i uv) (es.modify i fun e => { e with val := v })) ∧ Ents w (ks ++ [k]) (kvs ++ [kv]) (uvs ++ [uv]) (es ++ [⟨hash, key, v⟩])
  | _, _, _, _, .nil => ⟨fun i h => absurd h (Nat.not_lt_zero _), .cons hh rk rv .nil⟩
  | _, _, _, _, .cons a b c t => by
    obtain ⟨h1, h2⟩ := ents_put hh rk rv t
    refine ⟨fun i h => ?_, .cons a b c h2⟩
    cases i with
    | zero => exact .cons a b rv t
    | succ i => exact .cons a b c (h1 i (by simpa using h))
def rSetW (w : World) (K : PySem.W.Frag) (fa : Nat → Option Addr) : TSet := fun o i v H Q => ∃ ι S ow iw vw S', RS w K fa H ι S ∧ RV w K fa H ι ow o ∧ RV w K fa H ι iw i ∧ RV w K fa H ι vw v ∧ wSet ow iw vw S = some ((), S') ∧
  ∀ H' ι', Ext ι H ι' H' → RS w K fa H' ι' S' → Q H'
theorem s_set (hu : X.A.units + 65 < cLine) : PSet X (rSetW X.w X.K fa) := by
  rintro pins s σ H o i v ov iv u Q I ro ri rv ⟨ι, S, ow, iw, vw, S', rs, rvo, rvi, rvv, hs, q⟩
  unfold wSet at hs
  split at hs
  · rename_i n
    obtain ⟨p, hp, rfl⟩ := rv_ref.mp rvo
    split at hs
    · rename_i xs hn
      split at hs
      · rename_i k
        split at hs
        · rename_i j hj
          cases hs
          obtain ⟨vs, h1, h2⟩ := rs.ob n _ p hn hp
          rw [rv_int] at rvi
          refine set_list pins s σ H _ _ _ ov iv u Q I ro ri rv ⟨p, vs, k, j, rfl, rvi, h1, by rw [← h2.length]; exact hj, ?_⟩
          obtain ⟨x1, rs1⟩ := rs.put (ob := .lst (xs.set j vw)) (o := .lst (vs.set j v)) hp (lst_no h1) fun H' ι' y e => ⟨_, e, (h2.mono y).set (rvv.mono y) j⟩
          exact q _ _ x1 rs1
        · cases hs
      · cases hs
    · rename_i ks us hn
      split at hs
      · rename_i hk
        cases hs
        obtain ⟨es, ep, kvs, uvs, h1, en, nd, r1, r2⟩ := rs.ob n _ p hn hp
        obtain ⟨g1, g2, ob, ho, hc, hd⟩ := dob_at I h1
        obtain rfl : ov = Value.ref p := ro
        obtain ⟨c, ka⟩ := key_at (A := X.A.in1) (us := us) (by show X.A.units + 1 + 8 < cLine; omega) I ho hd en nd r1 hk.1 rvi ri
        obtain ⟨l1, l2, l3⟩ := ents_len en
        refine d_setItem ka ho hc hd g2 fun h' o' g h2 h3 h4 => ?_
        have hle : (putE es (kIdx ks iw) (iw.nkey.hash X.w) iv u).length ≤ sizeLine := by
          unfold putE
          cases kIdx ks iw with
          | some i => simpa using g2
          | none =>
            have := hk.2
            rw [← lineN_eq]; simp; omega
        refine ⟨upd H p (dOb p (putE es (kIdx ks iw) (iw.nkey.hash X.w) iv u) (putN ep (kIdx ks iw))), ?_, ?_⟩
        · exact I.write (x := p) (e := p) (by rw [h1]; exact trivial) (.inl rfl) (fun b z hb hz => (h4.2 b hb).trans hz) ⟨_, g⟩ (dob_ok g1 hle g h2 h3)
        · have hput : ∀ H' ι', Ext ι H ι' H' → H' p = some (dOb p (putE es (kIdx ks iw) (iw.nkey.hash X.w) iv u) (putN ep (kIdx ks iw))) → RO X.w X.K fa H' ι' p (.dct (dPut ks us iw vw).1 (dPut ks us iw vw).2) := by
            intro H' ι' y e
            unfold dPut
            unfold putE putN at e
            cases hix : kIdx ks iw with
            | some j =>
              rw [hix] at e
              have hj : j < es.length := by
                unfold kIdx at hix
                have := (List.findIdx?_eq_some_iff_getElem.mp hix).1
                omega
              exact ⟨_, _, kvs, uvs.set j v, e, (ents_put (k := iw) rfl ri rv en).1 j hj, nd, r1.mono y, (r2.mono y).set (rvv.mono y) j⟩
            | none =>
              rw [hix] at e
              refine ⟨_, _, kvs ++ [i], uvs ++ [v], e, (ents_put rfl ri rv en).2, ?_, (r1.mono y).append (.cons (rvi.mono y) .nil), (r2.mono y).append (.cons (rvv.mono y) .nil)⟩
              rw [List.map_append]
              refine List.nodup_append.mpr ⟨nd, by simp, fun a ha b hb => ?_⟩
              have hb : b = iw.nkey := by simpa using hb
              subst hb
              obtain ⟨k', hk', rfl⟩ := List.mem_map.mp ha
              intro eq
              unfold kIdx at hix
              have := List.findIdx?_eq_none_iff.mp hix k' hk'
              obtain ⟨q1, q2⟩ := keyFor_hk hk.1
              rw [eqv_dec (q2 k' hk') q1, decide_eq_true eq] at this
              cases this
          have hgrow : ∀ es0 ep0, H p = some (dOb p es0 ep0) → ∃ es' ep', dOb p (putE es (kIdx ks iw) (iw.nkey.hash X.w) iv u) (putN ep (kIdx ks iw)) = dOb p es' ep' ∧ es0.length ≤ es'.length ∧ (es'.length = es0.length → ep' = ep0) := by
            intro es0 ep0 h0
            obtain ⟨_, _, ob0, ho0, _, hd0⟩ := dob_at I h0
            rw [ho] at ho0; cases ho0
            rw [hd] at hd0
            injection hd0 with d1 d2
            have d1 : es = es0 := by simpa using congrArg Array.toList d1
            subst d1 d2
            refine ⟨_, _, rfl, ?_⟩
            unfold putE putN
            cases kIdx ks iw with
            | some j => exact ⟨by simp, fun _ => rfl⟩
            | none => exact ⟨by simp, fun h => by simp at h⟩
          obtain ⟨x1, rs1⟩ := rs.put hp hgrow hput
          exact q _ _ x1 rs1
      · cases hs
    · cases hs
  · cases hs

/-! ### methods -/
def isDctV (x : V) (H : Hp) : Prop := ∃ p es ep, x = .ref p ∧ H p = some (dOb p es ep)
section
variable {o e : Expr} {es : List Expr} {to : TE} {t : TA} {name : Str} {apos cpos : Pos} {T id : String} {r : V → List V → Hp → VK → Prop} {isT : V → Hp → Prop}
theorem bmW (pa : PlainAttrs T) (slot : Slot T name id) (hty : typeOf (.builtin id) = pure (.type "method_descriptor")) (hm : MtR X id r) (ho : PE X o to) (ha : PA X (e :: es) t)
    (hi : ∀ (pins : List (Addr × Obj)) (s : Shared) (σ : L2.St) (H : Hp) (x : V) (v : Value), Inv X pins σ H s → RelV x v → isT x H → s.TypeIs v T ∧ ∀ a, v = .ref a → ∃ ob, s.heap.get? a = some ob ∧ ob.dict = none)
    (hbase : attributeBase o name X.env (eval o X.env) = eval o X.env)
    (hfew : (e :: es).length < 29)
    (hline : (apos.endLine == cpos.line) = true) (hs : isStar e = false) (hst : es.any isStar = false) :
    PE X (.Call (.Attribute o name apos) (e :: es) [] cpos) (fun σ H Q => to σ H fun x H1 => isT x H1 ∧ t σ H1 fun xs H2 => r x xs H2 Q) := by
  have hplain : (backTo cpos (starEach es X.env)).any (·.1) = false := by rw [back_any]; exact hst
  have hs' := star_no (es := es) (env := X.env) hs
  have hf : ((backTo cpos (starEach (e :: es) X.env)).all (fun x => !x.1) && (backToKw cpos (keywordEach [] X.env)).all (fun x => x.1.isSome)
      && decide ((e :: es).length + ([] : List Keyword).length + (if ([] : List Keyword).isEmpty then 0 else 1) < 30)) = true := by
    have e1 : (backTo cpos (starEach (e :: es) X.env)).all (fun x => !x.1) = true := by
      have := back_any (pos := cpos) (env := X.env) (e :: es)
      rw [List.any_cons, hs, hst] at this
      rw [List.all_eq_not_any_not]
      simp only [Bool.not_not]
      rw [this]; rfl
    rw [e1, Bool.true_and, Bool.and_eq_true]
    refine ⟨rfl, decide_eq_true ?_⟩
    show (e :: es).length + 0 + 0 < 30
    omega
  refine ⟨fun pins s σ H Q I h => ?_⟩
  refine wpAny_Call_method_late hbase hf hline rfl (thn (ho.run pins s σ H _ I h) fun v s1 ⟨x, H1, I1, r1, ty, q1⟩ => ?_)
  obtain ⟨h1, h2⟩ := hi pins s1 σ H1 x v I1 r1 ty
  refine ⟨T, id, pa, slot, hty, h1, h2, ?_⟩
  have hA := ha.run cpos pins s1 σ H1 _ I1 q1
  rw [hs'] at hA ⊢
  refine Calls.callWith_builtin (by show (false || (backTo cpos (starEach es X.env)).any (·.1)) = false; rw [hplain] <;> rfl) (Calls.evalArgs_plain ?_)
  exact thn hA fun us s2 ⟨vs, H2, I2, r2, q2⟩ => hm pins s2 σ H2 x vs v us Q I2 r1 r2 q2
end
theorem isDct_is {pins : List (Addr × Obj)} {s : Shared} {σ : L2.St} {H : Hp} {x : V} {v : Value} (I : Inv X pins σ H s) (r : RelV x v) (h : isDctV x H) : s.TypeIs v "dict" ∧ ∀ a, v = .ref a → ∃ ob, s.heap.get? a = some ob ∧ ob.dict = none := by
  obtain ⟨p, es, ep, rfl, hp⟩ := h
  obtain rfl : v = Value.ref p := r
  obtain ⟨g1, g2, ob, ho, hc, hd⟩ := dob_at I hp
  exact ⟨d_isDict ho hc, fun a e => by cases e; exact ⟨ob, ho, hc.2.1⟩⟩
theorem m_append : MtR X "list.append" (rMt X.w X.K fa mAppend) := by
  rintro pins s σ H x xs v us Q I rx rxs ⟨ι, S, a, as, c, S', rs, ra, ras, hg, q⟩
  unfold mAppend at hg
  split at hg <;> first | contradiction | skip
  rename_i n w
  split at hg
  · rename_i ws hn
    split at hg
    · rename_i hz
      cases hg
      obtain ⟨p, hp, rfl⟩ := rv_ref.mp ra
      obtain ⟨vs, h1, h2⟩ := rs.ob n _ p hn hp
      obtain ⟨v1, vs1, rfl, r1, r2⟩ := ras.cons_inv
      obtain rfl := r2.nil_inv
      refine mt_append pins s σ H _ _ v us Q I rx rxs ⟨p, vs, v1, rfl, rfl, h1, by rw [← h2.length, ← lineN_eq]; exact hz, ?_⟩
      obtain ⟨x1, rs1⟩ := rs.put (ob := .lst (ws ++ [w])) (o := .lst (vs ++ [v1])) hp (lst_no h1) fun H' ι' y e => ⟨_, e, (h2.mono y).append (.cons (r1.mono y) .nil)⟩
      exact q _ _ _ x1 rs1 (rv_non.mpr rfl)
    · cases hg
  · cases hg
theorem m_pop0 : MtR X "list.pop" (rMt X.w X.K fa mPop0) := by
  rintro pins s σ H x xs v us Q I rx rxs ⟨ι, S, a, as, c, S', rs, ra, ras, hg, q⟩
  unfold mPop0 at hg
  split at hg <;> first | contradiction | skip
  rename_i n
  split at hg
  · rename_i ws hn
    split at hg
    · rename_i w hw
      cases hg
      obtain ⟨p, hp, rfl⟩ := rv_ref.mp ra
      obtain ⟨vs, h1, h2⟩ := rs.ob n _ p hn hp
      obtain rfl := ras.nil_inv
      obtain ⟨v1, e1, r1⟩ := h2.get hw
      rw [h2.length] at e1
      refine mt_pop pins s σ H _ _ v us Q I rx rxs ⟨p, vs, v1, rfl, rfl, h1, e1, ?_⟩
      obtain ⟨x1, rs1⟩ := rs.put (ob := .lst ws.dropLast) (o := .lst vs.dropLast) hp (lst_no h1) fun H' ι' y e => ⟨_, e, (h2.mono y).dropLast⟩
      exact q _ _ _ x1 rs1 (r1.mono x1)
    · cases hg
  · cases hg
theorem m_pop1 : MtR X "list.pop" (rMt X.w X.K fa mPop1) := by
  rintro pins s σ H x xs v us Q I rx rxs ⟨ι, S, a, as, c, S', rs, ra, ras, hg, q⟩
  unfold mPop1 at hg
  split at hg <;> first | contradiction | skip
  rename_i n i
  split at hg
  · rename_i ws hn
    split at hg
    · rename_i k hk
      split at hg
      · rename_i w hw
        cases hg
        obtain ⟨p, hp, rfl⟩ := rv_ref.mp ra
        obtain ⟨vs, h1, h2⟩ := rs.ob n _ p hn hp
        obtain ⟨v0, vs0, rfl, r0, r00⟩ := ras.cons_inv
        obtain rfl := r00.nil_inv
        rw [rv_int] at r0
        subst r0
        obtain ⟨v1, e1, r1⟩ := h2.get hw
        rw [h2.length] at hk
        obtain ⟨k1, k2, k3, k4⟩ := ixN_seq hk
        obtain ⟨z1, _⟩ := I.lstM h1
        have hl := line63
        refine mt_popAt pins s σ H _ _ v us Q I rx rxs ⟨p, vs, i, k, v1, rfl, rfl, h1, by omega, by omega, k1, e1, ?_⟩
        obtain ⟨x1, rs1⟩ := rs.put (ob := .lst (ws.eraseIdx k)) (o := .lst (vs.eraseIdx k)) hp (lst_no h1) fun H' ι' y e => ⟨_, e, (h2.mono y).eraseIdx k⟩
        exact q _ _ _ x1 rs1 (r1.mono x1)
      · cases hg
    · cases hg
  · cases hg
theorem m_insert : MtR X "list.insert" (rMt X.w X.K fa mInsert) := by
  rintro pins s σ H x xs v us Q I rx rxs ⟨ι, S, a, as, c, S', rs, ra, ras, hg, q⟩
  unfold mInsert at hg
  split at hg <;> first | contradiction | skip
  rename_i n i w
  split at hg
  · rename_i ws hn
    split at hg
    · rename_i hz
      cases hg
      obtain ⟨p, hp, rfl⟩ := rv_ref.mp ra
      obtain ⟨vs, h1, h2⟩ := rs.ob n _ p hn hp
      obtain ⟨v0, vs0, rfl, r0, r00⟩ := ras.cons_inv
      obtain ⟨v1, vs1, rfl, r1, r11⟩ := r00.cons_inv
      obtain rfl := r11.nil_inv
      rw [rv_int] at r0
      subst r0
      obtain ⟨z1, _⟩ := I.lstM h1
      have hl := line63
      have hll := h2.length
      have hz3 := hz.2.2
      rw [lineN_eq] at hz3
      refine mt_insert pins s σ H _ _ v us Q I rx rxs ⟨p, vs, i, v1, rfl, rfl, h1, by omega, hz.1, by omega, ?_⟩
      obtain ⟨x1, rs1⟩ := rs.put (ob := .lst (ws.take i.toNat ++ w :: ws.drop i.toNat)) (o := .lst (vs.take i.toNat ++ [v1] ++ vs.drop i.toNat)) hp (lst_no h1) fun H' ι' y e => ⟨_, e, by
        have := (((h2.mono y).take i.toNat).append (.cons (r1.mono y) .nil)).append ((h2.mono y).drop i.toNat)
        simpa using this⟩
      exact q _ _ _ x1 rs1 (rv_non.mpr rfl)
    · cases hg
  · cases hg
theorem get_ok {d : Addr} {key : Value} {dflt : Value} {E : Value → Shared → Prop} {Q : Value → Shared → Prop} {s : Shared} {o : Obj} {es : List DictEntry} {ep c : Nat} {hash : Int} {ix : Option Nat} {args : List Value} (ha : args = [] ∧ dflt = .none ∨ args = [dflt]) (ka : KA X.prog X.w X.A.in1 s d hash key ix c) (hs : (d == sysModules) = false) (ho : s.heap.get? d = some o) (hc : o.ExactDict) (hd : o.data = .dict es.toArray ep)
    (h : Q ((valAt es ix).getD dflt) { s with toks := s.toks + c }) : wpAny (model X.prog X.w) X.A (call (.builtin "dict.get") (.ref d :: key :: args)) Q E s := by
  have ty := d_isDict ho hc
  rcases ha with ⟨rfl, rfl⟩ | rfl
  · refine wpAny_call_entry PySem.F.slot_dict_get ty PySem.F.entry_dict_get ?_ (PySem.F.args_dict_get_2 _ _)
    show wpAny _ _ (dictGet d key >>= _) _ _ s
    refine wpAny_bind (d_get ka ho hd ?_)
    cases e : valAt es ix with
    | some v => rw [e] at h; exact wpAny_pure ⟨v, rfl, h⟩
    | none =>
      rw [e] at h
      show wpAny _ _ (Builtin.Dict.missed d key >>= _) _ _ _
      exact wpAny_bind (wpAny_missed_other hs (wpAny_pure ⟨.none, rfl, h⟩))
  · refine wpAny_call_entry PySem.F.slot_dict_get ty PySem.F.entry_dict_get ?_ (PySem.F.args_dict_get_3 _ _ _)
    show wpAny _ _ (dictGet d key >>= _) _ _ s
    refine wpAny_bind (d_get ka ho hd ?_)
    cases e : valAt es ix with
    | some v => rw [e] at h; exact wpAny_pure ⟨v, rfl, h⟩
    | none =>
      rw [e] at h
      show wpAny _ _ (Builtin.Dict.missed d key >>= _) _ _ _
      exact wpAny_bind (wpAny_missed_other hs (wpAny_pure ⟨dflt, rfl, h⟩))
theorem m_get1 (hu : X.A.units + 65 < cLine) : MtR X "dict.get" (rMt X.w X.K fa mGet1) := by
  rintro pins s σ H x xs v us Q I rx rxs ⟨ι, S, a, as, c, S', rs, ra, ras, hg, q⟩
  unfold mGet1 at hg
  split at hg <;> first | contradiction | skip
  rename_i k
  split at hg
  · rename_i ks uws hd
    split at hg
    · rename_i hk
      cases hg
      obtain ⟨p, es, ep, kvs, uvs, rfl, hp, en, nd, r1, r2⟩ := dictOf_rv rs hd ra
      obtain ⟨g1, g2, ob, ho, hc, hdata⟩ := dob_at I hp
      obtain rfl : v = Value.ref p := rx
      obtain ⟨v0, vs0, rfl, r0, r00⟩ := ras.cons_inv
      obtain rfl := r00.nil_inv
      obtain ⟨u0, rfl, ru0⟩ := vals1 rxs
      obtain ⟨cc, ka⟩ := key_at (A := X.A.in1) (us := uws) (by show X.A.units + 1 + 8 < cLine; omega) I ho hdata en nd r1 hk r0 ru0
      refine get_ok (.inl ⟨rfl, rfl⟩) ka g1 ho hc hdata ?_
      obtain ⟨_, g3, g4⟩ := valAt_get (k := k) en r2
      cases e : dAt ks uws k with
      | some u =>
        rw [e] at q
        obtain ⟨w1, uv, e1, e2, e3⟩ := g3 u e
        rw [e1]
        exact ⟨uv, H, I.tok _, e2, q.here rs e3⟩
      | none =>
        rw [e] at q
        rw [g4 e]
        exact ⟨.non, H, I.tok _, rfl, q.here rs (rv_non.mpr rfl)⟩
    · cases hg
  · cases hg
theorem m_get2 (hu : X.A.units + 65 < cLine) : MtR X "dict.get" (rMt X.w X.K fa mGet2) := by
  rintro pins s σ H x xs v us Q I rx rxs ⟨ι, S, a, as, c, S', rs, ra, ras, hg, q⟩
  unfold mGet2 at hg
  split at hg <;> first | contradiction | skip
  rename_i k d
  split at hg
  · rename_i ks uws hd
    split at hg
    · rename_i hk
      cases hg
      obtain ⟨p, es, ep, kvs, uvs, rfl, hp, en, nd, r1, r2⟩ := dictOf_rv rs hd ra
      obtain ⟨g1, g2, ob, ho, hc, hdata⟩ := dob_at I hp
      obtain rfl : v = Value.ref p := rx
      obtain ⟨v0, vs0, rfl, r0, r00⟩ := ras.cons_inv
      obtain ⟨v1, vs1, rfl, rd, r11⟩ := r00.cons_inv
      obtain rfl := r11.nil_inv
      obtain ⟨u0, u1, rfl, ru0, ru1⟩ := vals2 rxs
      obtain ⟨cc, ka⟩ := key_at (A := X.A.in1) (us := uws) (by show X.A.units + 1 + 8 < cLine; omega) I ho hdata en nd r1 hk r0 ru0
      refine get_ok (dflt := u1) (.inr rfl) ka g1 ho hc hdata ?_
      obtain ⟨_, g3, g4⟩ := valAt_get (k := k) en r2
      cases e : dAt ks uws k with
      | some u =>
        rw [e] at q
        obtain ⟨w1, uv, e1, e2, e3⟩ := g3 u e
        rw [e1]
        exact ⟨uv, H, I.tok _, e2, q.here rs e3⟩
      | none =>
        rw [e] at q
        rw [g4 e]
        exact ⟨v1, H, I.tok _, ru1, q.here rs rd⟩
    · cases hg
  · cases hg
end
end TS

set_option Elab.async false
set_option linter.all false
set_option maxRecDepth 100000
/-! A10: targets, iteration. -/
namespace TS
open PySem L2 StX PyProof.Rows

/-! ### slots -/
section
variable {w : World} {K : PySem.W.Frag} {fa : Nat → Option Addr} {H : Hp} {ι : Pls}
theorem RR.set {ρ : Rho} {σ : L2.St} {a : W} {v : V} (r : RR w K fa H ι ρ σ) (rv : RV w K fa H ι a v) (i : Nat) : RR w K fa H ι (ρ.set i (some a)) (σ.set i (some v)) := by
  refine ⟨by simp [r.len], fun j x h => ?_⟩
  by_cases e : i = j
  · subst e
    have hi : i < ρ.length := by
      have := (List.getElem?_eq_some_iff.mp h).1
      simpa using this
    rw [List.getElem?_set_self hi] at h
    cases h
    exact ⟨v, by rw [List.getElem?_set_self (by rw [← r.len]; exact hi)], rv⟩
  · rw [List.getElem?_set_ne e] at h
    obtain ⟨u, h1, h2⟩ := r.at_ j x h
    exact ⟨u, by rw [List.getElem?_set_ne e]; exact h1, h2⟩
theorem RR.setN {ρ : Rho} {σ : L2.St} (r : RR w K fa H ι ρ σ) (i : Nat) : RR w K fa H ι (ρ.set i none) (σ.set i none) := by
  refine ⟨by simp [r.len], fun j x h => ?_⟩
  by_cases e : i = j
  · subst e
    have hi : i < ρ.length := by
      have := (List.getElem?_eq_some_iff.mp h).1
      simpa using this
    rw [List.getElem?_set_self hi] at h
    cases h
  · rw [List.getElem?_set_ne e] at h
    obtain ⟨u, h1, h2⟩ := r.at_ j x h
    exact ⟨u, by rw [List.getElem?_set_ne e]; exact h1, h2⟩
theorem RR.wipe {ρ : Rho} {σ : L2.St} (r : RR w K fa H ι ρ σ) : ∀ vs : List Nat, RR w K fa H ι (wipeR ρ vs) (L2.wipe σ vs)
  | [] => r
  | v :: vs => (r.wipe vs).setN v
end
/-- only these slots differ -/
def Sw (vs : List Nat) (σ σ' : L2.St) : Prop := σ'.length = σ.length ∧ ∀ i, i ∉ vs → σ'[i]? = σ[i]?
theorem Sw.refl (vs : List Nat) (σ : L2.St) : Sw vs σ σ := ⟨rfl, fun _ _ => rfl⟩
theorem Sw.trans {us vs : List Nat} {σ σ1 σ2 : L2.St} (h : Sw us σ σ1) (h' : Sw vs σ1 σ2) : Sw (us ++ vs) σ σ2 :=
  ⟨h'.1.trans h.1, fun i hi => by rw [List.mem_append, not_or] at hi; rw [h'.2 i hi.2, h.2 i hi.1]⟩
theorem Sw.set (i : Nat) (σ : L2.St) (v : Option V) : Sw [i] σ (σ.set i v) := ⟨by simp, fun j hj => by
  have : i ≠ j := fun e => hj (by simp [e])
  rw [List.getElem?_set_ne this]⟩
theorem wipe_at {σ : L2.St} {i : Nat} {vs : List Nat} (h : i ∈ vs) (hi : i < σ.length) : (L2.wipe σ vs)[i]? = some none := by
  induction vs with
  | nil => cases h
  | cons v vs ih =>
    unfold L2.wipe
    by_cases e : v = i
    · subst e
      rw [List.getElem?_set_self (by rw [wipe_length]; exact hi)]
    · rw [List.getElem?_set_ne e]
      rcases List.mem_cons.mp h with h | h
      · exact absurd h.symm e
      · exact ih h
theorem Sw.wipe {us vs : List Nat} {σ σ' : L2.St} (h : Sw us σ σ') (s : ∀ i ∈ us, i ∈ vs) : L2.wipe σ' vs = L2.wipe σ vs := by
  apply List.ext_getElem?
  intro i
  by_cases hi : i ∈ vs
  · by_cases hl : i < σ.length
    · rw [wipe_at hi hl, wipe_at hi (by rw [h.1]; exact hl)]
    · rw [List.getElem?_eq_none (by rw [wipe_length]; have := h.1; omega), List.getElem?_eq_none (by rw [wipe_length]; omega)]
  · rw [wipe_out hi, wipe_out hi]
    exact h.2 i fun m => hi (s i m)

/-! ### targets of loops -/
section
variable (w : World) (K : PySem.W.Frag) (fa : Nat → Option Addr)
def rP (p : P) : TG := fun v σ H Q => ∃ ι ρ S a ρ', RS w K fa H ι S ∧ RR w K fa H ι ρ σ ∧ RV w K fa H ι a v ∧ P.put p a ρ = some ρ' ∧ ∀ σ', RR w K fa H ι ρ' σ' → Sw p.slots σ σ' → Q σ' H
def rPs (p : P) : TGs := fun vs σ H Q => ∃ ι ρ S as ρ', RS w K fa H ι S ∧ RR w K fa H ι ρ σ ∧ RVs w K fa H ι as vs ∧ P.puts p as ρ = some ρ' ∧ ∀ σ', RR w K fa H ι ρ' σ' → Sw p.slots σ σ' → Q σ' H
/-- a walk by values: xs, while what it walks stands -/
def Wk (J : It) (xs : List W) (src : List (Nat × Ob)) (H : Hp) (ι : Pls) : Prop :=
  ∀ H' ι' S, Exh ι H ι' H' → RS w K fa H' ι' S → stands S src = true → ∀ i : Nat,
    (i = xs.length → J.stop i H') ∧ ∀ a, xs[i]? = some a → J.go i H' ∧ ∀ x H'', J.yld i H' x H'' → ∃ ι'', Ext ι' H' ι'' H'' ∧ RS w K fa H'' ι'' S ∧ RV w K fa H'' ι'' a x
def rI (m : Rho → M (List W × List (Nat × Ob))) : TI := fun σ H R => ∃ ι ρ S xs src S', RS w K fa H ι S ∧ RR w K fa H ι ρ σ ∧ m ρ S = some ((xs, src), S') ∧
  ∀ J H' ι', Ext ι H ι' H' → RS w K fa H' ι' S' → xs.length ≤ sizeLine → Wk w K fa J xs src H' ι' → R J H'
end
section
variable {X : Cx} {fa : Nat → Option Addr}
theorem PGimp {e : Expr} {t t' : TG} (h : PG X e t) (i : ∀ v σ H Q, t' v σ H Q → t v σ H Q) : PG X e t' := ⟨fun pins s σ H v u Q I r q => h.run pins s σ H v u Q I r (i v σ H Q q)⟩
theorem PGsimp {e : List Expr} {t t' : TGs} (h : PGs X e t) (i : ∀ v σ H Q, t' v σ H Q → t v σ H Q) : PGs X e t' := ⟨fun pins s σ H v u Q I r q => h.run pins s σ H v u Q I r (i v σ H Q q)⟩
theorem PIimp {tg e : Expr} {t t' : TI} (h : PI X tg e t) (i : ∀ σ H R, t' σ H R → t σ H R) : PI X tg e t' := ⟨fun pins s σ H Q I q => h.run pins s σ H Q I (i σ H Q q)⟩
theorem p_nm {i : Nat} {x : Str} {pos : Pos} (hN : X.N.Nodup) (hi : X.N[i]? = some x) (hx : Loc X.env.scope x) (hf : X.fn x = true ∨ X.env.scope.names.lookup x = some .local) : PG X (.Name x pos) (rP X.w X.K fa (.nm i)) :=
  PGimp (pg_name hN hi hx hf) fun v σ H Q ⟨ι, ρ, S, a, ρ', rs, rr, rv, hp, q⟩ => by
    have e : some (ρ.set i (some a)) = some ρ' := by simpa only [P.put] using hp
    cases e
    exact q _ (rr.set rv i) (Sw.set i σ _)
theorem ps_nil : PGs X [] (rPs X.w X.K fa .nil) := PGsimp pgs_nil fun vs σ H Q ⟨ι, ρ, S, as, ρ', rs, rr, rv, hp, q⟩ => by
  cases as with
  | nil =>
    have e : some ρ = some ρ' := by simpa only [P.puts] using hp
    cases e
    exact ⟨rv.nil_inv, q σ rr (Sw.refl _ _)⟩
  | cons a as => simp [P.puts] at hp
theorem each_cons {e : Expr} {es : List Expr} {env : Env} (h : isStar e = false) : assignEach (e :: es) env = (false, assign e env) :: assignEach es env := by cases e <;> first | rfl | cases h
theorem ps_cons {e : Expr} {es : List Expr} {p ps : P} (hs : isStar e = false) (h1 : PG X e (rP X.w X.K fa p)) (h2 : PGs X es (rPs X.w X.K fa ps)) : PGs X (e :: es) (rPs X.w X.K fa (.cons p ps)) :=
  PGsimp (pgs_cons h1 h2 (by rw [each_cons hs]; rfl)) fun vs σ H Q ⟨ι, ρ, S, as, ρ', rs, rr, rv, hp, q⟩ => by
    cases as with
    | nil => simp [P.puts] at hp
    | cons a as =>
      obtain ⟨v, vs', rfl, r1, r2⟩ := rv.cons_inv
      simp only [P.puts] at hp
      split at hp
      · rename_i ρ1 h1
        exact ⟨v, vs', rfl, ι, ρ, S, a, ρ1, rs, rr, r1, h1, fun σ' rr' sw => ⟨ι, ρ1, S, as, ρ', rs, rr', r2, hp, fun σ2 rr2 sw2 => q σ2 rr2 (sw.trans sw2)⟩⟩
      · cases hp
theorem each_len (env : Env) : ∀ es : List Expr, (assignEach es env).length = es.length
  | [] => rfl
  | e :: es => by
    cases hs : isStar e with
    | false => rw [each_cons hs, List.length_cons, List.length_cons, each_len env es]
    | true =>
      cases e with
      | Starred v p => show ((true, assign v env) :: assignEach es env).length = _; rw [List.length_cons, List.length_cons, each_len env es]
      | _ => cases hs
theorem each_no (env : Env) : ∀ es : List Expr, es.any isStar = false → (assignEach es env).findIdx? (·.1) = none
  | [], _ => rfl
  | e :: es, h => by
    rw [List.any_cons, Bool.or_eq_false_iff] at h
    rw [each_cons h.1, List.findIdx?_cons, each_no env es h.2]
    rfl
theorem puts_len : ∀ (p : P) (as : List W) (ρ ρ' : Rho), P.puts p as ρ = some ρ' → ∃ n, as.length = n ∧ ∀ (bs : List W) (ρ1 ρ2 : Rho), P.puts p bs ρ1 = some ρ2 → bs.length = n
  | .nil, as, ρ, ρ', h => by
    cases as with
    | nil => exact ⟨0, rfl, fun bs ρ1 ρ2 h' => by cases bs with | nil => rfl | cons b bs => simp [P.puts] at h'⟩
    | cons a as => simp [P.puts] at h
  | .cons p ps, as, ρ, ρ', h => by
    cases as with
    | nil => simp [P.puts] at h
    | cons a as =>
      simp only [P.puts] at h
      split at h
      · obtain ⟨n, h1, h2⟩ := puts_len ps as _ _ h
        refine ⟨n + 1, by simp [h1], fun bs ρ1 ρ2 h' => ?_⟩
        cases bs with
        | nil => simp [P.puts] at h'
        | cons b bs =>
          simp only [P.puts] at h'
          split at h'
          · simp [h2 bs _ _ h']
          · cases h'
      · cases h
  | .nm i, as, ρ, ρ', h => by cases as <;> simp [P.puts] at h
  | .tp p, as, ρ, ρ', h => by cases as <;> simp [P.puts] at h
def P.size : P → Nat
  | .cons _ ps => ps.size + 1
  | _ => 0
theorem puts_size : ∀ (p : P) (as : List W) (ρ ρ' : Rho), P.puts p as ρ = some ρ' → as.length = p.size
  | .nil, as, ρ, ρ', h => by cases as with | nil => rfl | cons a as => simp [P.puts] at h
  | .cons p ps, as, ρ, ρ', h => by
    cases as with
    | nil => simp [P.puts] at h
    | cons a as =>
      simp only [P.puts] at h
      split at h
      · simp [P.size, puts_size ps as _ _ h]
      · cases h
  | .nm i, as, ρ, ρ', h => by cases as <;> simp [P.puts] at h
  | .tp p, as, ρ, ρ', h => by cases as <;> simp [P.puts] at h
theorem p_tp {es : List Expr} {k : Nat} {pos : Pos} {ps : P} (hc : X.calm = true) (hs : es.any isStar = false) (hl : es.length = ps.size) (h : PGs X es (rPs X.w X.K fa ps)) : PG X (.Tuple es k pos) (rP X.w X.K fa (.tp ps)) :=
  PGimp (pg_tup (n := es.length) hc h (each_len _ _) (each_no _ _ hs)) fun v σ H Q ⟨ι, ρ, S, a, ρ', rs, rr, rv, hp, q⟩ => by
    cases a with
    | tup as =>
      simp only [P.put] at hp
      obtain ⟨p, vs, e, t, r⟩ := rv_tup' rv
      exact ⟨p, vs, e, t, by rw [← r.length, hl]; exact puts_size _ _ _ _ hp, ι, ρ, S, as, ρ', rs, rr, r, hp, q⟩
    | _ => simp [P.put] at hp

/-! ### the keys of a dict, one after another -/
def Itdk (d : Addr) (n ep : Nat) : It :=
  ⟨fun i H => i < n ∧ (∃ es' ep', H d = some (dOb d es' ep') ∧ (es'.length = n → ep' = ep)) ∧ ∃ es' ep' e x, H d = some (dOb d es' ep') ∧ es'.length = n ∧ es'[i]? = some e ∧ RelV x e.key,
    fun i H x H' => H' = H ∧ ∀ es' ep', H d = some (dOb d es' ep') → ∃ e, es'[i]? = some e ∧ RelV x e.key,
    fun i H => n ≤ i ∧ (∃ es' ep', H d = some (dOb d es' ep') ∧ (es'.length = n → ep' = ep)) ∧ ∃ es' ep', H d = some (dOb d es' ep') ∧ es'.length = n⟩
theorem dob_inj {pins : List (Addr × Obj)} {σ : L2.St} {H : Hp} {s : Shared} {d : Addr} {es es' : List DictEntry} {ep ep' : Nat} (I : Inv X pins σ H s) (h : H d = some (dOb d es ep)) (h' : H d = some (dOb d es' ep')) : es' = es ∧ ep' = ep := by
  obtain ⟨_, _, o, ho, _, hd⟩ := dob_at I h
  obtain ⟨_, _, o', ho', _, hd'⟩ := dob_at I h'
  rw [ho] at ho'; cases ho'
  rw [hd] at hd'
  injection hd' with d1 d2
  exact ⟨(by simpa using congrArg Array.toList d1.symm), d2.symm⟩
theorem turn_dk {P : Program} {w : World} {K : PySem.W.Frag} {tg : Expr} {d : Addr} {n ep : Nat} (it : Addr) : Turn P w K tg (Itdk d n ep) [it] it (fun i h => h.IsKeyIter it d i n ep) where
  mem := by simp
  obj := fun i h st b hb => by
    have e : b = it := by simpa using hb
    subst e
    obtain ⟨oi, e, c, dd⟩ := st
    exact ⟨oi, e, fun v z => by rw [dd] at z; cases z⟩
  keep := fun i h h' st k => st.at fun oi e => k it (by simp) oi e
  item := by
    intro X hP hw hK hc i pins s σ H E I hf st hg
    subst hP hw hK
    obtain ⟨hi, ⟨es', ep', h1, h2⟩, es2, ep2, en, x, h3, h4, h5, h6⟩ := hg
    obtain ⟨rfl, rfl⟩ := dob_inj I h1 h3
    obtain rfl := h2 h4
    obtain ⟨f0, f1, f2, f3, f4, f5⟩ := hf it (by simp)
    obtain ⟨_, _, o, ho, hcd, hd⟩ := dob_at I h1
    refine next_key_item st ho hd (by simpa using h4) (by simpa using h5) fun h' st' sb => ?_
    have I1 : Inv X pins σ H { s with heap := h' } := I.turned (t' := s.toks) (fun b ob hb e => (sb.2 b hb).trans e) f0 f1 f3 f4 f5
    obtain ⟨oi, e, c, dd⟩ := id st'
    exact ⟨_, rfl, go_of (s := { s with heap := h' }) e c dd (by decide) ⟨x, H, I1, h6, ⟨rfl, fun es3 ep3 q => by obtain ⟨rfl, _⟩ := dob_inj I h3 q; exact ⟨en, h5, h6⟩⟩, st', fun b hb => (hf b hb).1⟩⟩
  done := by
    intro X hP hw hK hc i pins s σ H E I hf st hg
    subst hP hw hK
    obtain ⟨hi, ⟨es', ep', h1, h2⟩, es2, ep2, h3, h4⟩ := hg
    obtain ⟨rfl, rfl⟩ := dob_inj I h1 h3
    obtain rfl := h2 h4
    obtain ⟨f0, f1, f2, f3, f4, f5⟩ := hf it (by simp)
    obtain ⟨_, _, o, ho, hcd, hd⟩ := dob_at I h1
    exact next_key_end (I.ok.hd hc) st ho hd (by simpa using h4) hi fun h' eb => ⟨rfl, I.turned (t' := s.toks) (fun b ob hb e => eb b ob hb e) f0 f1 f3 f4 f5⟩
  self := fun A i s Q E st h => wpAny_pyIter_keyiter st h

/-! ### the walks -/
variable {w : World} {K : PySem.W.Frag} {H : Hp} {ι : Pls}
theorem stands_one {S : Sto} {n : Nat} {o : Ob} (h : stands S [(n, o)] = true) : S[n]? = some o := by
  unfold stands at h
  rw [List.all_cons, Bool.and_eq_true] at h
  exact of_decide_eq_true h.1
theorem src_ref {S : Sto} {n : Nat} {o : Ob} (h : S[n]? = some o) : srcOf S (.ref n) = [(n, o)] := by
  show (match S[n]? with | some o => [(n, o)] | none => []) = _
  rw [h]
/-- a value that was a list with these items is one still -/
theorem list_still {S : Sto} {a : W} {ws : List W} {v : V} (rs : RS w K fa H ι S) (h : listOf S a = some ws) (rv : RV w K fa H ι a v) :
    ∃ p, v = .ref p ∧ ∀ H' ι' S', Exh ι H ι' H' → RS w K fa H' ι' S' → stands S' (srcOf S a) = true → ∃ vs, SqL K H' p vs ∧ RVs w K fa H' ι' ws vs := by
  cases a with
  | lst us =>
    obtain rfl : us = ws := by cases h; rfl
    obtain ⟨p, vs, e, hq, r⟩ := listOf_rv rs (show listOf S (.lst us) = some us from rfl) rv
    refine ⟨p, e, fun H' ι' S' x rs' _ => ?_⟩
    have rv' := rv.monoH x
    obtain ⟨p', vs', e', hq', r'⟩ := listOf_rv rs' (show listOf S' (.lst us) = some us from rfl) rv'
    rw [e] at e'; cases e'
    exact ⟨vs', hq', r'⟩
  | ref n =>
    obtain ⟨p, hp, e⟩ := rv_ref.mp rv
    have h0 : (match S[n]? with | some (Ob.lst ws) => some ws | _ => none) = some ws := h
    split at h0
    · rename_i us hn
      cases h0
      refine ⟨p, e, fun H' ι' S' x rs' st => ?_⟩
      rw [src_ref hn] at st
      obtain ⟨vs, h1, h2⟩ := rs'.ob n _ p (stands_one st) (x.pre _ _ hp)
      exact ⟨vs, SqL.of h1, h2⟩
    · cases h0
  | _ => cases h
theorem wk_list {S : Sto} {a : W} {ws : List W} {p : Addr} (rs : RS w K fa H ι S) (h : listOf S a = some ws) (rv : RV w K fa H ι a (.ref p)) : Wk w K fa (Itl K p) ws (srcOf S a) H ι := by
  obtain ⟨p', e, st⟩ := list_still rs h rv
  cases e
  intro H' ι' S' x rs' hs i
  obtain ⟨vs, hq, r⟩ := st H' ι' S' x rs' hs
  refine ⟨fun e => ⟨vs, hq, by rw [e, r.length]; exact Nat.le_refl _⟩, fun b hb => ?_⟩
  obtain ⟨v, hv, rv'⟩ := r.get hb
  refine ⟨⟨vs, v, hq, hv⟩, fun y H'' hy => ?_⟩
  obtain ⟨rfl, hy⟩ := hy
  have := hy vs hq
  rw [hv] at this; cases this
  exact ⟨ι', Ext.refl _ _, rs', rv'⟩
theorem wk_tup {ws : List W} {p : Addr} (rv : RV w K fa H ι (.tup ws) (.ref p)) : Wk w K fa (Itt K p) ws [] H ι := by
  intro H' ι' S' x rs' hs i
  obtain ⟨p', vs, e, hq, r⟩ := rv_tup' (rv.monoH x)
  cases e
  refine ⟨fun e => ⟨vs, hq, by rw [e, r.length]; exact Nat.le_refl _⟩, fun b hb => ?_⟩
  obtain ⟨v, hv, rv'⟩ := r.get hb
  refine ⟨⟨vs, v, hq, hv⟩, fun y H'' hy => ?_⟩
  obtain ⟨rfl, hy⟩ := hy
  have := hy vs hq
  rw [hv] at this; cases this
  exact ⟨ι', Ext.refl _ _, rs', rv'⟩
theorem wk_str {z : Str} (hz : litOk z = true) : Wk w K fa (Its z) (z.cps.toList.map fun c => W.str ⟨#[c]⟩) [] H ι := by
  intro H' ι' S' x rs' hs i
  refine ⟨fun e => ?_, fun b hb => ?_⟩
  · show z.cps.size ≤ i
    rw [e]; simp
  · rw [List.getElem?_map] at hb
    obtain ⟨c, hc, rfl⟩ := Option.map_eq_some_iff.mp hb
    have hi : i < z.cps.size := by
      have := (List.getElem?_eq_some_iff.mp hc).1
      simpa using this
    refine ⟨hi, fun y H'' hy => ?_⟩
    obtain ⟨rfl, c', hc', rfl⟩ := hy
    rw [← Array.getElem?_toList, hc] at hc'
    cases hc'
    exact ⟨ι', Ext.refl _ _, rs', rv_str.mpr ⟨rfl, litOk_one hz (List.mem_of_getElem? hc)⟩⟩
/-- a value that was a dict with these keys is one still -/
theorem dict_still {S : Sto} {a : W} {ks us : List W} {v : V} (rs : RS w K fa H ι S) (h : dictOf S a = some (ks, us)) (rv : RV w K fa H ι a v) :
    ∃ p es ep, v = .ref p ∧ H p = some (dOb p es ep) ∧ p ∉ ι.hd ∧ es.length = ks.length ∧ ∀ H' ι' S', Exh ι H ι' H' → RS w K fa H' ι' S' → stands S' (srcOf S a) = true →
      ∃ es' ep' kvs uvs, H' p = some (dOb p es' ep') ∧ Ents w ks kvs uvs es' ∧ RVs w K fa H' ι' ks kvs ∧ RVs w K fa H' ι' us uvs := by
  cases a with
  | dct ks' us' =>
    cases h
    have rv0 := rv
    simp only [RV] at rv
    obtain ⟨p, es, ep, kvs, uvs, e, h1, hn, h2, h3, h4, h5⟩ := rv
    refine ⟨p, es, ep, e, h1, (Pls.nmem.mp hn).2, (ents_len h2).1.symm, fun H' ι' S' x rs' _ => ?_⟩
    have rv' := rv0.monoH x
    simp only [RV] at rv'
    obtain ⟨p', es', ep', kvs', uvs', e', h1', _, h2', h3', h4', h5'⟩ := rv'
    rw [e] at e'; cases e'
    exact ⟨es', ep', kvs', uvs', h1', h2', h4', h5'⟩
  | ref n =>
    obtain ⟨p, hp, e⟩ := rv_ref.mp rv
    have h0 : (match S[n]? with | some (Ob.dct ks us) => some (ks, us) | _ => none) = some (ks, us) := h
    split at h0
    · rename_i ks' us' hn
      cases h0
      obtain ⟨es, ep, kvs, uvs, h1, h2, h3, h4, h5⟩ := rs.ob n _ p hn hp
      refine ⟨p, es, ep, e, h1, fun m => rs.dj p m (List.mem_of_getElem? hp), (ents_len h2).1.symm, fun H' ι' S' x rs' st => ?_⟩
      rw [src_ref hn] at st
      obtain ⟨es', ep', kvs', uvs', h1', h2', h3', h4', h5'⟩ := rs'.ob n _ p (stands_one st) (x.pre _ _ hp)
      exact ⟨es', ep', kvs', uvs', h1', h2', h4', h5'⟩
    · cases h0
  | _ => cases h
theorem wk_dk {S : Sto} {a : W} {ks us : List W} {p : Addr} (rs : RS w K fa H ι S) (h : dictOf S a = some (ks, us)) (rv : RV w K fa H ι a (.ref p)) : ∃ es ep, H p = some (dOb p es ep) ∧ es.length = ks.length ∧ Wk w K fa (Itdk p es.length ep) ks (srcOf S a) H ι := by
  obtain ⟨p', es, ep, e, h1, hnh, hl, st⟩ := dict_still rs h rv
  cases e
  refine ⟨es, ep, h1, hl, ?_⟩
  intro H' ι' S' x rs' hs i
  obtain ⟨es2, ep2, kvs, uvs, h2, en, r1, r2⟩ := st H' ι' S' x rs' hs
  obtain ⟨es3, ep3, h3, l3, q3⟩ := x.dk p es ep hnh h1
  have hl2 := (ents_len en).1
  refine ⟨fun e => ⟨by rw [e, hl]; exact Nat.le_refl _, ⟨es3, ep3, h3, q3⟩, es2, ep2, h2, by rw [← hl2, hl]⟩, fun b hb => ?_⟩
  have hi : i < ks.length := (List.getElem?_eq_some_iff.mp hb).1
  have hi2 : i < es2.length := by omega
  obtain ⟨k, kv, uv, e1, e2, e4, e5, e6, e7⟩ := ents_get en (List.getElem?_eq_getElem hi2)
  rw [hb] at e1; cases e1
  obtain ⟨v, hv, rv'⟩ := r1.get hb
  rw [e2] at hv; cases hv
  refine ⟨⟨by omega, ⟨es3, ep3, h3, q3⟩, es2, ep2, _, kv, h2, by omega, List.getElem?_eq_getElem hi2, e6⟩, fun y H'' hy => ?_⟩
  obtain ⟨rfl, hy⟩ := hy
  obtain ⟨en', g1, g2⟩ := hy es2 ep2 h2
  rw [List.getElem?_eq_getElem hi2] at g1; cases g1
  have : y = kv := g2.inj e6
  subst this
  exact ⟨ι', Ext.refl _ _, rs', rv'⟩

/-- for x in e, e any value that is walked -/
theorem i_iter {tg e : Expr} {m : Rho → M W} (he : PE X e (rV X.w X.K fa m)) : PI X tg e (rI X.w X.K fa fun ρ => do let x ← m ρ; wIter x) := by
  refine ⟨fun pins s σ H R I ⟨ι, ρ, S, xs, src, S', rs, rr, hm, q⟩ => ?_⟩
  obtain ⟨a, S1, h1, hm1⟩ := bindM hm
  refine thn (he.run pins s σ H (fun v H1 => ∃ ι1, Ext ι H ι1 H1 ∧ RS X.w X.K fa H1 ι1 S1 ∧ RV X.w X.K fa H1 ι1 a v) I ⟨ι, ρ, S, a, S1, rs, rr, h1, fun v H1 ι1 x1 rs1 rv1 => ⟨ι1, x1, rs1, rv1⟩⟩) fun u s1 ⟨v, H1, I1, r1, ι1, x1, rs1, rv1⟩ => ?_
  unfold wIter at hm1
  split at hm1
  · rename_i z _
    cases hm1
    obtain ⟨rfl, hz⟩ := rv_str.mp rv1
    obtain ⟨t, rfl⟩ := r1
    have qq := q (Its z) H1 ι1 x1 rs1 (by have := litOk_len hz; simpa [Str.length] using this) (wk_str hz)
    cases ha : z.cps.all (· < 128)
    · exact wpAny_pyIter_wide ha (pi_one (tk := s1.toks) I1 _ (turn_str _ z t "str_iterator" (.inr rfl)) ⟨_, Heap.get?_push_size _ rfl, rfl, rfl⟩ qq)
    · exact wpAny_pyIter_ascii ha (pi_one (tk := s1.toks) I1 _ (turn_str _ z t "str_ascii_iterator" (.inl rfl)) ⟨_, Heap.get?_push_size _ rfl, rfl, rfl⟩ qq)
  · split at hm1
    · rename_i ks us hd
      cases hm1
      obtain ⟨p, es, ep, kvs, uvs, rfl, hp, en, nd, _, _⟩ := dictOf_rv rs1 hd rv1
      obtain rfl : u = Value.ref p := r1
      obtain ⟨es', ep', h1', hl, wk⟩ := wk_dk rs1 hd rv1
      obtain ⟨g1, g2, o, ho, hc, hdt⟩ := dob_at I1 h1'
      have qq := q _ H1 ι1 x1 rs1 (by rw [← hl]; exact g2) wk
      refine iter_keys g1 ho hc hdt (pi_one (tk := s1.toks) I1 _ (turn_dk _) ⟨_, Heap.get?_push_size _ rfl, rfl, ?_⟩ qq)
      simp
    · split at hm1
      · rename_i ws hw
        cases hm1
        cases hl : listOf S' a with
        | some ws' =>
          have e0 := listOf_seq hl
          rw [hw] at e0; cases e0
          obtain ⟨p, vs, rfl, hq, r⟩ := listOf_rv rs1 hl rv1
          obtain rfl : u = Value.ref p := r1
          have hq' : SqL X.K H1 p vs := hq
          obtain ⟨its, rv, pl, hz⟩ := I1.list hq'
          have qq := q _ H1 ι1 x1 rs1 (by rw [r.length]; exact hz) (wk_list rs1 hl rv1)
          exact wpAny_pyIter_list pl.isList (pi_one (tk := s1.toks) I1 _ (turn_list p _) ⟨_, Heap.get?_push_size _ rfl, rfl, rfl⟩ qq)
        | none =>
          cases a with
          | tup us =>
            cases hw
            obtain ⟨p, vs, rfl, hq, r⟩ := rv_tup' rv1
            obtain rfl : u = Value.ref p := r1
            obtain ⟨its, rv, pl, hz⟩ := I1.tuple hq
            have qq := q _ H1 ι1 x1 rs1 (by rw [r.length]; exact hz) (wk_tup rv1)
            exact wpAny_pyIter_tuple (show s1.heap.IsTuple p its.toArray from pl) (pi_one (tk := s1.toks) I1 _ (turn_tuple p _) ⟨_, Heap.get?_push_size _ rfl, rfl, rfl⟩ qq)
          | lst us => cases hl
          | ref n =>
            have hw : listOf S' (.ref n) = some _ := hw
            rw [hl] at hw; cases hw
          | _ => cases hw
      · cases hm1
theorem wk_range {lo : Int} {n : Nat} : Wk w K fa (Itr lo n) ((List.range n).map fun k => W.int (lo + Int.ofNat k)) [] H ι := by
  intro H' ι' S' x rs' hs i
  refine ⟨fun e => ?_, fun b hb => ?_⟩
  · show n ≤ i
    rw [e]; simp
  · rw [List.getElem?_map] at hb
    obtain ⟨c, hc, rfl⟩ := Option.map_eq_some_iff.mp hb
    have hi : i < n := by
      have := (List.getElem?_eq_some_iff.mp hc).1
      simpa using this
    have : c = i := by simpa [hi] using hc.symm
    subst this
    refine ⟨hi, fun y H'' hy => ?_⟩
    obtain ⟨rfl, rfl⟩ := hy
    exact ⟨ι', Ext.refl _ _, rs', rv_int.mpr rfl⟩
theorem i_rng1 {tg a : Expr} {p pos : Pos} {m : Rho → M W} (hg : Gl X "range") (hm : X.mg "range" = none) (hs : isStar a = false) (ha : PE X a (rV X.w X.K fa m)) : PI X tg (.Call (.Name "range" p) [a] [] pos) (rI X.w X.K fa fun ρ => do let x ← m ρ; wRng1 x) :=
  PIimp (pi_range1 hg hm (ev_cons ha ev_nil (star_no hs)) (by rw [star_no hs]; rfl)) fun σ H R ⟨ι, ρ, S, xs, src, S', rs, rr, hm, q⟩ => by
    obtain ⟨x, S1, h1, hm1⟩ := bindM hm
    refine ⟨ι, ρ, S, [x], S1, rs, rr, by show (m ρ >>= _) S = _; rw [bind_some h1]; rfl, fun vs H1 ι1 x1 rs1 rv1 => ?_⟩
    unfold wRng1 at hm1
    split at hm1
    · rename_i n
      split at hm1
      · rename_i hn
        have e : some (((List.range n.toNat).map fun (i : Nat) => W.int (Int.ofNat i), ([] : List (Nat × Ob))), S1) = some ((xs, src), S') := hm1
        cases e
        obtain ⟨v, vs', rfl, r1, r2⟩ := rv1.cons_inv
        obtain rfl := r2.nil_inv
        rw [rv_int] at r1
        subst r1
        refine ⟨n, rfl, by omega, by omega, q _ H1 ι1 x1 rs1 ?_ ?_⟩
        · rw [List.length_map, List.length_range, sizeLine_eq]; omega
        · have := wk_range (w := X.w) (K := X.K) (fa := fa) (H := H1) (ι := ι1) (lo := 0) (n := n.toNat)
          simpa using this
      · cases hm1
    · cases hm1
theorem i_rng2 {tg a b : Expr} {p pos : Pos} {m m' : Rho → M W} (hg : Gl X "range") (hm : X.mg "range" = none) (hs : isStar a = false) (hs' : isStar b = false) (ha : PE X a (rV X.w X.K fa m)) (hb : PE X b (rV X.w X.K fa m')) :
    PI X tg (.Call (.Name "range" p) [a, b] [] pos) (rI X.w X.K fa fun ρ => do let x ← m ρ; let y ← m' ρ; wRng2 x y) :=
  PIimp (pi_range2 hg hm (ev_cons ha (ev_cons hb ev_nil (star_no hs')) (star_no hs)) (by rw [star_no hs, star_no hs']; rfl) (by rw [star_no hs']; rfl)) fun σ H R ⟨ι, ρ, S, xs, src, S', rs, rr, hm, q⟩ => by
    obtain ⟨x, S1, h1, hm1⟩ := bindM hm
    obtain ⟨y, S2, h2, hm2⟩ := bindM hm1
    refine ⟨ι, ρ, S, [x, y], S2, rs, rr, by show (m ρ >>= _) S = _; rw [bind_some h1]; show ((m' ρ >>= _) >>= _) S1 = _; rw [bind_some (bind_some h2)]; rfl, fun vs H1 ι1 x1 rs1 rv1 => ?_⟩
    unfold wRng2 at hm2
    split at hm2
    · rename_i i j
      split at hm2
      · rename_i hn
        have e : some (((List.range (j - i).toNat).map fun (k : Nat) => W.int (i + Int.ofNat k), ([] : List (Nat × Ob))), S2) = some ((xs, src), S') := hm2
        cases e
        obtain ⟨v, vs', rfl, r1, r2⟩ := rv1.cons_inv
        obtain ⟨v', vs2, rfl, r1', r2'⟩ := r2.cons_inv
        obtain rfl := r2'.nil_inv
        rw [rv_int] at r1 r1'
        subst r1 r1'
        refine ⟨i, j, rfl, by omega, q _ H1 ι1 x1 rs1 ?_ wk_range⟩
        rw [List.length_map, List.length_range, sizeLine_eq]; omega
      · cases hm2
    · cases hm2
end
end TS

set_option Elab.async false
set_option linter.all false
set_option maxRecDepth 100000
/-! A11: comprehensions of lists, loops. -/
namespace TS
open PySem L2 StX PyProof.Rows

section
variable {α : Type}
theorem compL_nil {src : List (Nat × Ob)} {f : W → M (List α)} {S S' : Sto} {r : List α} (h : compL src f [] S = some (r, S')) : stands S src = true ∧ r = [] ∧ S' = S := by
  unfold compL at h
  split at h
  · cases h; exact ⟨by assumption, rfl, rfl⟩
  · cases h
theorem compL_cons {src : List (Nat × Ob)} {f : W → M (List α)} {x : W} {xs : List W} {S S' : Sto} {r : List α} (h : compL src f (x :: xs) S = some (r, S')) : stands S src = true ∧ ∃ ys S1 zs, f x S = some (ys, S1) ∧ compL src f xs S1 = some (zs, S') ∧ r = ys ++ zs := by
  unfold compL at h
  split at h
  · rename_i hs
    refine ⟨hs, ?_⟩
    cases e : f x S with
    | none => rw [e] at h; cases h
    | some p =>
      obtain ⟨ys, S1⟩ := p
      rw [e] at h
      simp only at h
      cases e2 : compL src f xs S1 with
      | none => rw [e2] at h; cases h
      | some q =>
        obtain ⟨zs, S2⟩ := q
        rw [e2] at h
        cases h
        exact ⟨ys, S1, zs, rfl, e2, rfl⟩
  · cases h
theorem turnOfM {t : P} {vs : List Nat} {ρ : Rho} {c e : Dn} {x : W} {S S' : Sto} {r : List W} (h : turnOf t vs ρ c e x S = some (r, S')) : ∃ ρ' b S1, P.put t x (wipeR ρ vs) = some ρ' ∧ truth (c.v ρ') S = some (b, S1) ∧
    ((b = true ∧ ∃ y, e.v ρ' S1 = some (y, S') ∧ r = [y]) ∨ (b = false ∧ S' = S1 ∧ r = [])) := by
  unfold turnOf at h
  split at h
  · rename_i ρ' hp
    split at h
    · rename_i S1 ht
      split at h
      · rename_i w S2 hv
        cases h
        exact ⟨ρ', true, S1, hp, ht, .inl ⟨rfl, w, hv, rfl⟩⟩
      · cases h
    · rename_i S1 ht
      cases h
      exact ⟨ρ', false, _, hp, ht, .inr ⟨rfl, rfl, rfl⟩⟩
    · cases h
  · cases h
theorem turn2M {t : P} {vs vs1 : List Nat} {ρ : Rho} {c : Dn} {t1 : P} {it1 c1 e : Dn} {x : W} {S S' : Sto} {r : List W} (h : turn2 t vs vs1 ρ c t1 it1 c1 e x S = some (r, S')) : ∃ ρ' b S1, P.put t x (wipeR ρ vs) = some ρ' ∧ truth (c.v ρ') S = some (b, S1) ∧
    ((b = true ∧ ∃ xs src S2, it1.it ρ' S1 = some ((xs, src), S2) ∧ compL src (turnOf t1 vs1 ρ' c1 e) xs S2 = some (r, S')) ∨ (b = false ∧ S' = S1 ∧ r = [])) := by
  unfold turn2 at h
  split at h
  · rename_i ρ' hp
    split at h
    · rename_i S1 ht
      split at h
      · rename_i xs src S2 hv
        exact ⟨ρ', true, S1, hp, ht, .inl ⟨rfl, xs, src, S2, hv, h⟩⟩
      · cases h
    · rename_i S1 ht
      cases h
      exact ⟨ρ', false, _, hp, ht, .inr ⟨rfl, rfl, rfl⟩⟩
    · cases h
  · cases h
end

section
variable {X : Cx} {fa : Nat → Option Addr}
/-- the list in the making at D, from the base ι1, H1 -/
structure Mk (w : World) (K : PySem.W.Frag) (fa : Nat → Option Addr) (ι1 : Pls) (H1 : Hp) (D : Addr) (ι2 : Pls) (H2 : Hp) (S2 : Sto) (ws : List W) : Prop where
  xh : Exh ι1 H1 ι2 H2
  ex : Ext ι1 H1 ι2.show H2
  rs : RS w K fa H2 ι2 S2
  hd : ι2.hd = D :: ι1.hd
  at_ : ∃ vs, H2 D = some (.lst vs) ∧ RVs w K fa H2 ι2 ws vs
section
variable {w : World} {K : PySem.W.Frag} {ι1 ι2 : Pls} {H1 H2 : Hp} {D : Addr} {S2 : Sto} {ws : List W}
theorem Mk.start (rs : RS w K fa H1 ι1 S2) (hD : H1 D = none) : Mk w K fa ι1 H1 D (ι1.hide D) (upd H1 D (.lst [])) S2 [] :=
  ⟨exh_hide hD, (show Ext ι1 H1 ι1 _ from ext_new hD), rs.hide hD, rfl, [], upd_same, .nil⟩
theorem Mk.step {ι3 : Pls} {H3 : Hp} {S3 : Sto} (m : Mk w K fa ι1 H1 D ι2 H2 S2 ws) (x : Ext ι2 H2 ι3 H3) (rs : RS w K fa H3 ι3 S3) : Mk w K fa ι1 H1 D ι3 H3 S3 ws := by
  obtain ⟨vs, h1, h2⟩ := m.at_
  have nd : D ∉ ι2.pl := m.rs.dj D (by rw [m.hd]; exact List.mem_cons_self)
  exact ⟨m.xh.trans x.exh, m.ex.trans x.show, rs, x.hid.trans m.hd, vs, x.keep D _ h1 nd, h2.mono x⟩
theorem Mk.app {y : W} {v : V} (m : Mk w K fa ι1 H1 D ι2 H2 S2 ws) (hD : H1 D = none) (r : RV w K fa H2 ι2 y v) : ∃ acc, H2 D = some (.lst acc) ∧ acc.length = ws.length ∧ Mk w K fa ι1 H1 D ι2 (upd H2 D (.lst (acc ++ [v]))) S2 (ws ++ [y]) := by
  obtain ⟨vs, h1, h2⟩ := m.at_
  have hm : D ∈ ι2.hd := by rw [m.hd]; exact List.mem_cons_self
  have xw : Exh ι2 H2 ι2 (upd H2 D (.lst (vs ++ [v]))) := exh_write hm
  exact ⟨vs, h1, h2.length.symm, m.xh.trans xw, m.ex.wr hD, m.rs.write hm, m.hd, _, upd_same, (h2.monoH xw).append (.cons (r.monoH xw) .nil)⟩
theorem Mk.fin {Q : VK} {S : Sto} {xs : List W} {ι : Pls} {H : Hp} (m : Mk w K fa ι1 H1 D ι2 H2 S2 ws) (x : Ext ι H ι1 H1) (hD : H1 D = none) (rs1 : RS w K fa H1 ι1 S) (q : After w K fa ι H (.lst ws) S2 Q) : Q (.ref D) H2 := by
  obtain ⟨vs, h1, h2⟩ := m.at_
  refine q _ H2 ι2.show (x.trans m.ex) m.rs.show ?_
  simp only [RV]
  refine ⟨D, vs, rfl, .inl ⟨.inl h1, ?_⟩, h2.monoH exh_show⟩
  rw [Pls.nmem]
  refine ⟨m.rs.dj D (by rw [m.hd]; exact List.mem_cons_self), ?_⟩
  show D ∉ ι2.hd.tail
  rw [m.hd]
  exact fun z => rs1.hid D z hD
end
theorem lc_read {t : P} {vs : List Nat} {it c e : Dn} (hsub : ∀ i ∈ t.slots, i ∈ vs) (σ : L2.St) (H : Hp) (Q : VK) (h : rV X.w X.K fa (fun ρ => do
      let p ← it.it ρ
      let ws ← compL p.2 (turnOf t vs ρ c e) p.1
      pure (.lst ws)) σ H Q) : tLc (rI X.w X.K fa it.it) (rP X.w X.K fa t) (rB X.w X.K fa fun ρ => truth (c.v ρ)) (rV X.w X.K fa e.v) vs σ H Q := by
  obtain ⟨ι, ρ, S, r, S', rs, rr, hm, q⟩ := h
  obtain ⟨⟨xs, src⟩, S1, h1, hm1⟩ := bindM hm
  obtain ⟨total, S2, h2, hm2⟩ := bindM hm1
  obtain ⟨rfl, rfl⟩ := retM hm2
  clear hm hm1 hm2
  refine ⟨ι, ρ, S, xs, src, S1, rs, rr, h1, fun J H1 ι1 x1 rs1 hlen wk D hD => ?_⟩
  refine ⟨fun i m Hc => m = xs.length - i ∧ i ≤ xs.length ∧ ∃ ι2 S2 ws zs, Mk X.w X.K fa ι1 H1 D ι2 Hc S2 ws ∧ ws.length ≤ i ∧ compL src (turnOf t vs ρ c e) (xs.drop i) S2 = some (zs, S') ∧ ws ++ zs = total,
    ⟨xs.length, by simp, Nat.zero_le _, ι1.hide D, S1, [], total, .start rs1 hD, Nat.le_refl _, by simpa using h2, rfl⟩, ?_⟩
  rintro i m Hc ⟨rfl, hi, ι2, S2, ws, zs, mk, hl, hc, ht⟩
  by_cases hlt : i < xs.length
  · right
    have hx : xs[i]? = some xs[i] := List.getElem?_eq_getElem hlt
    rw [List.drop_eq_getElem_cons hlt] at hc
    obtain ⟨hs, ys, S3, zs', hf, hc', rfl⟩ := compL_cons hc
    obtain ⟨_, hw⟩ := wk Hc ι2 S2 mk.xh mk.rs hs i
    obtain ⟨hgo, hy⟩ := hw _ hx
    refine ⟨hgo, fun H' => ∃ ι2 S2 ws zs, Mk X.w X.K fa ι1 H1 D ι2 H' S2 ws ∧ ws.length ≤ i + 1 ∧ compL src (turnOf t vs ρ c e) (xs.drop (i + 1)) S2 = some (zs, S') ∧ ws ++ zs = total, fun H' p => ⟨xs.length - (i + 1), by omega, rfl, hlt, p⟩, fun x H' y => ?_⟩
    obtain ⟨ι3, x3, rs3, rv3⟩ := hy x H' y
    have mk3 := mk.step x3 rs3
    obtain ⟨ρ', b, S4, hp, htr, hb⟩ := turnOfM hf
    refine ⟨ι3, wipeR ρ vs, S2, xs[i], ρ', rs3, ((rr.mono x1).monoH mk3.xh).wipe vs, rv3, hp, fun σ2 rr2 sw => ⟨?_, ?_⟩⟩
    · have hh := sw.wipe (vs := vs) hsub
      rw [hh]
      apply List.ext_getElem?
      intro j
      by_cases hj : j ∈ vs
      · by_cases hjl : j < σ.length
        · rw [wipe_at hj (by rw [wipe_length]; exact hjl), wipe_at hj hjl]
        · rw [List.getElem?_eq_none (by rw [wipe_length, wipe_length]; omega), List.getElem?_eq_none (by rw [wipe_length]; omega)]
      · rw [wipe_out hj]
    · refine ⟨ι3, ρ', S2, b, S4, rs3, rr2, htr, fun H4 ι4 x4 rs4 => ?_⟩
      have mk4 := mk3.step x4 rs4
      rcases hb with ⟨rfl, yv, he, rfl⟩ | ⟨rfl, rfl, rfl⟩
      · show if true = true then _ else _; rw [if_pos rfl]
        refine ⟨ι4, ρ', S4, yv, S3, rs4, rr2.mono x4, he, fun v H5 ι5 x5 rs5 rv5 => ?_⟩
        obtain ⟨acc, a1, a2, mk6⟩ := (mk4.step x5 rs5).app hD rv5
        refine ⟨acc, a1, by omega, ι5, S3, ws ++ [yv], zs', mk6, by simp; omega, hc', by rw [← ht]; simp⟩
      · show if false = true then _ else _; rw [if_neg Bool.false_ne_true]
        exact ⟨ι4, S3, ws, zs', mk4, by omega, hc', by rw [← ht]; rfl⟩
  · left
    have e : i = xs.length := by omega
    subst e
    rw [List.drop_length] at hc
    obtain ⟨hs, rfl, rfl⟩ := compL_nil hc
    obtain ⟨hst, _⟩ := wk Hc ι2 _ mk.xh mk.rs hs xs.length
    refine ⟨hst rfl, ?_⟩
    rw [List.append_nil] at ht
    subst ht
    exact mk.fin (xs := xs) x1 hD rs1 q
theorem lc2_read {t t1 : P} {vs vs1 : List Nat} {it c it1 c1 e : Dn} (hsub : ∀ i ∈ t.slots, i ∈ vs) (hsub1 : ∀ i ∈ t1.slots, i ∈ vs1) (σ : L2.St) (H : Hp) (Q : VK) (h : rV X.w X.K fa (fun ρ => do
      let p ← it.it ρ
      let ws ← compL p.2 (turn2 t vs vs1 ρ c t1 it1 c1 e) p.1
      M.fits ws.length
      pure (.lst ws)) σ H Q) : tLc2 (rI X.w X.K fa it.it) (rP X.w X.K fa t) (rB X.w X.K fa fun ρ => truth (c.v ρ)) (rI X.w X.K fa it1.it) (rP X.w X.K fa t1) (rB X.w X.K fa fun ρ => truth (c1.v ρ)) (rV X.w X.K fa e.v) vs vs1 σ H Q := by
  obtain ⟨ι, ρ, S, r, S', rs, rr, hm, q⟩ := h
  obtain ⟨⟨xs, src⟩, S1, h1, hm1⟩ := bindM hm
  obtain ⟨total, S2b, h2, hm2⟩ := bindM hm1
  obtain ⟨_, SE, h2b, hm3⟩ := bindM hm2
  obtain ⟨rfl, rfl⟩ := retM hm3
  obtain ⟨hfit, hSE⟩ := grdM h2b
  rw [hSE] at q
  clear hSE
  have hfit : total.length ≤ sizeLine := by rw [← lineN_eq]; exact of_decide_eq_true hfit
  clear hm hm1 hm2 hm3
  refine ⟨ι, ρ, S, xs, src, S1, rs, rr, h1, fun J H1 ι1 x1 rs1 hlen wk D hD => ?_⟩
  refine ⟨fun i m Hc => m = xs.length - i ∧ i ≤ xs.length ∧ ∃ ι2 S2 ws zs, Mk X.w X.K fa ι1 H1 D ι2 Hc S2 ws ∧ compL src (turn2 t vs vs1 ρ c t1 it1 c1 e) (xs.drop i) S2 = some (zs, S2b) ∧ ws ++ zs = total,
    ⟨xs.length, by simp, Nat.zero_le _, ι1.hide D, S1, [], total, .start rs1 hD, by simpa using h2, rfl⟩, ?_⟩
  rintro i m Hc ⟨rfl, hi, ι2, S2, ws, zs, mk, hc, ht⟩
  by_cases hlt : i < xs.length
  · right
    have hx : xs[i]? = some xs[i] := List.getElem?_eq_getElem hlt
    rw [List.drop_eq_getElem_cons hlt] at hc
    obtain ⟨hs, ys, S3, zs', hf, hc', rfl⟩ := compL_cons hc
    obtain ⟨_, hw⟩ := wk Hc ι2 S2 mk.xh mk.rs hs i
    obtain ⟨hgo, hy⟩ := hw _ hx
    refine ⟨hgo, fun H' => ∃ ι2 S2 ws zs, Mk X.w X.K fa ι1 H1 D ι2 H' S2 ws ∧ compL src (turn2 t vs vs1 ρ c t1 it1 c1 e) (xs.drop (i + 1)) S2 = some (zs, S2b) ∧ ws ++ zs = total, fun H' p => ⟨xs.length - (i + 1), by omega, rfl, hlt, p⟩, fun x H' y => ?_⟩
    obtain ⟨ι3, x3, rs3, rv3⟩ := hy x H' y
    have mk3 := mk.step x3 rs3
    obtain ⟨ρ', b, S4, hp, htr, hb⟩ := turn2M hf
    refine ⟨ι3, wipeR ρ vs, S2, xs[i], ρ', rs3, ((rr.mono x1).monoH mk3.xh).wipe vs, rv3, hp, fun σ2 rr2 sw => ⟨?_, ?_⟩⟩
    · have hh := sw.wipe (vs := vs) hsub
      rw [hh]
      apply List.ext_getElem?
      intro j
      by_cases hj : j ∈ vs
      · by_cases hjl : j < σ.length
        · rw [wipe_at hj (by rw [wipe_length]; exact hjl), wipe_at hj hjl]
        · rw [List.getElem?_eq_none (by rw [wipe_length, wipe_length]; omega), List.getElem?_eq_none (by rw [wipe_length]; omega)]
      · rw [wipe_out hj]
    · refine ⟨ι3, ρ', S2, b, S4, rs3, rr2, htr, fun H4 ι4 x4 rs4 => ?_⟩
      have mk4 := mk3.step x4 rs4
      rcases hb with ⟨rfl, xs1, src1, S5, hi1, hc1⟩ | ⟨rfl, rfl, rfl⟩
      · show if true = true then _ else _; rw [if_pos rfl]
        refine ⟨ι4, ρ', S4, xs1, src1, S5, rs4, rr2.mono x4, hi1, fun J1 H5 ι5 x5 rs5 hlen1 wk1 => ?_⟩
        have mk5 := mk4.step x5 rs5
        have rr5 := (rr2.mono x4).mono x5
        -- the inner walk: ys = vs' ++ us'
        refine ⟨fun j m Hd => m = xs1.length - j ∧ j ≤ xs1.length ∧ ∃ ι6 S6 ws1 us, Exh ι5 H5 ι6 Hd ∧ Mk X.w X.K fa ι1 H1 D ι6 Hd S6 (ws ++ ws1) ∧ compL src1 (turnOf t1 vs1 ρ' c1 e) (xs1.drop j) S6 = some (us, S3) ∧ ws1 ++ us = ys,
          ⟨xs1.length, by simp, Nat.zero_le _, ι5, S5, [], ys, (Ext.refl _ _).exh, by simpa using mk5, by simpa using hc1, rfl⟩, ?_⟩
        rintro j m Hd ⟨rfl, hj, ι6, S6, ws1, us, xh6, mk6, hc6, ht6⟩
        by_cases hlt1 : j < xs1.length
        · right
          have hx1 : xs1[j]? = some xs1[j] := List.getElem?_eq_getElem hlt1
          rw [List.drop_eq_getElem_cons hlt1] at hc6
          obtain ⟨hs1, ys1, S7, us', hf1, hc7, rfl⟩ := compL_cons hc6
          obtain ⟨_, hw1⟩ := wk1 Hd ι6 S6 xh6 mk6.rs hs1 j
          obtain ⟨hgo1, hy1⟩ := hw1 _ hx1
          refine ⟨hgo1, fun H' => ∃ ι6 S6 ws1 us, Exh ι5 H5 ι6 H' ∧ Mk X.w X.K fa ι1 H1 D ι6 H' S6 (ws ++ ws1) ∧ compL src1 (turnOf t1 vs1 ρ' c1 e) (xs1.drop (j + 1)) S6 = some (us, S3) ∧ ws1 ++ us = ys, fun H' p => ⟨xs1.length - (j + 1), by omega, rfl, hlt1, p⟩, fun x H' y => ?_⟩
          obtain ⟨ι7, x7, rs7, rv7⟩ := hy1 x H' y
          have mk7 := mk6.step x7 rs7
          have xh7 := xh6.trans x7.exh
          obtain ⟨ρ1, b1, S8, hp1, htr1, hb1⟩ := turnOfM hf1
          refine ⟨ι7, wipeR ρ' vs1, S6, xs1[j], ρ1, rs7, (rr5.monoH xh7).wipe vs1, rv7, hp1, fun σ3 rr3 sw3 => ⟨?_, ?_⟩⟩
          · have hh := sw3.wipe (vs := vs1) hsub1
            rw [hh]
            apply List.ext_getElem?
            intro k
            by_cases hk : k ∈ vs1
            · by_cases hkl : k < σ2.length
              · rw [wipe_at hk (by rw [wipe_length]; exact hkl), wipe_at hk hkl]
              · rw [List.getElem?_eq_none (by rw [wipe_length, wipe_length]; omega), List.getElem?_eq_none (by rw [wipe_length]; omega)]
            · rw [wipe_out hk]
          · refine ⟨ι7, ρ1, S6, b1, S8, rs7, rr3, htr1, fun H8 ι8 x8 rs8 => ?_⟩
            have mk8 := mk7.step x8 rs8
            have xh8 := xh7.trans x8.exh
            rcases hb1 with ⟨rfl, yv, he, rfl⟩ | ⟨rfl, rfl, rfl⟩
            · show if true = true then _ else _; rw [if_pos rfl]
              refine ⟨ι8, ρ1, S8, yv, S7, rs8, rr3.mono x8, he, fun v H9 ι9 x9 rs9 rv9 => ?_⟩
              have mk9 := mk8.step x9 rs9
              obtain ⟨acc, a1, a2, mk10⟩ := mk9.app hD rv9
              have hm : D ∈ ι9.hd := by rw [mk9.hd]; exact List.mem_cons_self
              have hlt9 : (ws ++ ws1).length < total.length := by
                rw [← ht, ← ht6]; simp <;> omega
              refine ⟨acc, a1, by omega, ι9, S7, ws1 ++ [yv], us', (xh8.trans x9.exh).trans (exh_write hm), by rw [← List.append_assoc]; exact mk10, hc7, by rw [← ht6]; simp⟩
            · show if false = true then _ else _; rw [if_neg Bool.false_ne_true]
              exact ⟨ι8, S7, ws1, us', xh8, mk8, hc7, by rw [← ht6]; rfl⟩
        · left
          have e1 : j = xs1.length := by omega
          subst e1
          rw [List.drop_length] at hc6
          obtain ⟨hs1, rfl, rfl⟩ := compL_nil hc6
          obtain ⟨hst1, _⟩ := wk1 Hd ι6 _ xh6 mk6.rs hs1 xs1.length
          rw [List.append_nil] at ht6
          subst ht6
          exact ⟨hst1 rfl, ι6, _, ws ++ ws1, zs', mk6, hc', by rw [← ht]; simp⟩
      · show if false = true then _ else _; rw [if_neg Bool.false_ne_true]
        exact ⟨ι4, S3, ws, zs', mk4, hc', by rw [← ht]; rfl⟩
  · left
    have e : i = xs.length := by omega
    subst e
    rw [List.drop_length] at hc
    obtain ⟨hs, rfl, rfl⟩ := compL_nil hc
    obtain ⟨hst, _⟩ := wk Hc ι2 _ mk.xh mk.rs hs xs.length
    refine ⟨hst rfl, ?_⟩
    rw [List.append_nil] at ht
    subst ht
    exact mk.fin (xs := xs) x1 hD rs1 q
end
end TS

set_option Elab.async false
set_option linter.all false
set_option maxRecDepth 100000
/-! A12: statements. -/
namespace TS
open PySem L2 StX PyProof.Rows

section
variable (w : World) (K : PySem.W.Frag) (fa : Nat → Option Addr)
/-- what is owed behind a statement -/
def Owed (D : Ends) (ι : Pls) (H : Hp) (fl : Fl) (ρ' : Rho) (S' : Sto) : Prop := ∀ H' ι' σ', Ext ι H ι' H' → RS w K fa H' ι' S' → RR w K fa H' ι' ρ' σ' → match fl with
  | .nx => D.nx σ' H'
  | .brk => D.bk σ' H'
  | .cont => D.ct σ' H'
  | .ret a => ∀ v, RV w K fa H' ι' a v → D.rt v H'
abbrev StF := Rho → Sto → Option (Fl × Rho × Sto)
def rC (f : StF) : TS := fun D σ H => ∃ ι ρ S fl ρ' S', RS w K fa H ι S ∧ RR w K fa H ι ρ σ ∧ f ρ S = some (fl, ρ', S') ∧ Owed w K fa D ι H fl ρ' S'
/-- a target: what it leaves -/
abbrev TgF := W → Rho → Sto → Option (Rho × Sto)
def rT (f : TgF) : TG := fun v σ H Q => ∃ ι ρ S a ρ' S', RS w K fa H ι S ∧ RR w K fa H ι ρ σ ∧ RV w K fa H ι a v ∧ f a ρ S = some (ρ', S') ∧ ∀ H' ι' σ', Ext ι H ι' H' → RS w K fa H' ι' S' → RR w K fa H' ι' ρ' σ' → Q σ' H'
abbrev TgsF := List W → Rho → Sto → Option (Rho × Sto)
def rTs (f : TgsF) : TGs := fun vs σ H Q => ∃ ι ρ S as ρ' S', RS w K fa H ι S ∧ RR w K fa H ι ρ σ ∧ RVs w K fa H ι as vs ∧ f as ρ S = some (ρ', S') ∧ ∀ H' ι' σ', Ext ι H ι' H' → RS w K fa H' ι' S' → RR w K fa H' ι' ρ' σ' → Q σ' H'
end
section
variable {w : World} {K : PySem.W.Frag} {fa : Nat → Option Addr}
theorem Owed.mono {D : Ends} {ι ι1 : Pls} {H H1 : Hp} {fl : Fl} {ρ' : Rho} {S' : Sto} (h : Owed w K fa D ι H fl ρ' S') (x : Ext ι H ι1 H1) : Owed w K fa D ι1 H1 fl ρ' S' :=
  fun H' ι' σ' y rs rr => h H' ι' σ' (x.trans y) rs rr
end

section
variable {X : Cx} {fa : Nat → Option Addr} {gc : Nat → W} {cf : Nat → List W → M W} {pos : Pos}
/-! ### targets -/
theorem t_nm {i : Nat} {x : Str} (hN : X.N.Nodup) (hi : X.N[i]? = some x) (hx : Loc X.env.scope x) (hf : X.fn x = true ∨ X.env.scope.names.lookup x = some .local) : PG X (.Name x pos) (rT X.w X.K fa (T.put gc cf (.nm i))) :=
  PGimp (pg_name hN hi hx hf) fun v σ H Q ⟨ι, ρ, S, a, ρ', S', rs, rr, rv, hp, q⟩ => by
    have e : some (ρ.set i (some a), S) = some (ρ', S') := by simpa only [T.put] using hp
    cases e
    exact q H ι _ (Ext.refl _ _) rs (rr.set rv i)
theorem ts_nil : PGs X [] (rTs X.w X.K fa (T.puts gc cf .nil)) := PGsimp pgs_nil fun vs σ H Q ⟨ι, ρ, S, as, ρ', S', rs, rr, rv, hp, q⟩ => by
  cases as with
  | nil =>
    have e : some (ρ, S) = some (ρ', S') := by simpa only [T.puts] using hp
    cases e
    exact ⟨rv.nil_inv, q H ι σ (Ext.refl _ _) rs rr⟩
  | cons a as => simp [T.puts] at hp
theorem ts_cons {e : Expr} {es : List Expr} {p ps : T} (hs : isStar e = false) (h1 : PG X e (rT X.w X.K fa (T.put gc cf p))) (h2 : PGs X es (rTs X.w X.K fa (T.puts gc cf ps))) : PGs X (e :: es) (rTs X.w X.K fa (T.puts gc cf (.cons p ps))) :=
  PGsimp (pgs_cons h1 h2 (by rw [each_cons hs]; rfl)) fun vs σ H Q ⟨ι, ρ, S, as, ρ', S', rs, rr, rv, hp, q⟩ => by
    cases as with
    | nil => simp [T.puts] at hp
    | cons a as =>
      obtain ⟨v, vs', rfl, r1, r2⟩ := rv.cons_inv
      simp only [T.puts] at hp
      split at hp
      · rename_i ρ1 S1 h1
        exact ⟨v, vs', rfl, ι, ρ, S, a, ρ1, S1, rs, rr, r1, h1, fun H1 ι1 σ1 x1 rs1 rr1 => ⟨ι1, ρ1, S1, as, ρ', S', rs1, rr1, r2.mono x1, hp, fun H2 ι2 σ2 x2 rs2 rr2 => q H2 ι2 σ2 (x1.trans x2) rs2 rr2⟩⟩
      · cases hp
def T.size : T → Nat
  | .cons _ ps => ps.size + 1
  | _ => 0
theorem tputs_size : ∀ (p : T) (as : List W) (ρ ρ' : Rho) (S S' : Sto), T.puts gc cf p as ρ S = some (ρ', S') → as.length = p.size
  | .nil, as, ρ, ρ', S, S', h => by cases as with | nil => rfl | cons a as => simp [T.puts] at h
  | .cons p ps, as, ρ, ρ', S, S', h => by
    cases as with
    | nil => simp [T.puts] at h
    | cons a as =>
      simp only [T.puts] at h
      split at h
      · simp [T.size, tputs_size ps as _ _ _ _ h]
      · cases h
  | .nm i, as, ρ, ρ', S, S', h => by cases as <;> simp [T.puts] at h
  | .tp p, as, ρ, ρ', S, S', h => by cases as <;> simp [T.puts] at h
  | .sub p i, as, ρ, ρ', S, S', h => by cases as <;> simp [T.puts] at h
theorem t_tp {es : List Expr} {k : Nat} {ps : T} (hc : X.calm = true) (hs : es.any isStar = false) (hl : es.length = ps.size) (h : PGs X es (rTs X.w X.K fa (T.puts gc cf ps))) : PG X (.Tuple es k pos) (rT X.w X.K fa (T.put gc cf (.tp ps))) :=
  PGimp (pg_tup (n := es.length) hc h (each_len _ _) (each_no _ _ hs)) fun v σ H Q ⟨ι, ρ, S, a, ρ', S', rs, rr, rv, hp, q⟩ => by
    cases a with
    | tup as =>
      simp only [T.put] at hp
      obtain ⟨p, vs, e, t, r⟩ := rv_tup' rv
      exact ⟨p, vs, e, t, by rw [← r.length, hl]; exact tputs_size _ _ _ _ _ _ hp, ι, ρ, S, as, ρ', S', rs, rr, r, hp, q⟩
    | _ => simp [T.put] at hp
theorem t_sub {o i : Expr} {o' i' : E} (hu : X.A.units + 65 < cLine) (hsl : isSlice i = false) (ho : PE X o (rV X.w X.K fa (den gc cf o').v)) (hi : PE X i (rV X.w X.K fa (den gc cf i').v)) : PG X (.Subscript o i pos) (rT X.w X.K fa (T.put gc cf (.sub o' i'))) :=
  PGimp (pg_sub ho hi (s_set (fa := fa) hu) (by intro v; cases i <;> first | rfl | cases hsl)) fun v σ H Q ⟨ι, ρ, S, a, ρ', S', rs, rr, rv, hp, q⟩ => by
    simp only [T.put] at hp
    split at hp
    · rename_i ow S1 h1
      split at hp
      · rename_i iw S2 h2
        split at hp
        · rename_i u S3 h3
          cases hp
          exact ⟨ι, ρ, S, ow, S1, rs, rr, h1, fun v1 H1 ι1 x1 rs1 rv1 => ⟨ι1, ρ, S1, iw, S2, rs1, rr.mono x1, h2, fun v2 H2 ι2 x2 rs2 rv2 =>
            ⟨ι2, S2, ow, iw, a, S', rs2, rv1.mono x2, rv2, (rv.mono x1).mono x2, h3, fun H3 ι3 x3 rs3 => q H3 ι3 σ ((x1.trans x2).trans x3) rs3 (((rr.mono x1).mono x2).mono x3)⟩⟩⟩
        · cases hp
      · cases hp
    · cases hp

/-! ### statements -/
theorem c_skip {s : Stmt} (h : PS X s tNext) : PS X s (rC X.w X.K fa (run gc cf .skip)) := PSimp h fun D σ H ⟨ι, ρ, S, fl, ρ', S', rs, rr, hm, q⟩ => by
  have e : some (Fl.nx, ρ, S) = some (fl, ρ', S') := hm
  cases e
  exact q H ι σ (Ext.refl _ _) rs rr
theorem cs_nil : PSs X [] (rC X.w X.K fa (run gc cf .skip)) := PSsimp pss_nil fun D σ H ⟨ι, ρ, S, fl, ρ', S', rs, rr, hm, q⟩ => by
  have e : some (Fl.nx, ρ, S) = some (fl, ρ', S') := hm
  cases e
  exact q H ι σ (Ext.refl _ _) rs rr
theorem c_brk {p : Pos} : PS X (.Break p) (rC X.w X.K fa (run gc cf .brk)) := PSimp ps_break fun D σ H ⟨ι, ρ, S, fl, ρ', S', rs, rr, hm, q⟩ => by
  have e : some (Fl.brk, ρ, S) = some (fl, ρ', S') := hm
  cases e
  exact q H ι σ (Ext.refl _ _) rs rr
theorem c_cont {p : Pos} : PS X (.Continue p) (rC X.w X.K fa (run gc cf .cont)) := PSimp ps_continue fun D σ H ⟨ι, ρ, S, fl, ρ', S', rs, rr, hm, q⟩ => by
  have e : some (Fl.cont, ρ, S) = some (fl, ρ', S') := hm
  cases e
  exact q H ι σ (Ext.refl _ _) rs rr
theorem c_seq {s : Stmt} {r : List Stmt} {a b : C} (h1 : PS X s (rC X.w X.K fa (run gc cf a))) (h2 : PSs X r (rC X.w X.K fa (run gc cf b))) : PSs X (s :: r) (rC X.w X.K fa (run gc cf (.seq a b))) :=
  PSsimp (pss_cons h1 h2) fun D σ H ⟨ι, ρ, S, fl, ρ', S', rs, rr, hm, q⟩ => by
    simp only [run] at hm
    split at hm
    · rename_i ρ1 S1 h1
      exact ⟨ι, ρ, S, .nx, ρ1, S1, rs, rr, h1, fun H1 ι1 σ1 x1 rs1 rr1 => ⟨ι1, ρ1, S1, fl, ρ', S', rs1, rr1, hm, q.mono x1⟩⟩
    · rename_i hno
      refine ⟨ι, ρ, S, fl, ρ', S', rs, rr, hm, fun H1 ι1 σ1 x1 rs1 rr1 => ?_⟩
      have := q H1 ι1 σ1 x1 rs1 rr1
      cases fl with
      | nx => exact absurd hm (hno _ _)
      | brk => exact this
      | cont => exact this
      | ret a => exact this
theorem c_expr {e : Expr} {e' : E} {p : Pos} (h : PE X e (rV X.w X.K fa (den gc cf e').v)) (hs : swapsWith e none p.line X.env = pure false) : PS X (.Expr e p) (rC X.w X.K fa (run gc cf (.expr e'))) :=
  PSimp (ps_expr h hs) fun D σ H ⟨ι, ρ, S, fl, ρ', S', rs, rr, hm, q⟩ => by
    simp only [run] at hm
    split at hm
    · rename_i a S1 h1
      cases hm
      exact ⟨ι, ρ, S, a, _, rs, rr, h1, fun v H1 ι1 x1 rs1 rv1 => q H1 ι1 σ x1 rs1 (rr.mono x1)⟩
    · cases hm
theorem asg_read {t : T} {e' : E} (D : Ends) (σ : L2.St) (H : Hp) (h : rC X.w X.K fa (run gc cf (.asg t e')) D σ H) : tAsg (rV X.w X.K fa (den gc cf e').v) (rT X.w X.K fa (T.put gc cf t)) D σ H := by
  obtain ⟨ι, ρ, S, fl, ρ', S', rs, rr, hm, q⟩ := h
  simp only [run] at hm
  split at hm
  · rename_i a S1 h1
    split at hm
    · rename_i ρ2 S2 h2
      cases hm
      exact ⟨ι, ρ, S, a, S1, rs, rr, h1, fun v H1 ι1 x1 rs1 rv1 => ⟨ι1, ρ, S1, a, _, _, rs1, rr.mono x1, rv1, h2, fun H2 ι2 σ2 x2 rs2 rr2 => q H2 ι2 σ2 (x1.trans x2) rs2 rr2⟩⟩
    · cases hm
  · cases hm
theorem c_asg {tg e : Expr} {t : T} {e' : E} {p : Pos} (he : PE X e (rV X.w X.K fa (den gc cf e').v)) (ht : PG X tg (rT X.w X.K fa (T.put gc cf t))) (hst : isStar tg = false) (hs : swapsWithSole [tg] e p.line X.env = pure false) (hw : swappedStores [tg] e X.env = pure none) :
    PS X (.Assign [tg] e p) (rC X.w X.K fa (run gc cf (.asg t e'))) := PSimp (ps_asg he ht hs hw (by rw [each_cons hst]; rfl)) fun D σ H h => asg_read D σ H h
theorem asg_name {i : Nat} {e' : E} {te : TE} (hte : ∀ σ H Q, rV X.w X.K fa (den gc cf e').v σ H Q → te σ H Q) (D : Ends) (σ : L2.St) (H : Hp) (h : rC X.w X.K fa (run gc cf (.asg (.nm i) e')) D σ H) : tAsg te (gName i) D σ H := by
  obtain ⟨ι, ρ, S, fl, ρ', S', rs, rr, hm, q⟩ := h
  simp only [run, T.put] at hm
  split at hm
  · rename_i a S1 h1
    cases hm
    exact hte σ H _ ⟨ι, ρ, S, a, _, rs, rr, h1, fun v H1 ι1 x1 rs1 rv1 => q H1 ι1 _ x1 rs1 ((rr.mono x1).set rv1 i)⟩
  · cases hm
theorem par_read2 {i j : Nat} {es : E} (D : Ends) (σ : L2.St) (H : Hp) (h : rC X.w X.K fa (run gc cf (.asg (.tp (.cons (.nm i) (.cons (.nm j) .nil))) (.tup es))) D σ H) : tPar i j (rA X.w X.K fa (den gc cf es).a) D σ H := by
  obtain ⟨ι, ρ, S, fl, ρ', S', rs, rr, hm, q⟩ := h
  simp only [run] at hm
  split at hm
  · rename_i a S1 h1
    have h1 : (do let ws ← (den gc cf es).a ρ; M.fits ws.length; pure (W.tup ws) : M W) S = some (a, S1) := h1
    obtain ⟨ws, S2, h2, h3⟩ := bindM h1
    obtain ⟨_, S3, h4, h5⟩ := bindM h3
    obtain ⟨rfl, rfl⟩ := retM h5
    obtain ⟨_, e4⟩ := grdM h4
    subst e4
    split at hm
    · rename_i ρ2 S4 h6
      cases hm
      simp only [T.put] at h6
      match ws, h6 with
      | [a, b], h6 =>
        have e : some ((ρ.set i (some a)).set j (some b), S1) = some (ρ', S') := by simpa only [T.puts, T.put] using h6
        cases e
        refine ⟨ι, ρ, S, [a, b], _, rs, rr, h2, fun vs H1 ι1 x1 rs1 rv1 => ?_⟩
        obtain ⟨v1, r1, rfl, q1, q2⟩ := rv1.cons_inv
        obtain ⟨v2, r2, rfl, q3, q4⟩ := q2.cons_inv
        obtain rfl := q4.nil_inv
        exact ⟨v1, v2, rfl, q H1 ι1 _ x1 rs1 (((rr.mono x1).set q1 i).set q3 j)⟩
      | [], h6 => simp [T.puts] at h6
      | [a], h6 => simp [T.puts, T.put] at h6
      | a :: b :: c :: r, h6 => simp [T.puts, T.put] at h6
    · cases hm
  · cases hm
theorem par_read3 {i j k : Nat} {es : E} (D : Ends) (σ : L2.St) (H : Hp) (h : rC X.w X.K fa (run gc cf (.asg (.tp (.cons (.nm i) (.cons (.nm j) (.cons (.nm k) .nil)))) (.tup es))) D σ H) : tPar3 i j k (rA X.w X.K fa (den gc cf es).a) D σ H := by
  obtain ⟨ι, ρ, S, fl, ρ', S', rs, rr, hm, q⟩ := h
  simp only [run] at hm
  split at hm
  · rename_i a S1 h1
    have h1 : (do let ws ← (den gc cf es).a ρ; M.fits ws.length; pure (W.tup ws) : M W) S = some (a, S1) := h1
    obtain ⟨ws, S2, h2, h3⟩ := bindM h1
    obtain ⟨_, S3, h4, h5⟩ := bindM h3
    obtain ⟨rfl, rfl⟩ := retM h5
    obtain ⟨_, e4⟩ := grdM h4
    subst e4
    split at hm
    · rename_i ρ2 S4 h6
      cases hm
      simp only [T.put] at h6
      match ws, h6 with
      | [a, b, c], h6 =>
        have e : some (((ρ.set i (some a)).set j (some b)).set k (some c), S1) = some (ρ', S') := by simpa only [T.puts, T.put] using h6
        cases e
        refine ⟨ι, ρ, S, [a, b, c], _, rs, rr, h2, fun vs H1 ι1 x1 rs1 rv1 => ?_⟩
        obtain ⟨v1, r1, rfl, q1, q2⟩ := rv1.cons_inv
        obtain ⟨v2, r2, rfl, q3, q4⟩ := q2.cons_inv
        obtain ⟨v3, r3, rfl, q5, q6⟩ := q4.cons_inv
        obtain rfl := q6.nil_inv
        exact ⟨v1, v2, v3, rfl, q H1 ι1 _ x1 rs1 ((((rr.mono x1).set q1 i).set q3 j).set q5 k)⟩
      | [], h6 => simp [T.puts] at h6
      | [a], h6 => simp [T.puts, T.put] at h6
      | [a, b], h6 => simp [T.puts, T.put] at h6
      | a :: b :: c :: d :: r, h6 => simp [T.puts, T.put] at h6
    · cases hm
  · cases hm
theorem c_ite {c : Expr} {a b : List Stmt} {c' : E} {a' b' : C} {p : Pos} (hc : PT X c (rB X.w X.K fa fun ρ => truth ((den gc cf c').v ρ))) (ha : PSs X a (rC X.w X.K fa (run gc cf a'))) (hb : PSs X b (rC X.w X.K fa (run gc cf b'))) : PS X (.If c a b p) (rC X.w X.K fa (run gc cf (.ite c' a' b'))) :=
  PSimp (ps_if hc ha hb) fun D σ H ⟨ι, ρ, S, fl, ρ', S', rs, rr, hm, q⟩ => by
    simp only [run] at hm
    split at hm
    · rename_i S1 h1
      exact ⟨ι, ρ, S, true, S1, rs, rr, h1, fun H1 ι1 x1 rs1 => by show if true = true then _ else _; rw [if_pos rfl]; exact ⟨ι1, ρ, S1, fl, ρ', S', rs1, rr.mono x1, hm, q.mono x1⟩⟩
    · rename_i S1 h1
      exact ⟨ι, ρ, S, false, S1, rs, rr, h1, fun H1 ι1 x1 rs1 => by show if false = true then _ else _; rw [if_neg Bool.false_ne_true]; exact ⟨ι1, ρ, S1, fl, ρ', S', rs1, rr.mono x1, hm, q.mono x1⟩⟩
    · cases hm
theorem c_ret {e : Expr} {e' : E} {p : Pos} (h : PE X e (rV X.w X.K fa (den gc cf e').v)) : PS X (.Return (some e) p) (rC X.w X.K fa (run gc cf (.ret e'))) :=
  PSimp (ps_ret h) fun D σ H ⟨ι, ρ, S, fl, ρ', S', rs, rr, hm, q⟩ => by
    simp only [run] at hm
    split at hm
    · rename_i a S1 h1
      cases hm
      exact ⟨ι, ρ, S, a, _, rs, rr, h1, fun v H1 ι1 x1 rs1 rv1 => q H1 ι1 σ x1 rs1 (rr.mono x1) v rv1⟩
    · cases hm
theorem c_retN {p : Pos} : PS X (.Return none p) (rC X.w X.K fa (run gc cf (.ret .non))) :=
  PSimp ps_retN fun D σ H ⟨ι, ρ, S, fl, ρ', S', rs, rr, hm, q⟩ => by
    simp only [run] at hm
    have e : some (Fl.ret .non, ρ, S) = some (fl, ρ', S') := hm
    cases e
    exact q H ι σ (Ext.refl _ _) rs rr .non (rv_non.mpr rfl)
theorem c_aug {i : Nat} {x : Str} {e : Expr} {e' : E} {op : Operator} {o : Bop} {p pos' : Pos} (hN : X.N.Nodup) (hi : X.N[i]? = some x) (hx : Loc X.env.scope x) (hf : X.fn x = true ∨ X.env.scope.names.lookup x = some .local) (he : PE X e (rV X.w X.K fa (den gc cf e').v)) (ho : PIp X op (rO2 X.w X.K fa (wBin o))) :
    PS X (.AugAssign (.Name x pos') op e p) (rC X.w X.K fa (run gc cf (.aug i o e'))) :=
  PSimp (ps_aug hN hi hx he ho hf) fun D σ H ⟨ι, ρ, S, fl, ρ', S', rs, rr, hm, q⟩ => by
    simp only [run] at hm
    split at hm
    · rename_i xw hρ
      split at hm
      · rename_i y S1 h1
        split at hm
        · rename_i z S2 h2
          cases hm
          obtain ⟨v, e1, rv⟩ := rr.at_ i _ hρ
          exact ⟨v, e1, ι, ρ, S, y, S1, rs, rr, h1, fun v1 H1 ι1 x1 rs1 rv1 => ⟨ι1, S1, xw, y, z, S', rs1, rv.mono x1, rv1, h2, fun v2 H2 ι2 x2 rs2 rv2 => q H2 ι2 _ (x1.trans x2) rs2 (((rr.mono x1).mono x2).set rv2 i)⟩⟩
        · cases hm
      · cases hm
    · cases hm

/-! ### loops -/
theorem whileL_step {c : Rho → M Bool} {f : StF} {n : Nat} {ρ ρ' : Rho} {S S' : Sto} {fl : Fl} (h : whileL c f (n + 1) ρ S = some (fl, ρ', S')) : ∃ b S1, c ρ S = some (b, S1) ∧ ((b = false ∧ fl = .nx ∧ ρ' = ρ ∧ S' = S1) ∨
    (b = true ∧ ∃ fl1 ρ2 S2, f ρ S1 = some (fl1, ρ2, S2) ∧ match fl1 with
      | .nx => whileL c f n ρ2 S2 = some (fl, ρ', S')
      | .cont => whileL c f n ρ2 S2 = some (fl, ρ', S')
      | .brk => fl = .nx ∧ ρ' = ρ2 ∧ S' = S2
      | .ret a => fl = .ret a ∧ ρ' = ρ2 ∧ S' = S2)) := by
  simp only [whileL] at h
  split at h
  · rename_i S1 h1
    refine ⟨true, S1, h1, .inr ⟨rfl, ?_⟩⟩
    cases e : f ρ S1 with
    | none => rw [e] at h; cases h
    | some p =>
      obtain ⟨fl1, ρ2, S2⟩ := p
      rw [e] at h
      cases fl1 with
      | nx => exact ⟨.nx, ρ2, S2, rfl, h⟩
      | cont => exact ⟨.cont, ρ2, S2, rfl, h⟩
      | brk => simp only at h; cases h; exact ⟨.brk, _, _, rfl, rfl, rfl, rfl⟩
      | ret a => simp only at h; cases h; exact ⟨.ret a, _, _, rfl, rfl, rfl, rfl⟩
  · rename_i S1 h1
    cases h
    exact ⟨false, _, h1, .inl ⟨rfl, rfl, rfl, rfl⟩⟩
  · cases h
theorem c_whl {c : Expr} {a : List Stmt} {c' : E} {a' : C} {p : Pos} (hp : PassesOwn (model X.prog X.w) X.A X.env X.xe) (hc : PT X c (rB X.w X.K fa fun ρ => truth ((den gc cf c').v ρ))) (ha : PSs X a (rC X.w X.K fa (run gc cf a'))) :
    PS X (.While c a [] p) (rC X.w X.K fa (run gc cf (.whl c' a'))) :=
  PSimp (ps_while hp hc ha) fun D σ H ⟨ι, ρ, S, fl, ρ', S', rs, rr, hm, q⟩ => by
    simp only [run] at hm
    refine ⟨fun n σ H => ∃ ι1 ρ1 S1, RS X.w X.K fa H ι1 S1 ∧ RR X.w X.K fa H ι1 ρ1 σ ∧ whileL (fun ρ => truth ((den gc cf c').v ρ)) (fun ρ S => run gc cf a' ρ S) n ρ1 S1 = some (fl, ρ', S') ∧ Owed X.w X.K fa D ι1 H fl ρ' S', ⟨turns, ι, ρ, S, rs, rr, hm, q⟩, ?_⟩
    rintro n σ1 H1 ⟨ι1, ρ1, S1, rs1, rr1, hw, q1⟩
    cases n with
    | zero => cases hw
    | succ n =>
      obtain ⟨b, S2, hb, hcase⟩ := whileL_step hw
      refine ⟨ι1, ρ1, S1, b, S2, rs1, rr1, hb, fun H2 ι2 x2 rs2 => ?_⟩
      rcases hcase with ⟨rfl, rfl, rfl, rfl⟩ | ⟨rfl, fl1, ρ2, S3, hf, hnext⟩
      · rw [if_neg Bool.false_ne_true]
        exact q1 H2 ι2 σ1 x2 rs2 (rr1.mono x2)
      · rw [if_pos rfl]
        refine ⟨fun σ3 H3 => ∃ ι3 ρ3 S3, RS X.w X.K fa H3 ι3 S3 ∧ RR X.w X.K fa H3 ι3 ρ3 σ3 ∧ whileL (fun ρ => truth ((den gc cf c').v ρ)) (fun ρ S => run gc cf a' ρ S) n ρ3 S3 = some (fl, ρ', S') ∧ Owed X.w X.K fa D ι3 H3 fl ρ' S', fun σ3 H3 p => ⟨n, Nat.lt_succ_self n, p⟩, ?_⟩
        refine ⟨ι2, ρ1, S2, fl1, ρ2, S3, rs2, rr1.mono x2, hf, fun H3 ι3 σ3 x3 rs3 rr3 => ?_⟩
        cases fl1 with
        | nx => exact ⟨ι3, ρ2, S3, rs3, rr3, hnext, q1.mono (x2.trans x3)⟩
        | cont => exact ⟨ι3, ρ2, S3, rs3, rr3, hnext, q1.mono (x2.trans x3)⟩
        | brk =>
          obtain ⟨rfl, rfl, rfl⟩ := hnext
          exact q1 H3 ι3 σ3 (x2.trans x3) rs3 rr3
        | ret a =>
          obtain ⟨rfl, rfl, rfl⟩ := hnext
          exact q1 H3 ι3 σ3 (x2.trans x3) rs3 rr3
theorem forL_nil {src : List (Nat × Ob)} {t : P} {f : StF} {ρ ρ' : Rho} {S S' : Sto} {fl : Fl} (h : forL src t f [] ρ S = some (fl, ρ', S')) : stands S src = true ∧ fl = .nx ∧ ρ' = ρ ∧ S' = S := by
  simp only [forL] at h
  split at h
  · cases h; exact ⟨by assumption, rfl, rfl, rfl⟩
  · cases h
theorem forL_cons {src : List (Nat × Ob)} {t : P} {f : StF} {x : W} {xs : List W} {ρ ρ' : Rho} {S S' : Sto} {fl : Fl} (h : forL src t f (x :: xs) ρ S = some (fl, ρ', S')) : stands S src = true ∧ ∃ ρ1 fl1 ρ2 S2, P.put t x ρ = some ρ1 ∧ f ρ1 S = some (fl1, ρ2, S2) ∧ match fl1 with
      | .nx => forL src t f xs ρ2 S2 = some (fl, ρ', S')
      | .cont => forL src t f xs ρ2 S2 = some (fl, ρ', S')
      | .brk => fl = .nx ∧ ρ' = ρ2 ∧ S' = S2
      | .ret a => fl = .ret a ∧ ρ' = ρ2 ∧ S' = S2 := by
  simp only [forL] at h
  split at h
  · rename_i hs
    refine ⟨hs, ?_⟩
    cases e0 : P.put t x ρ with
    | none => rw [e0] at h; cases h
    | some ρ1 =>
      rw [e0] at h
      simp only at h
      cases e : f ρ1 S with
      | none => rw [e] at h; cases h
      | some p =>
        obtain ⟨fl1, ρ2, S2⟩ := p
        rw [e] at h
        cases fl1 with
        | nx => exact ⟨ρ1, .nx, ρ2, S2, rfl, e, h⟩
        | cont => exact ⟨ρ1, .cont, ρ2, S2, rfl, e, h⟩
        | brk => simp only at h; cases h; exact ⟨ρ1, .brk, _, _, rfl, e, rfl, rfl, rfl⟩
        | ret a => simp only at h; cases h; exact ⟨ρ1, .ret a, _, _, rfl, e, rfl, rfl, rfl⟩
  · cases h
theorem c_for {tg iter : Expr} {a : List Stmt} {t : P} {it : E} {a' : C} {p : Pos} (hp : PassesOwn (model X.prog X.w) X.A X.env X.xe) (hc : X.calm = true) (hi : PI X tg iter (rI X.w X.K fa (den gc cf it).it)) (hg : PG X tg (rP X.w X.K fa t)) (ha : PSs X a (rC X.w X.K fa (run gc cf a')))
    (hs : ∀ x, foldedSetIterable iter X.env x = pure x) : PS X (.For tg iter a [] p) (rC X.w X.K fa (run gc cf (.for_ t it a'))) :=
  PSimp (ps_for hp hc hi hg ha hs) fun D σ H ⟨ι, ρ, S, fl, ρ', S', rs, rr, hm, q⟩ => by
    simp only [run] at hm
    split at hm
    · rename_i xs src S1 h1
      refine ⟨ι, ρ, S, xs, src, S1, rs, rr, h1, fun J H1 ι1 x1 rs1 hlen wk => ?_⟩
      refine ⟨fun i m σ2 Hc => m = xs.length - i ∧ i ≤ xs.length ∧ ∃ ι2 ρ2 S2, Ext ι1 H1 ι2 Hc ∧ RS X.w X.K fa Hc ι2 S2 ∧ RR X.w X.K fa Hc ι2 ρ2 σ2 ∧ forL src t (fun ρ S => run gc cf a' ρ S) (xs.drop i) ρ2 S2 = some (fl, ρ', S'),
        ⟨xs.length, by simp, Nat.zero_le _, ι1, ρ, S1, Ext.refl _ _, rs1, rr.mono x1, by simpa using hm⟩, ?_⟩
      rintro i m σ2 Hc ⟨rfl, hi, ι2, ρ2, S2, xt, rs2, rr2, hf⟩
      by_cases hlt : i < xs.length
      · right
        have hx : xs[i]? = some xs[i] := List.getElem?_eq_getElem hlt
        rw [List.drop_eq_getElem_cons hlt] at hf
        obtain ⟨hst, ρ3, fl1, ρ4, S4, hput, hrun, hnext⟩ := forL_cons hf
        obtain ⟨_, hw⟩ := wk Hc ι2 S2 xt.exh rs2 hst i
        obtain ⟨hgo, hy⟩ := hw _ hx
        refine ⟨hgo, fun σ4 H4 => i + 1 ≤ xs.length ∧ ∃ ι4 ρ4 S4, Ext ι1 H1 ι4 H4 ∧ RS X.w X.K fa H4 ι4 S4 ∧ RR X.w X.K fa H4 ι4 ρ4 σ4 ∧ forL src t (fun ρ S => run gc cf a' ρ S) (xs.drop (i + 1)) ρ4 S4 = some (fl, ρ', S'), fun σ4 H4 p => ⟨xs.length - (i + 1), by omega, rfl, p⟩, fun x H3 y => ?_⟩
        obtain ⟨ι3, x3, rs3, rv3⟩ := hy x H3 y
        refine ⟨ι3, ρ2, S2, xs[i], ρ3, rs3, rr2.mono x3, rv3, hput, fun σ3 rr3 sw => ?_⟩
        refine ⟨ι3, ρ3, S2, fl1, ρ4, S4, rs3, rr3, hrun, fun H4 ι4 σ4 x4 rs4 rr4 => ?_⟩
        have x14 := (xt.trans x3).trans x4
        cases fl1 with
        | nx => exact ⟨hlt, ι4, ρ4, S4, x14, rs4, rr4, hnext⟩
        | cont => exact ⟨hlt, ι4, ρ4, S4, x14, rs4, rr4, hnext⟩
        | brk =>
          obtain ⟨rfl, rfl, rfl⟩ := hnext
          exact q H4 ι4 σ4 (x1.trans x14) rs4 rr4
        | ret a =>
          obtain ⟨rfl, rfl, rfl⟩ := hnext
          exact q H4 ι4 σ4 (x1.trans x14) rs4 rr4
      · left
        have e : i = xs.length := by omega
        subst e
        rw [List.drop_length] at hf
        obtain ⟨hst, rfl, rfl, rfl⟩ := forL_nil hf
        obtain ⟨hstop, _⟩ := wk Hc ι2 _ xt.exh rs2 hst xs.length
        exact ⟨hstop rfl, q Hc ι2 σ2 (x1.trans xt) rs2 rr2⟩
    · cases hm
end
end TS

set_option Elab.async false
set_option linter.all false
set_option maxRecDepth 100000
/-! A13: built-in functions. -/
namespace TS
open PySem L2 StX PyProof.Rows

section
variable {X : Cx} {fa : Nat → Option Addr}
theorem b_len : CallR X (.builtin "len") (rCl X.w X.K fa bLen) := by
  rintro pins s σ H xs us Q I rxs ⟨ι, S, as, c, S', rs, ras, hg, q⟩
  unfold bLen at hg
  split at hg
  · rename_i z
    cases hg
    obtain ⟨v, vs, rfl, r, r2⟩ := ras.cons_inv
    obtain rfl := r2.nil_inv
    rw [rv_str] at r
    obtain ⟨rfl, hz⟩ := r
    exact call_len_str pins s σ H _ us Q I rxs ⟨_, rfl, litOk_len hz, q.here rs (rv_int.mpr rfl)⟩
  · rename_i w _
    split at hg
    · rename_i ws hw
      cases hg
      obtain ⟨v, vs, rfl, r, r2⟩ := ras.cons_inv
      obtain rfl := r2.nil_inv
      obtain ⟨p, vs, rfl, hq, r'⟩ := seqOf_rv rs hw r
      refine call_len_seq pins s σ H _ us Q I rxs ⟨p, vs, rfl, hq.symm, ?_⟩
      rw [← r'.length]
      exact q.here rs (rv_int.mpr rfl)
    · cases hg
  · cases hg
theorem b_list : CallR X (.type "list") (rCl X.w X.K fa bList) := by
  rintro pins s σ H xs us Q I rxs ⟨ι, S, as, c, S', rs, ras, hg, q⟩
  unfold bList at hg
  split at hg
  · rename_i w
    split at hg
    · rename_i ws hw
      have e : some (W.ref S.length, S ++ [Ob.lst ws]) = some (c, S') := hg
      cases e
      obtain ⟨v, vs, rfl, r, r2⟩ := ras.cons_inv
      obtain rfl := r2.nil_inv
      obtain ⟨p, vs, rfl, hq, r'⟩ := seqOf_rv rs hw r
      exact call_list_of pins s σ H _ us Q I rxs ⟨p, vs, rfl, hq.symm, fun l hl => q.push_lst rs r' hl⟩
    · cases hg
  · cases hg
theorem b_tuple : CallR X (.type "tuple") (rCl X.w X.K fa bTuple) := by
  rintro pins s σ H xs us Q I rxs ⟨ι, S, as, c, S', rs, ras, hg, q⟩
  unfold bTuple at hg
  split at hg
  · rename_i w
    split at hg
    · rename_i ws hw
      cases hg
      obtain ⟨v, vs, rfl, r, r2⟩ := ras.cons_inv
      obtain rfl := r2.nil_inv
      cases hl : listOf S w with
      | some ws' =>
        have e0 := listOf_seq hl
        rw [hw] at e0; cases e0
        obtain ⟨p, vs, rfl, hq, r'⟩ := listOf_rv rs hl r
        exact call_tuple_of pins s σ H _ us Q I rxs ⟨p, vs, rfl, .inl ⟨hq, fun l hl => q.new_tup rs r' hl⟩⟩
      | none =>
        cases w with
        | tup ws' =>
          cases hw
          obtain ⟨p, vs, rfl, hq, r'⟩ := rv_tup' r
          exact call_tuple_of pins s σ H _ us Q I rxs ⟨p, vs, rfl, .inr ⟨hq, q.here rs r⟩⟩
        | lst ws' => cases hl
        | ref n =>
          have hw : listOf S (.ref n) = some _ := hw
          rw [hl] at hw; cases hw
        | _ => cases hw
    · cases hg
  · cases hg
theorem b_max2 (hc : X.calm = true) : CallR X (.builtin "max") (rCl X.w X.K fa bMax2) := by
  rintro pins s σ H xs us Q I rxs ⟨ι, S, as, c, S', rs, ras, hg, q⟩
  unfold bMax2 at hg
  split at hg
  · cases hg
    obtain ⟨v, vs, rfl, r, r2⟩ := ras.cons_inv
    obtain ⟨v', vs', rfl, r', r2'⟩ := r2.cons_inv
    obtain rfl := r2'.nil_inv
    rw [rv_int] at r r'
    subst r r'
    exact call_max2 hc pins s σ H _ us Q I rxs ⟨_, _, rfl, q.here rs (rv_int.mpr rfl)⟩
  · cases hg
theorem b_min2 (hc : X.calm = true) : CallR X (.builtin "min") (rCl X.w X.K fa bMin2) := by
  rintro pins s σ H xs us Q I rxs ⟨ι, S, as, c, S', rs, ras, hg, q⟩
  unfold bMin2 at hg
  split at hg
  · cases hg
    obtain ⟨v, vs, rfl, r, r2⟩ := ras.cons_inv
    obtain ⟨v', vs', rfl, r', r2'⟩ := r2.cons_inv
    obtain rfl := r2'.nil_inv
    rw [rv_int] at r r'
    subst r r'
    exact call_min2 hc pins s σ H _ us Q I rxs ⟨_, _, rfl, q.here rs (rv_int.mpr rfl)⟩
  · cases hg
theorem b_int : CallR X (.type "int") (rCl X.w X.K fa bInt) := by
  rintro pins s σ H xs us Q I rxs ⟨ι, S, as, c, S', rs, ras, hg, q⟩
  unfold bInt at hg
  split at hg
  · cases hg
    obtain ⟨v, vs, rfl, r, r2⟩ := ras.cons_inv
    obtain rfl := r2.nil_inv
    rw [rv_bl] at r
    subst r
    exact call_int1 pins s σ H _ us Q I rxs (.inr ⟨_, rfl, q.here rs (rv_int.mpr rfl)⟩)
  · cases hg
theorem b_bool : CallR X (.type "bool") (rCl X.w X.K fa bBool) := by
  rintro pins s σ H xs us Q I rxs ⟨ι, S, as, c, S', rs, ras, hg, q⟩
  unfold bBool at hg
  split at hg
  · cases hg
    obtain ⟨v, vs, rfl, r, r2⟩ := ras.cons_inv
    obtain rfl := r2.nil_inv
    rw [rv_bl] at r
    subst r
    exact call_bool1 pins s σ H _ us Q I rxs (.inr ⟨_, rfl, q.here rs (rv_bl.mpr rfl)⟩)
  · cases hg
theorem bls_rv {w : World} {K : PySem.W.Frag} {H : Hp} {ι : Pls} : ∀ {ws : List W} {bs : List Bool} {vs : List V}, blsOf ws = some bs → RVs w K fa H ι ws vs → vs = bs.map V.bl
  | [], bs, vs, h, r => by cases h; exact r.nil_inv
  | a :: as, bs, vs, h, r => by
    obtain ⟨v, vs', rfl, r1, r2⟩ := r.cons_inv
    cases a with
    | bl b =>
      simp only [blsOf] at h
      split at h
      · rename_i bs' h1
        cases h
        rw [rv_bl] at r1
        rw [r1, bls_rv h1 r2]; rfl
      · cases h
    | _ => simp [blsOf] at h
theorem ints_rv {w : World} {K : PySem.W.Frag} {H : Hp} {ι : Pls} : ∀ {ws : List W} {bs : List Int} {vs : List V}, intsOf ws = some bs → RVs w K fa H ι ws vs → vs = bs.map V.int
  | [], bs, vs, h, r => by cases h; exact r.nil_inv
  | a :: as, bs, vs, h, r => by
    obtain ⟨v, vs', rfl, r1, r2⟩ := r.cons_inv
    cases a with
    | int b =>
      simp only [intsOf] at h
      split at h
      · rename_i bs' h1
        cases h
        rw [rv_int] at r1
        rw [r1, ints_rv h1 r2]; rfl
      · cases h
    | _ => simp [intsOf] at h
theorem b_all (hc : X.calm = true) : CallR X (.builtin "all") (rCl X.w X.K fa bAll) := by
  rintro pins s σ H xs us Q I rxs ⟨ι, S, as, c, S', rs, ras, hg, q⟩
  unfold bAll at hg
  split at hg
  · rename_i w
    split at hg
    · rename_i bs hb
      cases hg
      obtain ⟨ws, hw, hb⟩ := Option.bind_eq_some_iff.mp hb
      obtain ⟨v, vs, rfl, r, r2⟩ := ras.cons_inv
      obtain rfl := r2.nil_inv
      obtain ⟨p, vs, rfl, hq, r'⟩ := listOf_rv rs hw r
      rw [bls_rv hb r'] at hq
      exact cr_all hc pins s σ H _ us Q I rxs ⟨p, bs, rfl, hq, q.here rs (rv_bl.mpr rfl)⟩
    · cases hg
  · cases hg
theorem b_any (hc : X.calm = true) : CallR X (.builtin "any") (rCl X.w X.K fa bAny) := by
  rintro pins s σ H xs us Q I rxs ⟨ι, S, as, c, S', rs, ras, hg, q⟩
  unfold bAny at hg
  split at hg
  · rename_i w
    split at hg
    · rename_i bs hb
      cases hg
      obtain ⟨ws, hw, hb⟩ := Option.bind_eq_some_iff.mp hb
      obtain ⟨v, vs, rfl, r, r2⟩ := ras.cons_inv
      obtain rfl := r2.nil_inv
      obtain ⟨p, vs, rfl, hq, r'⟩ := listOf_rv rs hw r
      rw [bls_rv hb r'] at hq
      exact cr_any hc pins s σ H _ us Q I rxs ⟨p, bs, rfl, hq, q.here rs (rv_bl.mpr rfl)⟩
    · cases hg
  · cases hg
theorem maxOf_fold : ∀ (xs : List Int) (x : Int), let m := xs.foldl (fun m y => if m < y then y else m) x; x ≤ m ∧ (∀ y ∈ xs, y ≤ m) ∧ (m = x ∨ m ∈ xs)
  | [], x => ⟨Int.le_refl _, ⟨fun _ h => (nomatch h), .inl rfl⟩⟩
  | y :: ys, x => by
    obtain ⟨h1, h2, h3⟩ := maxOf_fold ys (if x < y then y else x)
    simp only [List.foldl_cons]
    have e : x ≤ (if x < y then y else x) ∧ y ≤ (if x < y then y else x) := by split <;> omega
    refine ⟨Int.le_trans e.1 h1, fun z hz => ?_, ?_⟩
    · rcases List.mem_cons.mp hz with e2 | hz
      · rw [e2]; exact Int.le_trans e.2 h1
      · exact h2 z hz
    · rcases h3 with h3 | h3
      · rw [h3]
        split
        · exact .inr List.mem_cons_self
        · exact .inl rfl
      · exact .inr (List.mem_cons_of_mem _ h3)
theorem b_max1 (hc : X.calm = true) : CallR X (.builtin "max") (rCl X.w X.K fa bMax1) := by
  rintro pins s σ H xs us Q I rxs ⟨ι, S, as, c, S', rs, ras, hg, q⟩
  unfold bMax1 at hg
  split at hg
  · rename_i w
    split at hg
    · rename_i is hb
      split at hg
      · rename_i m hm
        cases hg
        obtain ⟨ws, hw, hb⟩ := Option.bind_eq_some_iff.mp hb
        obtain ⟨v, vs, rfl, r, r2⟩ := ras.cons_inv
        obtain rfl := r2.nil_inv
        obtain ⟨p, vs, rfl, hq, r'⟩ := listOf_rv rs hw r
        rw [ints_rv hb r'] at hq
        cases is with
        | nil => cases hm
        | cons i is =>
          cases hm
          obtain ⟨h1, h2, h3⟩ := maxOf_fold is i
          refine cr_max hc pins s σ H _ us Q I rxs ⟨p, _, rfl, hq, by simp, fun m hm hall => ?_⟩
          have e : m = is.foldl (fun m y => if m < y then y else m) i := by
            refine Int.le_antisymm ?_ (hall _ ?_)
            · rcases List.mem_cons.mp hm with rfl | hm
              · exact h1
              · exact h2 m hm
            · rcases h3 with h3 | h3
              · rw [h3]; exact List.mem_cons_self
              · exact List.mem_cons_of_mem _ h3
          rw [e]
          exact q.here rs (rv_int.mpr rfl)
      · cases hg
    · cases hg
  · cases hg

/-! ### isinstance -/
def kindsL (k : Kinds) : List String := (if k.int = true then ["int"] else []) ++ (if k.bool = true then ["bool"] else []) ++ (if k.str = true then ["str"] else []) ++ (if k.list = true then ["list"] else []) ++ (if k.tuple = true then ["tuple"] else [])
/-- the type that a value has -/
theorem ty_of {w : World} {K : PySem.W.Frag} {H : Hp} {ι : Pls} {S : Sto} {a : W} {v : V} {k : Kinds} {b : Bool} {S' : Sto} (rs : RS w K fa H ι S) (r : RV w K fa H ι a v) (h : wIsi k a S = some (b, S')) :
    ∃ T, TyX K H v (.type T) ∧ S' = S ∧ ((T = "NoneType" ∧ b = false) ∨ (T = "bool" ∧ b = (k.bool || k.int)) ∨ (T = "int" ∧ b = k.int) ∨ (T = "str" ∧ b = k.str) ∨ (T = "list" ∧ b = k.list) ∨ (T = "tuple" ∧ b = k.tuple)) := by
  unfold wIsi at h
  split at h
  · cases h; rw [rv_non] at r; subst r; exact ⟨_, .base .non, rfl, .inl ⟨rfl, rfl⟩⟩
  · cases h; rw [rv_bl] at r; subst r; exact ⟨_, .base (.bl _), rfl, .inr (.inl ⟨rfl, rfl⟩)⟩
  · cases h; rw [rv_int] at r; subst r; exact ⟨_, .base (.int _), rfl, .inr (.inr (.inl ⟨rfl, rfl⟩))⟩
  · cases h; rw [rv_str] at r; obtain ⟨rfl, _⟩ := r; exact ⟨_, .base (.str _), rfl, .inr (.inr (.inr (.inl ⟨rfl, rfl⟩)))⟩
  · cases h
    obtain ⟨p, vs, rfl, t, r⟩ := rv_tup.mp r
    refine ⟨"tuple", ?_, rfl, .inr (.inr (.inr (.inr (.inr ⟨rfl, rfl⟩))))⟩
    rcases t with ⟨t | ⟨o, t⟩, _⟩ | ⟨o, its, n, h1, h2, _⟩
    · exact .base (.tup t)
    · exact .fTuple t
    · exact .kTuple h1 h2
  · split at h
    · rename_i ws hw
      cases h
      obtain ⟨p, vs, rfl, t, r⟩ := listOf_rv rs hw r
      refine ⟨"list", ?_, rfl, .inr (.inr (.inr (.inr (.inl ⟨rfl, rfl⟩))))⟩
      rcases t with (t | ⟨o, t⟩) | ⟨o, its, n, h1, h2, _⟩
      · exact .base (.lst t)
      · exact .base (.frz t)
      · exact .kList h1 h2
    · cases h
/-- asked of one kind -/
theorem kit_one {K : PySem.W.Frag} (T c : String) (hT : T ∈ ["NoneType", "bool", "int", "str", "list", "tuple"]) (hc : c ∈ ["int", "bool", "str", "list", "tuple"]) : PySem.W.kitOne K (.type T) (.type c) = some (T == c || (T == "bool" && c == "int")) := by
  apply kit_ty
  simp only [List.mem_cons, List.not_mem_nil, or_false] at hT hc
  rcases hT with rfl | rfl | rfl | rfl | rfl | rfl <;> rcases hc with rfl | rfl | rfl | rfl | rfl <;> decide +kernel
theorem kit_any {K : PySem.W.Frag} (T : String) (hT : T ∈ ["NoneType", "bool", "int", "str", "list", "tuple"]) : ∀ cs : List String, (∀ c ∈ cs, c ∈ ["int", "bool", "str", "list", "tuple"]) →
    PySem.W.kitAny K (.type T) (cs.map Value.type) = some (cs.any fun c => T == c || (T == "bool" && c == "int"))
  | [], _ => kitAny_nil
  | c :: cs, h => kitAny_cons (kit_one T c hT (h c List.mem_cons_self)) (fun e => by rw [kit_any T hT cs fun c hc => h c (List.mem_cons_of_mem _ hc), List.any_cons, e]; rfl) fun e => by rw [List.any_cons, e]; rfl
end
end TS

set_option Elab.async false
set_option linter.all false
set_option maxRecDepth 100000
/-! A14: isinstance; dict displays. -/
namespace TS
open PySem L2 StX PyProof.Rows

/-- what a type answers, by the kinds asked -/
def kAns (T : String) (k : Kinds) : Bool := (T == "bool" && (k.bool || k.int)) || (T == "int" && k.int) || (T == "str" && k.str) || (T == "list" && k.list) || (T == "tuple" && k.tuple)
def kName (x : Str) : String := if x = ("int" : Str) then "int" else if x = ("bool" : Str) then "bool" else if x = ("str" : Str) then "str" else if x = ("list" : Str) then "list" else "tuple"
theorem kind_name {k k' : Kinds} {x : Str} (h : kindOf1 k x = some k') : kName x ∈ ["int", "bool", "str", "list", "tuple"] ∧ bootBuiltins x = some (.type (kName x)) ∧ x ≠ "__name__" ∧
    ∀ T, T ∈ ["NoneType", "bool", "int", "str", "list", "tuple"] → kAns T k' = (kAns T k || (T == kName x || (T == "bool" && kName x == "int"))) := by
  unfold kindOf1 at h
  split at h
  · rename_i e
    subst e; cases h
    refine ⟨by decide, by decide +kernel, by decide, fun T hT => ?_⟩
    simp only [List.mem_cons, List.not_mem_nil, or_false] at hT
    obtain ⟨a, b, c, d, e⟩ := k
    rcases hT with rfl | rfl | rfl | rfl | rfl | rfl <;> revert a b c d e <;> decide +kernel
  · split at h
    · rename_i e
      subst e; cases h
      refine ⟨by decide, by decide +kernel, by decide, fun T hT => ?_⟩
      simp only [List.mem_cons, List.not_mem_nil, or_false] at hT
      obtain ⟨a, b, c, d, e⟩ := k
      rcases hT with rfl | rfl | rfl | rfl | rfl | rfl <;> revert a b c d e <;> decide +kernel
    · split at h
      · rename_i e
        subst e; cases h
        refine ⟨by decide, by decide +kernel, by decide, fun T hT => ?_⟩
        simp only [List.mem_cons, List.not_mem_nil, or_false] at hT
        obtain ⟨a, b, c, d, e⟩ := k
        rcases hT with rfl | rfl | rfl | rfl | rfl | rfl <;> revert a b c d e <;> decide +kernel
      · split at h
        · rename_i e
          subst e; cases h
          refine ⟨by decide, by decide +kernel, by decide, fun T hT => ?_⟩
          simp only [List.mem_cons, List.not_mem_nil, or_false] at hT
          obtain ⟨a, b, c, d, e⟩ := k
          rcases hT with rfl | rfl | rfl | rfl | rfl | rfl <;> revert a b c d e <;> decide +kernel
        · split at h
          · rename_i e
            subst e; cases h
            refine ⟨by decide, by decide +kernel, by decide, fun T hT => ?_⟩
            simp only [List.mem_cons, List.not_mem_nil, or_false] at hT
            obtain ⟨a, b, c, d, e⟩ := k
            rcases hT with rfl | rfl | rfl | rfl | rfl | rfl <;> revert a b c d e <;> decide +kernel
          · cases h
theorem kAns_no (T : String) : kAns T {} = false := by unfold kAns; simp
theorem ty_ans {T : String} {k : Kinds} {b : Bool} (h : (T = "NoneType" ∧ b = false) ∨ (T = "bool" ∧ b = (k.bool || k.int)) ∨ (T = "int" ∧ b = k.int) ∨ (T = "str" ∧ b = k.str) ∨ (T = "list" ∧ b = k.list) ∨ (T = "tuple" ∧ b = k.tuple)) :
    T ∈ ["NoneType", "bool", "int", "str", "list", "tuple"] ∧ b = kAns T k := by
  rcases h with ⟨rfl, h⟩ | ⟨rfl, h⟩ | ⟨rfl, h⟩ | ⟨rfl, h⟩ | ⟨rfl, h⟩ | ⟨rfl, h⟩ <;> refine ⟨by decide, ?_⟩ <;> rw [h] <;> obtain ⟨a1, a2, a3, a4, a5⟩ := k <;> clear h <;> revert a1 a2 a3 a4 a5 <;> decide +kernel

section
variable {X : Cx} {fa : Nat → Option Addr}
theorem ev_isi1 {a : Expr} {x : Str} {k : Kinds} {px p pos : Pos} {m : Rho → M W} (hg : Gl X "isinstance") (hm : X.mg "isinstance" = none) (ha : PE X a (rV X.w X.K fa m)) (hs : isStar a = false)
    (hk : kindOf1 {} x = some k) (hgx : Gl X x) (hmx : X.mg x = none) (hdx : (x == ("__debug__" : Str)) = false) :
    PE X (.Call (.Name "isinstance" p) [a, .Name x px] [] pos) (rV X.w X.K fa fun ρ => do let v ← m ρ; let b ← wIsi k v; pure (.bl b)) := by
  obtain ⟨n1, n2, n3, n4⟩ := kind_name hk
  refine PEimp (pe_callB call_isi hg hm boot_isinstance (pa_cons ha (pa_cons (pe_bltn (v := .ty (kName x)) hgx hmx n2 rfl n3 hdx) pa_nil) (star_no hs)) (by decide) (by decide) (star_no hs) rfl) fun σ H Q ⟨ι, ρ, S, c, S', rs, rr, hw, q⟩ => ?_
  obtain ⟨v, S1, h1, hw1⟩ := bindM hw
  obtain ⟨b, S2, h2, hw2⟩ := bindM hw1
  obtain ⟨rfl, rfl⟩ := retM hw2
  refine ⟨ι, ρ, S, v, S1, rs, rr, h1, fun u H1 ι1 x1 rs1 rv1 => ?_⟩
  obtain ⟨T, ty, e, ht⟩ := ty_of rs1 rv1 h2
  obtain ⟨t1, t2⟩ := ty_ans ht
  refine ⟨u, .ty (kName x), _, _, b, rfl, .ty _, ty, ?_, ?_⟩
  · rw [kit_one T _ t1 n1, t2, n4 T t1, kAns_no]; rfl
  · subst e
    exact (q.mono x1).here rs1 (rv_bl.mpr rfl)
/-- the types of a tuple of names -/
theorem ks_names {G : Glob} {sc : Scope} (hb : ∀ x, isBlt G sc x = true → Gl X x ∧ X.mg x = none ∧ (x == ("__debug__" : Str)) = false) : ∀ (es : List Expr) (k k' : Kinds), trKs G sc k es = some k' →
    ∃ cs : List String, PA X es (fun σ H Q => Q (cs.map V.ty) H) ∧ cs.length = es.length ∧ es.any isStar = false ∧ (∀ c ∈ cs, c ∈ ["int", "bool", "str", "list", "tuple"]) ∧
      ∀ T, T ∈ ["NoneType", "bool", "int", "str", "list", "tuple"] → kAns T k' = (kAns T k || cs.any fun c => T == c || (T == "bool" && c == "int"))
  | [], k, k', h => by cases h; exact ⟨[], pa_nil, rfl, rfl, fun _ h => (nomatch h), fun T _ => by simp⟩
  | e :: es, k, k', h => by
    cases e with
    | Name x p =>
      simp only [trKs] at h
      split at h
      · rename_i hx
        split at h
        · rename_i k1 hk
          obtain ⟨n1, n2, n3, n4⟩ := kind_name hk
          obtain ⟨g1, g2, g3⟩ := hb x hx
          obtain ⟨cs, p1, pl, p2, p3, p4⟩ := ks_names hb es k1 k' h
          refine ⟨kName x :: cs, PAimp (pa_cons (pe_bltn (v := .ty (kName x)) g1 g2 n2 rfl n3 g3) p1 (star_no rfl)) fun σ H Q q => q, by simp [pl], by rw [List.any_cons, p2]; rfl, fun c hc => ?_, fun T hT => ?_⟩
          · rcases List.mem_cons.mp hc with rfl | hc
            · exact n1
            · exact p3 c hc
          · rw [p4 T hT, n4 T hT, List.any_cons, Bool.or_assoc]
        · cases h
      · cases h
    | _ => cases h
theorem cls_all : ∀ cs : List String, Paired ClsV (cs.map V.ty) (cs.map Value.type)
  | [] => .nil
  | c :: cs => .cons (.ty c) (cls_all cs)
theorem ev_isiT {G : Glob} {sc : Scope} {a : Expr} {es : List Expr} {kk : Nat} {k : Kinds} {pt p pos : Pos} {m : Rho → M W} (hb : ∀ x, isBlt G sc x = true → Gl X x ∧ X.mg x = none ∧ (x == ("__debug__" : Str)) = false)
    (hg : Gl X "isinstance") (hm : X.mg "isinstance" = none) (ha : PE X a (rV X.w X.K fa m)) (hs : isStar a = false) (hk : trKs G sc {} es = some k) (hl : es.length ≤ 100) :
    PE X (.Call (.Name "isinstance" p) [a, .Tuple es kk pt] [] pos) (rV X.w X.K fa fun ρ => do let v ← m ρ; let b ← wIsi k v; pure (.bl b)) := by
  obtain ⟨cs, p1, pl, p2, p3, p4⟩ := ks_names hb es {} k hk
  refine PEimp (pe_callB call_isiT hg hm boot_isinstance (pa_cons ha (pa_cons (pe_tup p1) pa_nil) (star_no hs)) (by decide) (by decide) (star_no hs) rfl) fun σ H Q ⟨ι, ρ, S, c, S', rs, rr, hw, q⟩ => ?_
  obtain ⟨v, S1, h1, hw1⟩ := bindM hw
  obtain ⟨b, S2, h2, hw2⟩ := bindM hw1
  obtain ⟨rfl, rfl⟩ := retM hw2
  refine ⟨ι, ρ, S, v, S1, rs, rr, h1, fun u H1 ι1 x1 rs1 rv1 => ?_⟩
  obtain ⟨T, ty, e, ht⟩ := ty_of rs1 rv1 h2
  obtain ⟨t1, t2⟩ := ty_ans ht
  refine ⟨by rw [List.length_map, pl, sizeLine_eq]; omega, fun tp htp => ?_⟩
  obtain ⟨x2, rs2, n2⟩ := rs1.new (o := .tup (cs.map V.ty)) htp
  obtain ⟨T', ty', e', ht'⟩ := ty_of rs2 (rv1.mono x2) h2
  obtain ⟨t1', t2'⟩ := ty_ans ht'
  refine ⟨u, tp, cs.map V.ty, .type T', cs.map Value.type, b, rfl, upd_same, ?_, ty', ?_, ?_⟩
  · exact cls_all cs
  · rw [kit_any T' t1' cs p3, t2', p4 T' t1', kAns_no]; rfl
  · subst e
    exact (q.mono (x1.trans x2)).here rs2 (rv_bl.mpr rfl)
end
end TS

set_option Elab.async false
set_option linter.all false
set_option maxRecDepth 100000
/-! A15: dict displays. -/
namespace TS
open PySem L2 StX PyProof.Rows

/-! ### the pairs, then the puts -/
def dp (gc : Nat → W) (cf : Nat → List W → M W) : E → Rho → M (List (W × W))
  | .dnil, _ => .ret []
  | .dpair k v ds, ρ => do let x ← (den gc cf k).v ρ; let y ← (den gc cf v).v ρ; let r ← dp gc cf ds ρ; pure ((x, y) :: r)
  | _, _ => .no
def putAll : List W × List W → List (W × W) → Option (List W × List W)
  | p, [] => some p
  | p, (x, y) :: r => if keyFor p.1 x = true then putAll (dPut p.1 p.2 x y) r else none
def allPairs : E → Nat → Bool
  | .dnil, _ => true
  | .dpair _ _ ds, n + 1 => allPairs ds n
  | _, _ => false
theorem dp_den {gc : Nat → W} {cf : Nat → List W → M W} : ∀ (ds : E) (n : Nat) (ρ : Rho) (p p' : List W × List W) (S S' : Sto), allPairs ds n = true → (den gc cf ds).d ρ p S = some (p', S') → ∃ prs, dp gc cf ds ρ S = some (prs, S') ∧ putAll p prs = some p' ∧ prs.length ≤ n
  | .dnil, n, ρ, p, p', S, S', _, h => by
    have h : some (p, S) = some (p', S') := h
    cases h
    exact ⟨[], rfl, rfl, Nat.zero_le _⟩
  | .dpair k v ds, n, ρ, p, p', S, S', hp, h => by
    cases n with
    | zero => cases hp
    | succ n =>
      have h : (do
        let x ← (den gc cf k).v ρ
        let y ← (den gc cf v).v ρ
        M.grd (keyFor p.1 x)
        (den gc cf ds).d ρ (dPut p.1 p.2 x y) : M (List W × List W)) S = some (p', S') := h
      obtain ⟨x, S1, h1, k1⟩ := bindM h
      obtain ⟨y, S2, h2, k2⟩ := bindM k1
      obtain ⟨_, S3, h3, k3⟩ := bindM k2
      obtain ⟨hk, e⟩ := grdM h3
      rw [e] at k3
      obtain ⟨prs, q1, q2, q3⟩ := dp_den ds n ρ _ p' _ S' hp k3
      refine ⟨(x, y) :: prs, ?_, ?_, by simp; omega⟩
      · show (do let x ← (den gc cf k).v ρ; let y ← (den gc cf v).v ρ; let r ← dp gc cf ds ρ; pure ((x, y) :: r) : M (List (W × W))) S = _
        rw [bind_some h1, bind_some h2, bind_some q1]
        rfl
      · show (if keyFor p.1 x = true then _ else _) = _
        rw [if_pos hk]; exact q2

section
variable {w : World} {K : PySem.W.Frag} {fa : Nat → Option Addr}
/-- the dict in the making at D, from the base ι1, H1 -/
structure Mkd (w : World) (K : PySem.W.Frag) (fa : Nat → Option Addr) (ι1 : Pls) (H1 : Hp) (D : Addr) (ι2 : Pls) (H2 : Hp) (S2 : Sto) (ks us : List W) : Prop where
  xh : Exh ι1 H1 ι2 H2
  ex : Ext ι1 H1 ι2.show H2
  rs : RS w K fa H2 ι2 S2
  hd : ι2.hd = D :: ι1.hd
  at_ : ∃ es ep kvs uvs, H2 D = some (dOb D es ep) ∧ Ents w ks kvs uvs es ∧ (ks.map W.nkey).Nodup ∧ RVs w K fa H2 ι2 ks kvs ∧ RVs w K fa H2 ι2 us uvs
variable {ι1 ι2 : Pls} {H1 H2 : Hp} {D : Addr} {S2 : Sto} {ks us : List W}
theorem Mkd.start (rs : RS w K fa H1 ι1 S2) (hD : H1 D = none) : Mkd w K fa ι1 H1 D (ι1.hide D) (upd H1 D (dOb D [] 0)) S2 [] [] :=
  ⟨exh_hide hD, (show Ext ι1 H1 ι1 _ from ext_new hD), rs.hide hD, rfl, [], 0, [], [], upd_same, .nil, .nil, .nil, .nil⟩
theorem Mkd.step {ι3 : Pls} {H3 : Hp} {S3 : Sto} (m : Mkd w K fa ι1 H1 D ι2 H2 S2 ks us) (x : Ext ι2 H2 ι3 H3) (rs : RS w K fa H3 ι3 S3) : Mkd w K fa ι1 H1 D ι3 H3 S3 ks us := by
  obtain ⟨es, ep, kvs, uvs, h1, h2, h3, h4, h5⟩ := m.at_
  have nd : D ∉ ι2.pl := m.rs.dj D (by rw [m.hd]; exact List.mem_cons_self)
  exact ⟨m.xh.trans x.exh, m.ex.trans x.show, rs, x.hid.trans m.hd, es, ep, kvs, uvs, x.keep D _ h1 nd, h2, h3, h4.mono x, h5.mono x⟩
theorem Mkd.put {x y : W} {kv uv : V} {key v : Value} {es : List DictEntry} {ep : Nat} {kvs uvs : List V} (m : Mkd w K fa ι1 H1 D ι2 H2 S2 ks us) (hD : H1 D = none) (hk : keyFor ks x = true) (rk : RelV kv key) (rv : RelV uv v) (r1 : RV w K fa H2 ι2 x kv) (r2 : RV w K fa H2 ι2 y uv)
    (h1 : H2 D = some (dOb D es ep)) (h2 : Ents w ks kvs uvs es) (h3 : (ks.map W.nkey).Nodup) (h4 : RVs w K fa H2 ι2 ks kvs) (h5 : RVs w K fa H2 ι2 us uvs) :
    Mkd w K fa ι1 H1 D ι2 (upd H2 D (dOb D (putE es (kIdx ks x) (x.nkey.hash w) key v) (putN ep (kIdx ks x)))) S2 (dPut ks us x y).1 (dPut ks us x y).2 := by
  have hm : D ∈ ι2.hd := by rw [m.hd]; exact List.mem_cons_self
  have xw : Exh ι2 H2 ι2 (upd H2 D (dOb D (putE es (kIdx ks x) (x.nkey.hash w) key v) (putN ep (kIdx ks x)))) := exh_write hm
  obtain ⟨l1, l2, l3⟩ := ents_len h2
  refine ⟨m.xh.trans xw, m.ex.wr hD, m.rs.write hm, m.hd, ?_⟩
  have hup : (upd H2 D (dOb D (putE es (kIdx ks x) (x.nkey.hash w) key v) (putN ep (kIdx ks x)))) D = some (dOb D (putE es (kIdx ks x) (x.nkey.hash w) key v) (putN ep (kIdx ks x))) := upd_same
  generalize hH3 : upd H2 D (dOb D (putE es (kIdx ks x) (x.nkey.hash w) key v) (putN ep (kIdx ks x))) = H3 at xw hup
  unfold dPut
  unfold putE putN at hup
  cases hix : kIdx ks x with
  | some j =>
    rw [hix] at hup
    have hj : j < es.length := by
      unfold kIdx at hix
      have := (List.findIdx?_eq_some_iff_getElem.mp hix).1
      omega
    exact ⟨_, _, kvs, uvs.set j uv, hup, (ents_put (k := x) rfl rk rv h2).1 j hj, h3, h4.monoH xw, (h5.monoH xw).set (r2.monoH xw) j⟩
  | none =>
    rw [hix] at hup
    refine ⟨_, _, kvs ++ [kv], uvs ++ [uv], hup, (ents_put rfl rk rv h2).2, ?_, (h4.monoH xw).append (.cons (r1.monoH xw) .nil), (h5.monoH xw).append (.cons (r2.monoH xw) .nil)⟩
    rw [List.map_append]
    refine List.nodup_append.mpr ⟨h3, by simp, fun a ha b hb => ?_⟩
    have hb : b = x.nkey := by simpa using hb
    subst hb
    obtain ⟨k', hk', rfl⟩ := List.mem_map.mp ha
    intro eq
    unfold kIdx at hix
    have := List.findIdx?_eq_none_iff.mp hix k' hk'
    obtain ⟨q1, q2⟩ := keyFor_hk hk
    rw [eqv_dec (q2 k' hk') q1, decide_eq_true eq] at this
    cases this
theorem RS.place {S : Sto} {ob : Ob} (r : RS w K fa H2 ι2 S) (hd : ι2.hd = D :: ι1.hd) (nd : D ∉ ι1.hd) (ho : ∀ ι', Exh ι2 H2 ι' H2 → RO w K fa H2 ι' D ob) : RS w K fa H2 (ι2.show.push D) (S ++ [ob]) ∧ Exh ι2 H2 (ι2.show.push D) H2 := by
  have hm : D ∈ ι2.hd := by rw [hd]; exact List.mem_cons_self
  have np : D ∉ ι2.pl := r.dj D hm
  have x : Exh ι2 H2 (ι2.show.push D) H2 := by
    refine ⟨fun n a h => ?_, fun a h n m => ?_, fun a u h n => h, fun a h => h, fun a h n m => n (List.mem_of_mem_tail m), fun a es ep n h => ⟨es, ep, h, Nat.le_refl _, fun _ => rfl⟩⟩
    · show (ι2.pl ++ [D])[n]? = some a
      rw [List.getElem?_append_left (List.getElem?_eq_some_iff.mp h).1]; exact h
    · rw [Pls.nmem] at n
      rcases Pls.mem.mp m with m | m
      · rcases List.mem_append.mp (show a ∈ ι2.pl ++ [D] from m) with m | m
        · exact n.1 m
        · rw [List.mem_singleton.mp m] at n; exact n.2 hm
      · exact n.2 (List.mem_of_mem_tail m)
  refine ⟨⟨by show (ι2.pl ++ [D]).length = _; simp [r.len], List.nodup_append.mpr ⟨r.nd, by simp, fun a ha b hb => by rw [List.mem_singleton.mp hb]; exact fun e => np (e ▸ ha)⟩, fun a ha m => ?_, fun a m => r.hid a (List.mem_of_mem_tail m), fun k u a h1 h2 => ?_⟩, x⟩
  · have ha : a ∈ ι2.hd.tail := ha
    rw [hd] at ha
    rcases List.mem_append.mp (show a ∈ ι2.pl ++ [D] from m) with m | m
    · exact r.dj a (by rw [hd]; exact List.mem_cons_of_mem _ ha) m
    · rw [List.mem_singleton.mp m] at ha; exact nd ha
  · have h2 : (ι2.pl ++ [D])[k]? = some a := h2
    by_cases hk : k < S.length
    · rw [List.getElem?_append_left hk] at h1
      rw [List.getElem?_append_left (by rw [r.len]; exact hk)] at h2
      exact (r.ob k u a h1 h2).monoH x rfl
    · have hk' : k = S.length := by
        have := (List.getElem?_eq_some_iff.mp h1).1
        simp at this; omega
      subst hk'
      rw [List.getElem?_append_right (Nat.le_refl _), Nat.sub_self] at h1
      rw [← r.len, List.getElem?_append_right (Nat.le_refl _), Nat.sub_self] at h2
      simp at h1 h2
      subst h1 h2
      exact ho _ x
theorem Mkd.fin {Q : VK} {S : Sto} {ι : Pls} {H : Hp} (m : Mkd w K fa ι1 H1 D ι2 H2 S2 ks us) (x : Ext ι H ι1 H1) (hD : H1 D = none) (rs1 : RS w K fa H1 ι1 S) (q : After w K fa ι H (.ref S2.length) (S2 ++ [.dct ks us]) Q) : Q (.ref D) H2 := by
  obtain ⟨es, ep, kvs, uvs, h1, h2, h3, h4, h5⟩ := m.at_
  have nd : D ∉ ι1.hd := fun z => rs1.hid D z hD
  obtain ⟨rs', xh⟩ := m.rs.place m.hd nd (ob := .dct ks us) fun ι' x => ⟨es, ep, kvs, uvs, h1, h2, h3, h4.monoH x, h5.monoH x⟩
  have ex : Ext ι1 H1 (ι2.show.push D) H2 := by
    obtain ⟨κ, e, hk⟩ := m.ex.pre
    refine ⟨⟨κ ++ [D], by show ι2.show.pl ++ [D] = _; rw [e, List.append_assoc], fun a ha => ?_⟩, m.ex.hid, m.ex.keep, m.ex.there, m.ex.dk⟩
    rcases List.mem_append.mp ha with ha | ha
    · exact hk a ha
    · rw [List.mem_singleton.mp ha]; exact hD
  refine q _ H2 _ (x.trans ex) rs' (rv_ref.mpr ⟨D, ?_, rfl⟩)
  show (ι2.pl ++ [D])[S2.length]? = some D
  rw [← m.rs.len]; simp
end

section
variable {X : Cx} {fa : Nat → Option Addr} {gc : Nat → W} {cf : Nat → List W → M W}
abbrev KVs (xs : List (V × V)) (us : List (Value × Value)) : Prop := Paired (fun (a : V × V) (b : Value × Value) => RelV a.1 b.1 ∧ RelV a.2 b.2) xs us
/-- the pairs of a display -/
def PDp (X : Cx) (fa : Nat → Option Addr) (gc : Nat → W) (cf : Nat → List W → M W) (ks : List (Option Expr)) (vs : List Expr) (ds : E) : Prop :=
  ∀ (pos : Pos) (pins : List (Addr × Obj)) (s : Shared) (σ : L2.St) (H : Hp) (ι : Pls) (ρ : Rho) (S S' : Sto) (prs : List (W × W)) (Q : List (V × V) → Hp → Prop), Inv X pins σ H s → RS X.w X.K fa H ι S → RR X.w X.K fa H ι ρ σ → dp gc cf ds ρ S = some (prs, S') →
    (∀ xs H' ι', Ext ι H ι' H' → RS X.w X.K fa H' ι' S' → RVs X.w X.K fa H' ι' (prs.map (·.1)) (xs.map (·.1)) → RVs X.w X.K fa H' ι' (prs.map (·.2)) (xs.map (·.2)) → Q xs H') →
    wpAny (model X.prog X.w) X.A (evalPairs (pairTrees ks vs X.env pos)) (fun us s' => ∃ xs H', Inv X pins σ H' s' ∧ KVs xs us ∧ Q xs H') X.xe s
theorem dp_nil : PDp X fa gc cf [] [] .dnil := by
  intro pos pins s σ H ι ρ S S' prs Q I rs rr hd q
  have e : some (([] : List (W × W)), S) = some (prs, S') := hd
  cases e
  exact evalPairs_nil ⟨[], H, I, .nil, q [] H ι (Ext.refl _ _) rs .nil .nil⟩
theorem dp_cons {k v : Expr} {ks : List (Option Expr)} {vs : List Expr} {k' v' ds : E} (h1 : PE X k (rV X.w X.K fa (den gc cf k').v)) (h2 : PE X v (rV X.w X.K fa (den gc cf v').v)) (h3 : PDp X fa gc cf ks vs ds) : PDp X fa gc cf (some k :: ks) (v :: vs) (.dpair k' v' ds) := by
  intro pos pins s σ H ι ρ S S' prs Q I rs rr hd q
  have hd : (do let x ← (den gc cf k').v ρ; let y ← (den gc cf v').v ρ; let r ← dp gc cf ds ρ; pure ((x, y) :: r) : M (List (W × W))) S = some (prs, S') := hd
  obtain ⟨x, S1, e1, hd⟩ := bindM hd
  obtain ⟨y, S2, e2, hd⟩ := bindM hd
  obtain ⟨r, S3, e3, hd⟩ := bindM hd
  obtain ⟨rfl, rfl⟩ := retM hd
  refine evalPairs_cons (thn (h1.run pins s σ H (fun v H1 => ∃ ι1, Ext ι H ι1 H1 ∧ RS X.w X.K fa H1 ι1 S1 ∧ RV X.w X.K fa H1 ι1 x v) I ⟨ι, ρ, S, x, S1, rs, rr, e1, fun v H1 ι1 x1 rs1 rv1 => ⟨ι1, x1, rs1, rv1⟩⟩) fun u1 s1 ⟨v1, H1, I1, r1, ι1, x1, rs1, rv1⟩ => ?_)
  refine wpAny_bind (thn (h2.run pins s1 σ H1 (fun v H2 => ∃ ι2, Ext ι1 H1 ι2 H2 ∧ RS X.w X.K fa H2 ι2 S2 ∧ RV X.w X.K fa H2 ι2 y v) I1 ⟨ι1, ρ, S1, y, S2, rs1, rr.mono x1, e2, fun v H1 ι1 x1 rs1 rv1 => ⟨ι1, x1, rs1, rv1⟩⟩) fun u2 s2 ⟨v2, H2, I2, r2, ι2, x2, rs2, rv2⟩ => ?_)
  refine wpAny_bind (wpAny_standAt (wpAny_pure ?_))
  refine thn (h3 pos pins s2 σ H2 ι2 ρ S2 _ r (fun xs H' => Q ((v1, v2) :: xs) H') I2 rs2 ((rr.mono x1).mono x2) e3 fun xs H3 ι3 x3 rs3 ra rb => ?_) fun us s3 ⟨xs, H3, I3, kv, q3⟩ => ⟨(v1, v2) :: xs, H3, I3, .cons ⟨r1, r2⟩ kv, q3⟩
  exact q ((v1, v2) :: xs) H3 ι3 ((x1.trans x2).trans x3) rs3 (.cons ((rv1.mono x2).mono x3) ra) (.cons (rv2.mono x3) rb)
theorem store_ok {pins : List (Addr × Obj)} {σ : L2.St} {D : Addr} {ι1 : Pls} {H1 : Hp} (hu : X.A.units + 65 < cLine) (hD : H1 D = none) : ∀ (prs : List (W × W)) (xs : List (V × V)) (uss : List (Value × Value)) (s : Shared) (H2 : Hp) (ι2 : Pls) (S2 : Sto) (ks us ks' us' : List W) (Q : PUnit → Shared → Prop),
    Inv X pins σ H2 s → Mkd X.w X.K fa ι1 H1 D ι2 H2 S2 ks us → KVs xs uss → RVs X.w X.K fa H2 ι2 (prs.map (·.1)) (xs.map (·.1)) → RVs X.w X.K fa H2 ι2 (prs.map (·.2)) (xs.map (·.2)) → putAll (ks, us) prs = some (ks', us') → ks.length + prs.length ≤ sizeLine →
    (∀ s' H3, Inv X pins σ H3 s' → Mkd X.w X.K fa ι1 H1 D ι2 H3 S2 ks' us' → Q PUnit.unit s') → wpAny (model X.prog X.w) X.A (storeAll D uss) Q X.xe s
  | [], xs, uss, s, H2, ι2, S2, ks, us, ks', us', Q, I, mk, kv, ra, rb, hp, hz, q => by
    have : xs = [] := by
      have := ra.nil_inv
      simpa using this
    subst this
    cases kv
    cases hp
    unfold storeAll
    rw [List.forIn_nil]
    exact wpAny_pure (q s H2 I mk)
  | (x, y) :: prs, xs, uss, s, H2, ι2, S2, ks, us, ks', us', Q, I, mk, kv, ra, rb, hp, hz, q => by
    cases kv with
    | nil => obtain ⟨v, vs', e, _⟩ := ra.cons_inv; cases e
    | @cons a b as bs r0 kv =>
      obtain ⟨kw, uw⟩ := a
      obtain ⟨ku, uu⟩ := b
      obtain ⟨v1, vs1, e1, ra1, ra2⟩ := ra.cons_inv
      obtain ⟨v2, vs2, e2, rb1, rb2⟩ := rb.cons_inv
      simp only [List.map_cons] at e1 e2
      cases e1; cases e2
      obtain ⟨r1, r2⟩ := r0
      simp only [putAll] at hp
      split at hp
      · rename_i hk
        obtain ⟨es, ep, kvs, uvs, h1, h2, h3, h4, h5⟩ := mk.at_
        obtain ⟨g1, g2, o, ho, hc, hd⟩ := dob_at I h1
        obtain ⟨l1, l2, l3⟩ := ents_len h2
        obtain ⟨c, ka⟩ := key_at (A := X.A) (us := us) (by omega) I ho hd h2 h3 h4 hk ra1 r1
        have hm : D ∈ ι2.hd := by rw [mk.hd]; exact List.mem_cons_self
        unfold storeAll
        rw [List.forIn_cons]
        refine wpAny_bind (wpAny_bind (d_set ka ho hc hd g2 fun h' o' g h6 h7 h8 => wpAny_pure ?_))
        have hle : (putE es (kIdx ks x) (x.nkey.hash X.w) ku uu).length ≤ sizeLine := by
          unfold putE
          simp only [List.length_cons] at hz
          cases kIdx ks x with
          | some i => simpa using g2
          | none => simp; omega
        have mk' := mk.put (y := y) hD hk r1 r2 ra1 rb1 h1 h2 h3 h4 h5
        have xw : Exh ι2 H2 ι2 (upd H2 D (dOb D (putE es (kIdx ks x) (x.nkey.hash X.w) ku uu) (putN ep (kIdx ks x)))) := exh_write hm
        have I' := I.write (t' := s.toks + c) (x := D) (e := D) (by rw [h1]; exact trivial) (.inl rfl) (fun b z hb hz => (h8.2 b hb).trans hz) ⟨_, g⟩ (dob_ok g1 hle g h6 h7)
        have hl : (dPut ks us x y).1.length ≤ ks.length + 1 := by
          unfold dPut
          cases kIdx ks x with
          | some i => simp
          | none => simp
        exact store_ok hu hD prs as bs _ _ ι2 S2 _ _ ks' us' Q I' mk' kv (ra2.monoH xw) (rb2.monoH xw) hp (by simp only [List.length_cons] at hz; omega) q
      · cases hp
/-- a display of pairs -/
theorem ev_dct {ks : List (Option Expr)} {vs : List Expr} {pos : Pos} {ds : E} (hu : X.A.units + 65 < cLine) (hall : ks.all (·.isSome) = true) (hl : ks.length = vs.length) (h0 : ks ≠ []) (hlen : ks.length ≤ 15) (hap : allPairs ds 15 = true) (hd : PDp X fa gc cf ks vs ds) :
    PE X (.Dict ks vs pos) (rV X.w X.K fa (den gc cf (.dct ds)).v) := by
  refine ⟨fun pins s σ H Q I ⟨ι, ρ, S, a, S', rs, rr, hm, q⟩ => ?_⟩
  have hm : (do let p ← (den gc cf ds).d ρ ([], []); M.fits p.1.length; M.new (.dct p.1 p.2) : M W) S = some (a, S') := hm
  obtain ⟨⟨ks', us'⟩, S2, h1, k1⟩ := bindM hm
  obtain ⟨_, S3, h2, k2⟩ := bindM k1
  obtain ⟨_, e2⟩ := grdM h2
  rw [e2] at k2
  have e : some (W.ref S2.length, S2 ++ [Ob.dct ks' us']) = some (a, S') := k2
  clear hm k1 k2 h2 e2
  cases e
  obtain ⟨prs, q1, q2, q3⟩ := dp_den ds 15 ρ _ _ _ _ hap h1
  have hD : H s.heap.objs.size = none := I.fresh
  have mk0 := Mkd.start (w := X.w) (K := X.K) (fa := fa) rs hD
  have I0 : Inv X pins σ (upd H s.heap.objs.size (dOb s.heap.objs.size [] 0)) { s with heap := s.heap.push { cls := .type "dict", data := .dict #[] } } := by
    refine I.laid (t' := s.toks) (fun b o e => Heap.get?_push_of_some _ e) (Nat.le_refl _) ?_
    exact dob_ok (beq_eq_false_iff_ne.mpr (Ne.symm (Nat.ne_of_lt I.big))) (Nat.zero_le _) (Heap.get?_push_size _ rfl) ⟨rfl, rfl, rfl⟩ rfl
  refine wpAny_Dict_any hall hl h0 hlen ?_
  refine thn (hd pos pins _ σ _ (ι.hide s.heap.objs.size) ρ S _ prs (fun xs H' => ∃ ι', Ext (ι.hide s.heap.objs.size) (upd H s.heap.objs.size (dOb s.heap.objs.size [] 0)) ι' H' ∧ RS X.w X.K fa H' ι' S2 ∧ RVs X.w X.K fa H' ι' (prs.map (·.1)) (xs.map (·.1)) ∧ RVs X.w X.K fa H' ι' (prs.map (·.2)) (xs.map (·.2))) I0 mk0.rs (rr.monoH mk0.xh) q1 fun xs H' ι' x rs ra rb => ⟨ι', x, rs, ra, rb⟩) fun us s1 ⟨xs, H1, I1, kv, ι1, x1, rs1, ra, rb⟩ => ?_
  refine store_ok hu hD prs xs us s1 H1 ι1 S2 [] [] ks' us' _ I1 (mk0.step x1 rs1) kv ra rb q2 (by simp only [List.length_nil, Nat.zero_add, sizeLine_eq]; omega) fun s2 H2 I2 mk2 => ?_
  exact ⟨.ref s.heap.objs.size, H2, I2, rfl, mk2.fin (Ext.refl _ _) hD rs q⟩
end
end TS

set_option Elab.async false
set_option linter.all false
set_option maxRecDepth 100000
/-! A16: the expressions of the small syntax are sound. -/
namespace TS
open PySem L2 StX PyProof.Rows

/-! ### some more forms -/
section
variable {X : Cx} {fa : Nat → Option Addr} {pos : Pos}
theorem tt_ifx {c a b : Expr} {mc ma mb : Rho → M W} (hc : PT X c (rB X.w X.K fa fun ρ => truth (mc ρ))) (ha : PT X a (rB X.w X.K fa fun ρ => truth (ma ρ))) (hb : PT X b (rB X.w X.K fa fun ρ => truth (mb ρ))) :
    PT X (.IfExp c a b pos) (rB X.w X.K fa fun ρ => truth (do let c ← truth (mc ρ); if c = true then ma ρ else mb ρ)) := by
  refine ⟨fun pins s σ H Q I ⟨ι, ρ, S, r, S', rs, rr, hm, q⟩ => ?_⟩
  obtain ⟨d, S1, h1, hm1⟩ := bindM (truthM hm)
  show wpAny _ _ (isTrue c X.env (eval c X.env) >>= fun k => if k = true then isTrue a X.env (eval a X.env) else isTrue b X.env (eval b X.env)) _ _ s
  refine wpAny_bind (thn (hc.run pins s σ H (fun k H1 => if k = true then rB X.w X.K fa (fun ρ => truth (ma ρ)) σ H1 Q else rB X.w X.K fa (fun ρ => truth (mb ρ)) σ H1 Q) I ⟨ι, ρ, S, d, S1, rs, rr, h1, fun H1 ι1 x1 rs1 => ?_⟩) fun k s1 ⟨H1, I1, q1⟩ => ?_)
  · cases d with
    | true => exact ⟨ι1, ρ, S1, r, S', rs1, rr.mono x1, truth_some hm1, fun H2 ι2 x2 rs2 => q H2 ι2 (x1.trans x2) rs2⟩
    | false => exact ⟨ι1, ρ, S1, r, S', rs1, rr.mono x1, truth_some hm1, fun H2 ι2 x2 rs2 => q H2 ι2 (x1.trans x2) rs2⟩
  · cases k with
    | true => exact ha.run pins s1 σ H1 Q I1 q1
    | false => exact hb.run pins s1 σ H1 Q I1 q1
theorem ev_isb {a : Expr} {ma : Rho → M W} {j : Nat} {p' : Pos} {b : Bool} (ha : PE X a (rV X.w X.K fa ma)) : PE X (.Compare a [.Is] [.Constant (.bool b) j p'] pos) (rV X.w X.K fa fun ρ => do let x ← ma ρ; wIsb x b) :=
  PEimp (pe_cmpR op_isBl ha pe_bl (by rfl)) fun σ H Q ⟨ι, ρ, S, c, S', rs, rr, hm, q⟩ => by
    obtain ⟨x, S1, h1, hm1⟩ := bindM hm
    refine ⟨ι, ρ, S, x, S1, rs, rr, h1, fun v H1 ι1 x1 rs1 rv1 => ?_⟩
    cases x with
    | bl k =>
      have e : some (W.bl (decide (k = b)), S1) = some (c, S') := hm1
      cases e
      rw [rv_bl] at rv1
      exact ⟨k, b, rv1, rfl, (q.mono x1).here rs1 (rv_bl.mpr rfl)⟩
    | _ => cases hm1
theorem tt_isb {a : Expr} {ma : Rho → M W} {j : Nat} {p' : Pos} {b : Bool} (ha : PE X a (rV X.w X.K fa ma)) : PT X (.Compare a [.Is] [.Constant (.bool b) j p'] pos) (rB X.w X.K fa fun ρ => truth (do let x ← ma ρ; wIsb x b)) :=
  tt_cmp (r := rIsB) (pt_cmpR op_isBl ha pe_bl (by rfl)) fun σ H Q ⟨ι, ρ, S, c, S', rs, rr, hm, q⟩ => by
    obtain ⟨x, S1, h1, hm1⟩ := bindM hm
    refine ⟨ι, ρ, S, x, S1, rs, rr, h1, fun v H1 ι1 x1 rs1 rv1 => ?_⟩
    cases x with
    | bl k =>
      have e : some (W.bl (decide (k = b)), S1) = some (c, S') := hm1
      cases e
      rw [rv_bl] at rv1
      exact ⟨k, b, rv1, rfl, (q.mono x1).here rs1 (rv_bl.mpr rfl)⟩
    | _ => cases hm1
theorem ev_neg {i : Int} {k : Nat} {p' : Pos} : PE X (.UnaryOp .USub (.Constant (.int i) k p') pos) (rV X.w X.K fa fun _ => .ret (.int (-i))) :=
  PEimp (pe_un un_neg pe_int) fun σ H Q ⟨ι, ρ, S, b, S', rs, rr, hm, q⟩ => by
    have e : some (W.int (-i), S) = some (b, S') := hm
    cases e
    exact ⟨i, rfl, q.here rs (rv_int.mpr rfl)⟩
/-- a global name -/
theorem ev_glob {x : Str} {p : Pos} {u : Value} {v : V} {a : W} (hg : Gl X x) (hm : X.mg x = some u) (r : RelV v u) (hd : (x == ("__debug__" : Str)) = false) (rv : ∀ H ι, RV X.w X.K fa H ι a v) : PE X (.Name x p) (rV X.w X.K fa fun _ => .ret a) :=
  ev_const (pe_glob hg hm r hd) rv
/-- o.m(e, ..) -/
theorem ev_mth {o e : Expr} {es : List Expr} {name : Str} {apos cpos : Pos} {T id : String} {isT : V → Hp → Prop} {m : Mth} {g : W → List W → M W} {ma : Rho → M W} {ms : Rho → M (List W)} (pa : PlainAttrs T) (slot : Slot T name id) (hty : typeOf (.builtin id) = pure (.type "method_descriptor"))
    (hm : MtR X id (rMt X.w X.K fa g)) (hi : ∀ (pins : List (Addr × Obj)) (s : Shared) (σ : L2.St) (H : Hp) (x : V) (v : Value), Inv X pins σ H s → RelV x v → isT x H → s.TypeIs v T ∧ ∀ a, v = .ref a → ∃ ob, s.heap.get? a = some ob ∧ ob.dict = none)
    (hr : ∀ (x : W) (S S' : Sto) (u : Unit), wRecv m x S = some (u, S') → S' = S ∧ ∀ H ι v, RS X.w X.K fa H ι S → RV X.w X.K fa H ι x v → isT v H)
    (ho : PE X o (rV X.w X.K fa ma)) (ha : PA X (e :: es) (rA X.w X.K fa ms)) (hbase : attributeBase o name X.env (eval o X.env) = eval o X.env) (hfew : (e :: es).length < 29) (hline : (apos.endLine == cpos.line) = true) (hs : isStar e = false) (hst : es.any isStar = false) :
    PE X (.Call (.Attribute o name apos) (e :: es) [] cpos) (rV X.w X.K fa fun ρ => do let x ← ma ρ; wRecv m x; let ws ← ms ρ; g x ws) :=
  PEimp (bmW pa slot hty hm ho ha hi hbase hfew hline hs hst) fun σ H Q ⟨ι, ρ, S, b, S', rs, rr, hw, q⟩ => by
    obtain ⟨x, S1, h1, hw1⟩ := bindM hw
    obtain ⟨u, S2, h2, hw2⟩ := bindM hw1
    obtain ⟨ws, S3, h3, hw3⟩ := bindM hw2
    obtain ⟨e2, ht⟩ := hr x _ _ _ h2
    rw [e2] at h3
    exact ⟨ι, ρ, S, x, S1, rs, rr, h1, fun v H1 ι1 x1 rs1 rv1 => ⟨ht H1 ι1 v rs1 rv1, ι1, ρ, S1, ws, S3, rs1, rr.mono x1, h3, fun vs H2 ι2 x2 rs2 rv2 => ⟨ι2, S3, x, ws, b, S', rs2, rv1.mono x2, rv2, hw3, q.mono (x1.trans x2)⟩⟩⟩
theorem ev_mth0 {o : Expr} {name : Str} {apos cpos : Pos} {T id : String} {m : Mth} {g : W → List W → M W} {ma : Rho → M W} (pa : PlainAttrs T) (slot : Slot T name id) (hty : typeOf (.builtin id) = pure (.type "method_descriptor"))
    (hm : MtR X id (rMt X.w X.K fa g))
    (hr : ∀ (x : W) (S S' : Sto) (u : Unit), wRecv m x S = some (u, S') → S' = S ∧ ∀ H ι v, RS X.w X.K fa H ι S → RV X.w X.K fa H ι x v → tyV X.K T v H)
    (ho : PE X o (rV X.w X.K fa ma)) (hbase : attributeBase o name X.env (eval o X.env) = eval o X.env) (hline : (apos.endLine == cpos.line) = true) :
    PE X (.Call (.Attribute o name apos) [] [] cpos) (rV X.w X.K fa fun ρ => do let x ← ma ρ; wRecv m x; let ws ← (M.ret [] : M (List W)); g x ws) :=
  PEimp (pe_bm0 pa slot hty hm ho hbase hline) fun σ H Q ⟨ι, ρ, S, b, S', rs, rr, hw, q⟩ => by
    obtain ⟨x, S1, h1, hw1⟩ := bindM hw
    obtain ⟨u, S2, h2, hw2⟩ := bindM hw1
    obtain ⟨ws, S3, h3, hw3⟩ := bindM hw2
    have e3 : some (([] : List W), S2) = some (ws, S3) := h3
    cases e3
    obtain ⟨e2, ht⟩ := hr x _ _ _ h2
    rw [e2] at hw3
    exact ⟨ι, ρ, S, x, S1, rs, rr, h1, fun v H1 ι1 x1 rs1 rv1 => ⟨ht H1 ι1 v rs1 rv1, ι1, S1, x, [], b, S', rs1, rv1, .nil, hw3, q.mono x1⟩⟩
theorem recv_lst {m : Mth} (hm : m = .append ∨ m = .pop0 ∨ m = .pop1 ∨ m = .insert) (x : W) (S S' : Sto) (u : Unit) (h : wRecv m x S = some (u, S')) : S' = S ∧ ∀ H ι v, RS X.w X.K fa H ι S → RV X.w X.K fa H ι x v → tyV X.K "list" v H := by
  have h0 : (if (listOf S x).isSome = true then some ((), S) else none) = some (u, S') := by rcases hm with rfl | rfl | rfl | rfl <;> exact h
  split at h0
  · rename_i hl
    cases h0
    obtain ⟨ws, hw⟩ := Option.isSome_iff_exists.mp hl
    refine ⟨rfl, fun H ι v rs rv => ?_⟩
    obtain ⟨p, vs, rfl, hq, _⟩ := listOf_rv rs hw rv
    exact .inl ⟨rfl, vs, hq⟩
  · cases h0
theorem recv_dct {m : Mth} (hm : m = .get1 ∨ m = .get2) (x : W) (S S' : Sto) (u : Unit) (h : wRecv m x S = some (u, S')) : S' = S ∧ ∀ H ι v, RS X.w X.K fa H ι S → RV X.w X.K fa H ι x v → isDctV v H := by
  have h0 : (if (dictOf S x).isSome = true then some ((), S) else none) = some (u, S') := by rcases hm with rfl | rfl <;> exact h
  split at h0
  · rename_i hl
    cases h0
    obtain ⟨⟨ks, us⟩, hw⟩ := Option.isSome_iff_exists.mp hl
    refine ⟨rfl, fun H ι v rs rv => ?_⟩
    obtain ⟨p, es, ep, kvs, uvs, rfl, hp, _⟩ := dictOf_rv rs hw rv
    exact ⟨p, es, ep, rfl, hp⟩
  · cases h0
theorem base_plain {o : Expr} {name : Str} (h : plainBase o = true) : attributeBase o name X.env (eval o X.env) = eval o X.env := by
  cases o with
  | Call f as ks p =>
    cases f with
    | Name id p2 =>
      cases as with
      | nil =>
        cases ks with
        | nil => cases h
        | cons k ks => rfl
      | cons a as => rfl
    | _ => rfl
  | _ => rfl
end
end TS

set_option Elab.async false
set_option linter.all false
set_option maxRecDepth 100000
/-! A17: expressions, by the fuel of tr. -/
namespace TS
open PySem L2 StX PyProof.Rows

def okB : Blt → Bool
  | .len | .list | .tuple | .all | .any | .max1 | .max2 | .min2 | .int | .bool => true
  | _ => false
def okM : Mth → Bool
  | .append | .pop0 | .pop1 | .insert | .get1 | .get2 => true
  | _ => false
/-- what is shown sound here -/
def okE : E → Bool
  | .var _ | .non | .bl _ | .int _ | .str _ | .gcon _ | .gfn _ | .nil | .dnil => true
  | .cons e es => okE e && okE es
  | .star e es => okE e && okE es
  | .tup es | .lst es => okE es
  | .dpair k v ds => okE k && okE v && okE ds
  | .dstar _ _ => false
  | .dct ds => okE ds && allPairs ds 15
  | .and a b | .or a b => okE a && okE b
  | .not a => okE a
  | .ifx c a b => okE c && okE a && okE b
  | .cmp _ a b => okE a && okE b
  | .chain _ _ a b c => okE a && okE b && okE c
  | .isn a | .notn a | .isb a _ => okE a
  | .bin _ a b => okE a && okE b
  | .ix a i => okE a && okE i
  | .slc a lo hi => okE a && okE lo && okE hi
  | .rev a => okE a
  | .call _ es | .callv _ es => okE es
  | .blt b es => okB b && okE es
  | .skey _ _ => false
  | .mth m a es => okM m && okE a && okE es
  | .isi _ a => okE a
  | .lc _ _ it c e => okE it && okE c && okE e
  | .lc2 _ _ _ it c _ it1 c1 e => okE it && okE c && okE it1 && okE c1 && okE e
  | .dc _ _ _ _ _ _ => false
  | .iter a | .rng1 a => okE a
  | .rng2 a b => okE a && okE b
  | .enum _ | .zip _ _ | .items _ => false

/-- the scope that a block runs in: a captured name may be the block's own cell -/
structure ScR (sc sc' : Scope) : Prop where
  kd : sc'.kind = sc.kind
  keep : ∀ x k, k ≠ NameKind.free → sc.names.lookup x = some k → sc'.names.lookup x = some k
  free : ∀ x, sc.names.lookup x = some .free → sc'.names.lookup x = some .free ∨ sc'.names.lookup x = some .cell
theorem ScR.refl (sc : Scope) : ScR sc sc := ⟨rfl, fun _ _ _ h => h, fun _ h => .inl h⟩
theorem rel_free {sc : Scope} : ∀ {names : List (Str × NameKind)} {x : Str}, names.lookup x = some .free →
    (names.map fun (n, k) => if (k == NameKind.free && sc.kind == .function && sc.names.lookup n == some .cell) then (n, NameKind.cell) else (n, k)).lookup x = some .free ∨
    (names.map fun (n, k) => if (k == NameKind.free && sc.kind == .function && sc.names.lookup n == some .cell) then (n, NameKind.cell) else (n, k)).lookup x = some .cell
  | [], _, h => by simp at h
  | (n, k₀) :: r, x, h => by
    have ih := @rel_free sc r x
    rw [List.map_cons]
    rw [List.lookup_cons] at h
    by_cases hx : (x == n) = true
    · rw [hx] at h
      simp only [Option.some.injEq] at h
      subst h
      show List.lookup x ((if _ then (n, NameKind.cell) else (n, NameKind.free)) :: _) = _ ∨ List.lookup x ((if _ then (n, NameKind.cell) else (n, NameKind.free)) :: _) = _
      split
      · right; rw [List.lookup_cons, hx]
      · left; rw [List.lookup_cons, hx]
    · have hx : (x == n) = false := by simpa using hx
      rw [hx] at h
      show List.lookup x ((if _ then (n, NameKind.cell) else (n, k₀)) :: _) = _ ∨ List.lookup x ((if _ then (n, NameKind.cell) else (n, k₀)) :: _) = _
      split
      · rw [List.lookup_cons, hx]; exact ih h
      · rw [List.lookup_cons, hx]; exact ih h
theorem ScR.rel (scope sc : Scope) : ScR scope (relS scope sc) := ⟨rfl, fun x k hk h => lookup_relS_keep hk h, fun x h => rel_free h⟩
/-- the context of an expression -/
structure Ct (G : Glob) (N : List Str) (gc : Nat → W) (cf : Nat → List W → M W) (fa : Nat → Option Addr) (X : Cx) (sc : Scope) : Prop where
  eN : X.N = N
  eS : ScR sc X.env.scope
  nd : N.Nodup
  calm : X.calm = true
  lvl : ∃ l, Room l X.A ∧ Tbl X.prog X.w X.K X.mg X.base fa l cf
  con : ∀ x g, G.con.lookup x = some g → ∃ u v, X.mg x = some u ∧ RelV v u ∧ ∀ H ι, RV X.w X.K fa H ι (gc g) v
  fns : ∀ x f, G.con.lookup x = none → G.fns.lookup x = some f → ∃ a, X.mg x = some (.ref a) ∧ fa f = some a
  blt : ∀ x ∈ bltNames, X.mg x = none
  fn : ∀ x, sc.names.lookup x = some .cell → X.fn x = true

section
variable {G : Glob} {N : List Str} {gc : Nat → W} {cf : Nat → List W → M W} {fa : Nat → Option Addr} {X : Cx} {sc : Scope}
theorem Ct.hu (c : Ct G N gc cf fa X sc) : X.A.units + 65 < cLine := by
  obtain ⟨l, r, _⟩ := c.lvl
  have := r.un; omega
theorem Ct.slot (c : Ct G N gc cf fa X sc) {x : Str} {i : Nat} (h : slotOf N x = some i) : X.N[i]? = some x := by
  unfold slotOf at h
  split at h
  · rename_i hm
    cases h
    rw [c.eN]
    rw [List.getElem?_eq_getElem (List.idxOf_lt_length_of_mem hm), List.getElem_idxOf]
  · cases h
theorem Ct.vis (c : Ct G N gc cf fa X sc) {x : Str} (h : isVis (sc.names.lookup x) = true) : Vis X.env.scope x := by
  unfold Vis
  cases e : sc.names.lookup x with
  | none => rw [e] at h; cases h
  | some k =>
    rw [e] at h
    cases k <;> first | (cases h; done) | skip
    · exact .inl (c.eS.keep x _ (by decide) e)
    · exact .inr (.inl (c.eS.keep x _ (by decide) e))
    · rcases c.eS.free x e with q | q
      · exact .inr (.inr q)
      · exact .inr (.inl q)
theorem Ct.own (c : Ct G N gc cf fa X sc) {x : Str} (h : isOwn (sc.names.lookup x) = true) : Loc X.env.scope x ∧ (X.fn x = true ∨ X.env.scope.names.lookup x = some .local) := by
  unfold L2.Loc
  cases e : sc.names.lookup x with
  | none => rw [e] at h; cases h
  | some k =>
    rw [e] at h
    cases k <;> first | (cases h; done) | skip
    · have := c.eS.keep x _ (by decide) e
      exact ⟨.inl this, .inr this⟩
    · exact ⟨.inr (c.eS.keep x _ (by decide) e), .inl (c.fn x e)⟩
theorem Ct.gl (c : Ct G N gc cf fa X sc) {x : Str} (h : sc.names.lookup x = some .globalImplicit) : Gl X x := by
  exact c.eS.keep x _ (by decide) h
theorem tp_debug {x : Str} (h : trPos x = true) : (x == ("__debug__" : Str)) = false ∧ (x == ("__classdict__" : Str)) = false := by
  unfold trPos at h
  rw [Bool.and_eq_true, Bool.not_eq_true', Bool.not_eq_true'] at h
  exact h
theorem Ct.bltn (c : Ct G N gc cf fa X sc) {x : Str} (h : isBlt G sc x = true) : Gl X x ∧ X.mg x = none ∧ (x == ("__debug__" : Str)) = false := by
  unfold isBlt at h
  simp only [Bool.and_eq_true] at h
  obtain ⟨⟨⟨⟨h1, h2⟩, h3⟩, _⟩, _⟩ := h
  exact ⟨c.gl (eq_of_beq h3), c.blt x (by simpa using h1), (tp_debug h2).1⟩
theorem Ct.blk (c : Ct G N gc cf fa X sc) (s : Shared) (H : Hp) (scope : Scope) (C : Addr) (cl : List (Str × Addr)) (fp : List Addr) : Ct G N gc cf fa (X.blk s H scope (compEnvC scope cl C X.env) fp) scope :=
  ⟨c.eN, ScR.rel scope X.env.scope, c.nd, c.calm, c.lvl, c.con, c.fns, c.blt, fun x h => by show (scope.names.lookup x == some .cell) = true; rw [h]; rfl⟩
theorem ct_ok (c : Ct G N gc cf fa X sc) {scope : Scope} (h : blkOk sc scope = true) : BlkOk X.N X.env.scope scope (ownOf N scope) := by
  unfold blkOk at h
  simp only [Bool.and_eq_true, List.all_eq_true] at h
  obtain ⟨⟨h1, h2⟩, h3⟩ := h
  rw [c.eN]
  refine ⟨eq_of_beq h1, fun y hy => eq_of_beq (h2 y hy), fun p hp => ?_, fun y hy e => ?_, fun y hy e => ?_⟩
  · unfold ownOf at hp
    obtain ⟨y, hy, e⟩ := List.mem_filterMap.mp hp
    split at e
    · rename_i hc
      cases e
      rw [Bool.and_eq_true] at hc
      have hm : y.1 ∈ N := by simpa using hc.2
      show N[N.idxOf y.1]? = some y.1
      rw [List.getElem?_eq_getElem (List.idxOf_lt_length_of_mem hm), List.getElem_idxOf]
    · cases e
  · have := h3 y hy
    rw [e] at this
    have this : sc.names.lookup y.1 = some .cell ∨ sc.names.lookup y.1 = some .free := by simpa using this
    rcases this with q | q
    · exact .inl (c.eS.keep _ _ (by decide) q)
    · rcases c.eS.free _ q with q | q
      · exact .inr q
      · exact .inl q
  · by_cases hm : y.1 ∈ N
    · left
      refine List.mem_map.mpr ⟨(y.1, N.idxOf y.1), List.mem_filterMap.mpr ⟨y, hy, ?_⟩, rfl⟩
      rw [if_pos]
      rw [Bool.and_eq_true]
      refine ⟨?_, by simpa using hm⟩
      rcases e with e | e <;> rw [e] <;> rfl
    · exact .inr hm

/-! ### the targets of loops -/
theorem p_sound : ∀ (n : Nat) {X : Cx} {sc : Scope} {e : Expr} {p : P}, Ct G N gc cf fa X sc → trP N n sc e = some p → PG X e (rP X.w X.K fa p) ∧ isStar e = false ∧ ∀ i ∈ p.slots, i ∈ (ownOf N sc).map (·.2)
  | 0, X, sc, e, p, c, h => by simp [trP] at h
  | n + 1, X, sc, e, p, c, h => by
    have ps : ∀ (m : Nat), m ≤ n → ∀ (es : List Expr) (p : P), trPs N m sc es = some p → PGs X es (rPs X.w X.K fa p) ∧ es.any isStar = false ∧ es.length = p.size ∧ ∀ i ∈ p.slots, i ∈ (ownOf N sc).map (·.2) := by
      intro m
      induction m with
      | zero =>
        intro _ es p h
        cases es with
        | nil => simp only [trPs] at h; cases h; exact ⟨ps_nil, rfl, rfl, fun i hi => (nomatch hi)⟩
        | cons e es => simp [trPs] at h
      | succ m ih =>
        intro hm es p h
        cases es with
        | nil => simp only [trPs] at h; cases h; exact ⟨ps_nil, rfl, rfl, fun i hi => (nomatch hi)⟩
        | cons e es =>
          simp only [trPs] at h
          split at h
          · rename_i p1 p2 h1 h2
            cases h
            obtain ⟨a1, a2, a3⟩ := p_sound m c h1
            obtain ⟨b1, b2, b3, b4⟩ := ih (by omega) es p2 h2
            refine ⟨ps_cons a2 a1 b1, by rw [List.any_cons, a2, b2]; rfl, by simp [P.size, b3], fun i hi => ?_⟩
            rcases List.mem_append.mp (show i ∈ p1.slots ++ p2.slots from hi) with hi | hi
            · exact a3 i hi
            · exact b4 i hi
          · cases h
    cases e with
    | Name x pos =>
      simp only [trP] at h
      split at h
      · rename_i ho
        obtain ⟨i, hi, rfl⟩ := Option.map_eq_some_iff.mp h
        obtain ⟨l1, l2⟩ := c.own ho
        refine ⟨p_nm (by rw [c.eN]; exact c.nd) (c.slot hi) l1 l2, rfl, fun j hj => ?_⟩
        rw [List.mem_singleton.mp (show j ∈ [i] from hj)]
        unfold slotOf at hi
        split at hi
        · rename_i hm
          cases hi
          cases e : sc.names.lookup x with
          | none => rw [e] at ho; cases ho
          | some k =>
            refine List.mem_map.mpr ⟨(x, N.idxOf x), List.mem_filterMap.mpr ⟨(x, k), PySem.mem_of_lookup e, ?_⟩, rfl⟩
            rw [e] at ho
            rw [if_pos]
            rw [Bool.and_eq_true]
            refine ⟨?_, by simpa using hm⟩
            cases k <;> first | (cases ho; done) | rfl
        · cases hi
      · cases h
    | Tuple es k pos =>
      simp only [trP] at h
      obtain ⟨q, hq, rfl⟩ := Option.map_eq_some_iff.mp h
      obtain ⟨b1, b2, b3, b4⟩ := ps n (Nat.le_refl _) es q hq
      exact ⟨p_tp c.calm b2 b3 b1, rfl, b4⟩
    | _ => simp [trP] at h
end
end TS

set_option Elab.async false
set_option linter.all false
set_option maxRecDepth 100000
set_option maxHeartbeats 4000000
/-! A18: every expression that tr takes is sound. -/
namespace TS
open PySem L2 StX PyProof.Rows

section
variable {G : Glob} {N : List Str} {gc : Nat → W} {cf : Nat → List W → M W} {fa : Nat → Option Addr}
abbrev VE (gc : Nat → W) (cf : Nat → List W → M W) (fa : Nat → Option Addr) (X : Cx) (e : Expr) (e' : E) : Prop := PE X e (rV X.w X.K fa (den gc cf e').v)
abbrev VT (gc : Nat → W) (cf : Nat → List W → M W) (fa : Nat → Option Addr) (X : Cx) (e : Expr) (e' : E) : Prop := PT X e (rB X.w X.K fa fun ρ => truth ((den gc cf e').v ρ))
structure Sd (G : Glob) (N : List Str) (gc : Nat → W) (cf : Nat → List W → M W) (fa : Nat → Option Addr) (n : Nat) : Prop where
  e : ∀ {X : Cx} {sc : Scope} {e : Expr} {e' : E}, Ct G N gc cf fa X sc → trE G N n sc e = some e' → okE e' = true → VE gc cf fa X e e' ∧ VT gc cf fa X e e'
  a : ∀ {X : Cx} {sc : Scope} {es : List Expr} {e' : E}, Ct G N gc cf fa X sc → trEs G N n sc es = some e' → okE e' = true → PA X es (rA X.w X.K fa (den gc cf e').a)
  b : ∀ {X : Cx} {sc : Scope} {op : BoolOp} {es : List Expr} {e' : E} {pos : Pos}, Ct G N gc cf fa X sc → trB G N n sc op es = some e' → okE e' = true → VE gc cf fa X (.BoolOp op es pos) e' ∧ PW X (.BoolOp op es pos) (rB X.w X.K fa fun ρ => truth ((den gc cf e').v ρ))
  c : ∀ {X : Cx} {sc : Scope} {f : Str} {args : List Expr} {kws : List Keyword} {e' : E} {p pos : Pos}, Ct G N gc cf fa X sc → trC G N n sc f args kws = some e' → okE e' = true → VE gc cf fa X (.Call (.Name f p) args kws pos) e'
  d : ∀ {X : Cx} {sc : Scope} {ks : List (Option Expr)} {vs : List Expr} {e' : E}, Ct G N gc cf fa X sc → trD G N n sc ks vs = some e' → okE e' = true → PDp X fa gc cf ks vs e' ∧ ks.all (·.isSome) = true ∧ ks.length = vs.length ∧ (∀ m, allPairs e' m = true → ks.length ≤ m) ∧ (ks = [] → e' = .dnil)
  o : ∀ {X : Cx} {sc : Scope} {o : Option Expr} {e' : E}, Ct G N gc cf fa X sc → trO G N n sc o = some e' → okE e' = true → PO X o (rPO X.w X.K fa (den gc cf e').v)
  i : ∀ {X : Cx} {sc : Scope} {e tg : Expr} {e' : E}, Ct G N gc cf fa X sc → trI G N n sc e = some e' → okE e' = true → PI X tg e (rI X.w X.K fa (den gc cf e').it) ∧ ∀ env x, foldedSetIterable e env x = pure x
  f : ∀ {X : Cx} {sc : Scope} {ifs : List Expr} {e' : E}, Ct G N gc cf fa X sc → trIfs G N n sc ifs = some e' → okE e' = true → PTs X ifs (rB X.w X.K fa fun ρ => truth ((den gc cf e').v ρ))

theorem not_set {n : Nat} {sc : Scope} {e : Expr} {e' : E} (h : trE G N n sc e = some e') : (∀ op, behindInMarks op e = false) ∧ ∀ env x, foldedSetIterable e env x = pure x := by
  cases n with
  | zero => simp [trE] at h
  | succ n =>
    cases e with
    | Set es k p => simp [trE] at h
    | _ => exact ⟨fun op => rfl, fun env x => rfl⟩
theorem not_slice {n : Nat} {sc : Scope} {e : Expr} {e' : E} (h : trE G N n sc e = some e') : isSlice e = false ∧ isStar e = false := by
  cases n with
  | zero => simp [trE] at h
  | succ n =>
    cases e with
    | Slice a b c d => simp [trE] at h
    | Starred a b => simp [trE] at h
    | _ => exact ⟨rfl, rfl⟩
theorem o_cmp {X : Cx} (hu : X.A.units + 65 < cLine) {op : CmpOp} {o : Cop} (h : copOf op = some o) : OpR X (compareOp op) (rO2 X.w X.K fa (bV (wCmp o))) := by
  unfold copOf at h
  cases op <;> first | (simp only [reduceCtorEq] at h; done) | skip
  all_goals (injection h with h; subst h)
  · exact o_eq (by omega)
  · exact o_ne (by omega)
  · exact o_lt
  · exact o_le
  · exact o_gt
  · exact o_ge
  · exact o_in hu
  · exact o_ni hu
theorem o_bop {X : Cx} {op : Operator} {o : Bop} (h : bopOf op = some o) : OpR X (binaryOp op) (rO2 X.w X.K fa (wBin o)) := by
  unfold bopOf at h
  cases op <;> first | (simp only [reduceCtorEq] at h; done) | skip
  all_goals (injection h with h; subst h)
  · exact o_add
  · exact o_sub
  · exact o_mul
  · exact o_mod
  · exact o_pow
  · exact o_fdiv
theorem findB_mem {α : Type} {x : Str} {n : Nat} {b : α} : ∀ {l : List (Str × Nat × α)}, findB x n l = some b → (x, n, b) ∈ l
  | [], h => by cases h
  | (y, m, c) :: r, h => by
    unfold findB at h
    split at h
    · rename_i e
      cases h
      obtain ⟨rfl, rfl⟩ := e
      exact List.mem_cons_self
    · exact List.mem_cons_of_mem _ (findB_mem h)
theorem sl_body {X : Cx} {sc : Scope} {n : Nat} {x : Str} {e' : E} {pos : Pos} (c : Ct G N gc cf fa X sc) (h : trName G N sc x = some e') : VE gc cf fa X (.Name x pos) e' := by
  unfold trName at h
  split at h
  · rename_i hp
    obtain ⟨h1, h2⟩ := tp_debug hp
    split at h
    · rename_i hv
      obtain ⟨i, hi, rfl⟩ := Option.map_eq_some_iff.mp h
      exact ev_var (pe_var (c.slot hi) (c.vis hv) h1 h2)
    · split at h
      · rename_i hg
        split at h
        · rename_i g hc
          cases h
          obtain ⟨u, v, m1, m2, m3⟩ := c.con x g hc
          exact ev_glob (c.gl hg) m1 m2 h1 m3
        · rename_i hc
          obtain ⟨f, hf, rfl⟩ := Option.map_eq_some_iff.mp h
          obtain ⟨a, m1, m2⟩ := c.fns x f hc hf
          refine ev_glob (v := .ref a) (c.gl hg) m1 rfl h1 fun H ι => ?_
          simp only [RV]
          exact ⟨a, m2, rfl⟩
      · cases h
  · cases h

section
variable {n : Nat} (ih : Sd G N gc cf fa n)
include ih
theorem sd_a {X : Cx} {sc : Scope} {es : List Expr} {e' : E} (c : Ct G N gc cf fa X sc) (h : trEs G N (n + 1) sc es = some e') (hk : okE e' = true) : PA X es (rA X.w X.K fa (den gc cf e').a) := by
  cases es with
  | nil => simp only [trEs] at h; cases h; exact ev_nil
  | cons e es =>
    cases hs : isStar e with
    | true =>
      cases e with
      | Starred v p =>
        simp only [trEs] at h
        split at h
        · rename_i a b h1 h2
          cases h
          simp only [okE, Bool.and_eq_true] at hk
          exact ev_star rfl (ih.e c h1 hk.1).1 (ih.a c h2 hk.2)
        · cases h
      | _ => cases hs
    | false =>
      have h : (match trE G N n sc e, trEs G N n sc es with
        | some e', some es' => some (E.cons e' es')
        | _, _ => none) = some e' := by cases e <;> first | exact h | (cases hs; done)
      split at h
      · rename_i a b h1 h2
        cases h
        simp only [okE, Bool.and_eq_true] at hk
        exact ev_cons (ih.e c h1 hk.1).1 (ih.a c h2 hk.2) (star_no hs)
      · cases h
theorem sd_b {X : Cx} {sc : Scope} {op : BoolOp} {es : List Expr} {e' : E} {pos : Pos} (c : Ct G N gc cf fa X sc) (h : trB G N (n + 1) sc op es = some e') (hk : okE e' = true) :
    VE gc cf fa X (.BoolOp op es pos) e' ∧ PW X (.BoolOp op es pos) (rB X.w X.K fa fun ρ => truth ((den gc cf e').v ρ)) := by
  simp only [trB] at h
  split at h
  · cases h
  · obtain ⟨h1, h2⟩ := ih.e c h hk
    refine ⟨pe_one h1, ?_⟩
    cases op with
    | And => exact pw_and1 h2
    | Or => exact pw_or1 h2
  · split at h
    · rename_i a' b' h1 h2
      cases h
      simp only [okE, Bool.and_eq_true] at hk
      obtain ⟨p1, p2⟩ := ih.e c h1 hk.1
      obtain ⟨q1, q2⟩ := ih.b (pos := pos) c h2 hk.2
      exact ⟨ev_and p1 q1, tt_and p2 q2⟩
    · rename_i a' b' h1 h2
      cases h
      simp only [okE, Bool.and_eq_true] at hk
      obtain ⟨p1, p2⟩ := ih.e c h1 hk.1
      obtain ⟨q1, q2⟩ := ih.b (pos := pos) c h2 hk.2
      exact ⟨ev_or p1 q1, tt_or p2 q2⟩
    · cases h
theorem sd_o {X : Cx} {sc : Scope} {o : Option Expr} {e' : E} (c : Ct G N gc cf fa X sc) (h : trO G N (n + 1) sc o = some e') (hk : okE e' = true) : PO X o (rPO X.w X.K fa (den gc cf e').v) := by
  cases o with
  | none => simp only [trO] at h; cases h; exact po_non
  | some e => simp only [trO] at h; exact po_ev (ih.e c h hk).1
theorem sd_f {X : Cx} {sc : Scope} {ifs : List Expr} {e' : E} (c : Ct G N gc cf fa X sc) (h : trIfs G N (n + 1) sc ifs = some e') (hk : okE e' = true) : PTs X ifs (rB X.w X.K fa fun ρ => truth ((den gc cf e').v ρ)) := by
  cases ifs with
  | nil =>
    simp only [trIfs] at h
    cases h
    refine ⟨fun pins s σ H Q I ⟨ι, ρ, S, b, S', rs, rr, hm, q⟩ => pts_nil.run pins s σ H Q I ?_⟩
    have e : some (true, S) = some (b, S') := hm
    cases e
    exact q H ι (Ext.refl _ _) rs
  | cons a r =>
    cases r with
    | nil => simp only [trIfs] at h; exact pts_one (ih.e c h hk).2
    | cons b r => simp [trIfs] at h
theorem sd_d {X : Cx} {sc : Scope} {ks : List (Option Expr)} {vs : List Expr} {e' : E} (c : Ct G N gc cf fa X sc) (h : trD G N (n + 1) sc ks vs = some e') (hk : okE e' = true) :
    PDp X fa gc cf ks vs e' ∧ ks.all (·.isSome) = true ∧ ks.length = vs.length ∧ (∀ m, allPairs e' m = true → ks.length ≤ m) ∧ (ks = [] → e' = .dnil) := by
  cases ks with
  | nil =>
    cases vs with
    | nil => simp only [trD] at h; cases h; exact ⟨dp_nil, rfl, rfl, fun m _ => Nat.zero_le _, fun _ => rfl⟩
    | cons v vs => simp [trD] at h
  | cons k ks =>
    cases k with
    | none =>
      cases vs with
      | nil => simp [trD] at h
      | cons v vs =>
        simp only [trD] at h
        split at h
        · cases h; cases hk
        · cases h
    | some k =>
      cases vs with
      | nil => simp [trD] at h
      | cons v vs =>
        simp only [trD] at h
        split at h
        · rename_i k' v' d' h1 h2 h3
          cases h
          simp only [okE, Bool.and_eq_true] at hk
          obtain ⟨q1, q2, q3, q4, q5⟩ := ih.d c h3 hk.2
          refine ⟨dp_cons (ih.e c h1 hk.1.1).1 (ih.e c h2 hk.1.2).1 q1, by simp [q2], by simp [q3], fun m hm => ?_, fun e => by cases e⟩
          cases m with
          | zero => cases hm
          | succ m =>
            have := q4 m hm
            simp only [List.length_cons]; omega
        · cases h
theorem sd_i {X : Cx} {sc : Scope} {e tg : Expr} {e' : E} (c : Ct G N gc cf fa X sc) (h : trI G N (n + 1) sc e = some e') (hk : okE e' = true) : PI X tg e (rI X.w X.K fa (den gc cf e').it) ∧ ∀ env x, foldedSetIterable e env x = pure x := by
  have plain : ∀ {e0 : Expr}, (trE G N n sc e0).map E.iter = some e' → PI X tg e0 (rI X.w X.K fa (den gc cf e').it) ∧ ∀ env x, foldedSetIterable e0 env x = pure x := by
    intro e0 h
    obtain ⟨a, ha, rfl⟩ := Option.map_eq_some_iff.mp h
    exact ⟨i_iter (ih.e c ha hk).1, (not_set ha).2⟩
  unfold trI at h
  split at h
  · split at h
    · rename_i f p a pos hr
      obtain ⟨rfl, hb⟩ := hr
      obtain ⟨a', ha, rfl⟩ := Option.map_eq_some_iff.mp h
      obtain ⟨g1, g2, g3⟩ := c.bltn hb
      exact ⟨i_rng1 g1 g2 (not_slice ha).2 (ih.e c ha hk).1, fun env x => rfl⟩
    · split at h
      · obtain ⟨a', ha, rfl⟩ := Option.map_eq_some_iff.mp h
        cases hk
      · exact plain h
  · split at h
    · rename_i f p a b pos hr
      obtain ⟨rfl, hb⟩ := hr
      split at h
      · rename_i a' b' ha hb'
        cases h
        simp only [okE, Bool.and_eq_true] at hk
        obtain ⟨g1, g2, g3⟩ := c.bltn hb
        exact ⟨i_rng2 g1 g2 (not_slice ha).2 (not_slice hb').2 (ih.e c ha hk.1).1 (ih.e c hb' hk.2).1, fun env x => rfl⟩
      · cases h
    · split at h
      · split at h
        · cases h; cases hk
        · cases h
      · exact plain h
  · split at h
    · obtain ⟨a', ha, rfl⟩ := Option.map_eq_some_iff.mp h
      cases hk
    · exact plain h
  · exact plain h
end
end
end TS

set_option Elab.async false
set_option linter.all false
set_option maxRecDepth 100000
set_option maxHeartbeats 4000000
/-! A19: expressions, the rest. -/
namespace TS
open PySem L2 StX PyProof.Rows

section
variable {G : Glob} {N : List Str} {gc : Nat → W} {cf : Nat → List W → M W} {fa : Nat → Option Addr}
theorem blt_rule {X : Cx} (hc : X.calm = true) {f : Str} {k : Nat} {b : Blt} (h : (f, k, b) ∈ bltOf) (hb : okB b = true) : f ≠ "__name__" ∧
    ((∃ id, bootBuiltins f = some (.builtin id) ∧ CallR X (.builtin id) (rCl X.w X.K fa (wBlt b))) ∨ ∃ id, bootBuiltins f = some (.type id) ∧ CallR X (.type id) (rCl X.w X.K fa (wBlt b))) := by
  unfold bltOf at h
  simp only [List.mem_cons, List.not_mem_nil, or_false, Prod.mk.injEq] at h
  rcases h with ⟨rfl, rfl, rfl⟩ | ⟨rfl, rfl, rfl⟩ | ⟨rfl, rfl, rfl⟩ | ⟨rfl, rfl, rfl⟩ | ⟨rfl, rfl, rfl⟩ | ⟨rfl, rfl, rfl⟩ | ⟨rfl, rfl, rfl⟩ | ⟨rfl, rfl, rfl⟩ | ⟨rfl, rfl, rfl⟩ | ⟨rfl, rfl, rfl⟩ | ⟨rfl, rfl, rfl⟩ | ⟨rfl, rfl, rfl⟩ | ⟨rfl, rfl, rfl⟩ <;>
    first | (cases hb; done) | refine ⟨by decide, ?_⟩
  · exact .inl ⟨_, by decide +kernel, b_len⟩
  · exact .inr ⟨_, by decide +kernel, b_list⟩
  · exact .inr ⟨_, by decide +kernel, b_tuple⟩
  · exact .inl ⟨_, by decide +kernel, b_all hc⟩
  · exact .inl ⟨_, by decide +kernel, b_any hc⟩
  · exact .inl ⟨_, by decide +kernel, b_max1 hc⟩
  · exact .inl ⟨_, by decide +kernel, b_max2 hc⟩
  · exact .inl ⟨_, by decide +kernel, b_min2 hc⟩
  · exact .inr ⟨_, by decide +kernel, b_int⟩
  · exact .inr ⟨_, by decide +kernel, b_bool⟩
theorem ev_b {X : Cx} {sc : Scope} {f : Str} {k : Nat} {b : Blt} {e : Expr} {es : List Expr} {es' : E} {p pos : Pos} (c : Ct G N gc cf fa X sc) (hf : isBlt G sc f = true) (h : findB f k bltOf = some b) (hb : okB b = true)
    (ha : PA X (e :: es) (rA X.w X.K fa (den gc cf es').a)) (hs : isStar e = false) (hst : es.any isStar = false) : VE gc cf fa X (.Call (.Name f p) (e :: es) [] pos) (.blt b es') := by
  obtain ⟨g1, g2, g3⟩ := c.bltn hf
  obtain ⟨h1, h2⟩ := blt_rule (fa := fa) c.calm (findB_mem h) hb
  rcases h2 with ⟨id, q1, q2⟩ | ⟨id, q1, q2⟩
  · exact ev_blt q2 g1 g2 q1 h1 g3 ha hs hst
  · exact ev_ty q2 g1 g2 q1 h1 g3 ha hs hst
variable {n : Nat} (ih : Sd G N gc cf fa n)
include ih
theorem pa_1 {X : Cx} {sc : Scope} {a : Expr} {a' : E} (c : Ct G N gc cf fa X sc) (h : trE G N n sc a = some a') (hk : okE a' = true) : PA X [a] (rA X.w X.K fa (den gc cf (.cons a' .nil)).a) :=
  ev_cons (ih.e c h hk).1 ev_nil (star_no (not_slice h).2)
theorem pa_2 {X : Cx} {sc : Scope} {a b : Expr} {a' b' : E} (c : Ct G N gc cf fa X sc) (h : trE G N n sc a = some a') (hk : okE a' = true) (h2 : trE G N n sc b = some b') (hk2 : okE b' = true) : PA X [a, b] (rA X.w X.K fa (den gc cf (.cons a' (.cons b' .nil))).a) :=
  ev_cons (ih.e c h hk).1 (pa_1 ih c h2 hk2) (star_no (not_slice h).2)
theorem ev_bl1 {X : Cx} {sc : Scope} {f : Str} {a : Expr} {e' : E} {p pos : Pos} (c : Ct G N gc cf fa X sc) (hf : isBlt G sc f = true) (h : (match findB f 1 bltOf, trE G N n sc a with
      | some b, some a' => some (E.blt b (.cons a' .nil))
      | _, _ => none) = some e') (hk : okE e' = true) : VE gc cf fa X (.Call (.Name f p) [a] [] pos) e' := by
  split at h
  · rename_i b a' h1 h2
    cases h
    simp only [okE, Bool.and_eq_true] at hk
    exact ev_b c hf h1 hk.1 (pa_1 ih c h2 hk.2.1) (not_slice h2).2 rfl
  · cases h
theorem sd_c {X : Cx} {sc : Scope} {f : Str} {args : List Expr} {kws : List Keyword} {e' : E} {p pos : Pos} (c : Ct G N gc cf fa X sc) (h : trC G N (n + 1) sc f args kws = some e') (hk : okE e' = true) : VE gc cf fa X (.Call (.Name f p) args kws pos) e' := by
  obtain ⟨l, hr, T⟩ := c.lvl
  simp only [trC] at h
  split at h
  · rename_i hv
    split at h
    · rename_i i es' hp hi hes
      cases h
      obtain ⟨h1, h2⟩ := tp_debug hp
      obtain ⟨v1, v2, v3⟩ := hv
      cases args with
      | nil => cases v2
      | cons a r =>
        rw [List.any_cons, Bool.or_eq_false_iff] at v3
        exact ev_callv T hr (ev_var (pe_var (c.slot hi) (c.vis v1) h1 h2)) (ih.a c hes hk) v3.1 v3.2
    · cases h
  · split at h
    · rename_i hf
      obtain ⟨w1, w2, w3⟩ := hf
      split at h
      · rename_i i v q hp hg hi _
        obtain ⟨v', hv', rfl⟩ := Option.map_eq_some_iff.mp h
        obtain ⟨h1, h2⟩ := tp_debug hp
        obtain ⟨a, m1, m2⟩ := c.fns f i (by simpa using w2) hi
        simp only [okE, Bool.and_eq_true] at hk
        exact ev_callS T m2 hr (c.gl hg) m1 h1 (ih.e c hv' hk.1).1
      · rename_i args _ _ _ _ _ i hp hg hi hno _
        obtain ⟨es', hes, rfl⟩ := Option.map_eq_some_iff.mp h
        obtain ⟨h1, h2⟩ := tp_debug hp
        obtain ⟨a, m1, m2⟩ := c.fns f i (by simpa using w2) hi
        have pa := ih.a c hes hk
        cases args with
        | nil =>
          have e0 : es' = .nil := by
            cases n with
            | zero => simpa [trEs] using hes.symm
            | succ n => simpa [trEs] using hes.symm
          subst e0
          exact ev_call0 T m2 hr (c.gl hg) m1 h1
        | cons x r =>
          cases hs : isStar x with
          | false => exact ev_call T m2 hr (c.gl hg) m1 h1 pa hs
          | true =>
            cases x with
            | Starred v q =>
              cases r with
              | nil => exact absurd rfl (hno v q)
              | cons y r => cases w3
            | _ => cases hs
      · cases h
    · split at h
      · rename_i hb
        split at h
        · split at h
          · split at h
            · obtain ⟨x', _, rfl⟩ := Option.map_eq_some_iff.mp h
              cases hk
            · split at h
              · obtain ⟨x', _, rfl⟩ := Option.map_eq_some_iff.mp h
                cases hk
              · exact ev_bl1 ih c hb h hk
          · exact ev_bl1 ih c hb h hk
        · rename_i a b _ _
          split at h
          · rename_i hi
            rw [hi] at hb ⊢
            obtain ⟨g1, g2, g3⟩ := c.bltn hb
            split at h
            · rename_i a' k h1 h2
              cases h
              have pa := (ih.e c h1 hk).1
              cases b with
              | Name x px =>
                simp only [trKinds] at h2
                split at h2
                · rename_i hx
                  obtain ⟨x1, x2, x3⟩ := c.bltn hx
                  exact ev_isi1 g1 g2 pa (not_slice h1).2 h2 x1 x2 x3
                · cases h2
              | Tuple es kk pt =>
                simp only [trKinds] at h2
                split at h2
                · rename_i hl
                  exact ev_isiT (fun x hx => c.bltn hx) g1 g2 pa (not_slice h1).2 h2 hl
                · cases h2
              | _ => simp [trKinds] at h2
            · cases h
          · split at h
            · rename_i b0 a' b' h1 h2 h3
              cases h
              simp only [okE, Bool.and_eq_true] at hk
              exact ev_b c hb h1 hk.1 (pa_2 ih c h2 hk.2.1 h3 hk.2.2.1) (not_slice h2).2 (by rw [List.any_cons, (not_slice h3).2]; rfl)
            · cases h
        · split at h
          · split at h
            · cases h; cases hk
            · cases h
          · cases h
        · cases h
      · cases h
theorem ev_m {X : Cx} {sc : Scope} {o : Expr} {name : Str} {args : List Expr} {apos cpos : Pos} {m : Mth} {o' es' : E} (c : Ct G N gc cf fa X sc) (hm : findB name args.length mthOf = some m) (hk : okM m = true) (ho : VE gc cf fa X o o') (ha : PA X args (rA X.w X.K fa (den gc cf es').a)) (hnil : args = [] → es' = .nil)
    (hb : plainBase o = true) (hl : (apos.endLine == cpos.line) = true) (hs : args.any isStar = false) : VE gc cf fa X (.Call (.Attribute o name apos) args [] cpos) (.mth m o' es') := by
  have h := findB_mem hm
  have hu := c.hu
  have hbase : attributeBase o name X.env (eval o X.env) = eval o X.env := base_plain hb
  unfold mthOf at h
  simp only [List.mem_cons, List.not_mem_nil, or_false, Prod.mk.injEq] at h
  have cons1 : ∀ k, args.length = k + 1 → ∃ e es, args = e :: es ∧ isStar e = false ∧ es.any isStar = false := by
    intro k hk
    cases args with
    | nil => cases hk
    | cons e es =>
      rw [List.any_cons, Bool.or_eq_false_iff] at hs
      exact ⟨e, es, rfl, hs.1, hs.2⟩
  rcases h with ⟨rfl, hn, rfl⟩ | ⟨rfl, hn, rfl⟩ | ⟨rfl, hn, rfl⟩ | ⟨rfl, hn, rfl⟩ | ⟨rfl, hn, rfl⟩ | ⟨rfl, hn, rfl⟩ | ⟨rfl, hn, rfl⟩ | ⟨rfl, hn, rfl⟩ | ⟨rfl, hn, rfl⟩ <;> first | (cases hk; done) | skip
  · obtain ⟨e, es, rfl, s1, s2⟩ := cons1 0 hn
    exact ev_mth (m := .append) (g := mAppend) F.plainAttrs_list F.slot_list_append F.type_list_append m_append (fun pins s σ H x v I r t => tyV_is I r t) (recv_lst (.inl rfl)) ho ha hbase (by rw [hn]; decide) hl s1 s2
  · have e0 : args = [] := List.eq_nil_of_length_eq_zero hn
    have e1 := hnil e0
    subst e0; subst e1
    exact ev_mth0 (m := .pop0) (g := mPop0) F.plainAttrs_list F.slot_list_pop F.type_list_pop m_pop0 (recv_lst (.inr (.inl rfl))) ho hbase hl
  · obtain ⟨e, es, rfl, s1, s2⟩ := cons1 0 hn
    exact ev_mth (m := .pop1) (g := mPop1) F.plainAttrs_list F.slot_list_pop F.type_list_pop m_pop1 (fun pins s σ H x v I r t => tyV_is I r t) (recv_lst (.inr (.inr (.inl rfl)))) ho ha hbase (by rw [hn]; decide) hl s1 s2
  · obtain ⟨e, es, rfl, s1, s2⟩ := cons1 1 hn
    exact ev_mth (m := .insert) (g := mInsert) F.plainAttrs_list F.slot_list_insert F.type_list_insert m_insert (fun pins s σ H x v I r t => tyV_is I r t) (recv_lst (.inr (.inr (.inr rfl)))) ho ha hbase (by rw [hn]; decide) hl s1 s2
  · obtain ⟨e, es, rfl, s1, s2⟩ := cons1 0 hn
    exact ev_mth (m := .get1) (g := mGet1) F.plainAttrs_dict F.slot_dict_get F.type_dict_get (m_get1 hu) (fun pins s σ H x v I r t => isDct_is I r t) (recv_dct (.inl rfl)) ho ha hbase (by rw [hn]; decide) hl s1 s2
  · obtain ⟨e, es, rfl, s1, s2⟩ := cons1 1 hn
    exact ev_mth (m := .get2) (g := mGet2) F.plainAttrs_dict F.slot_dict_get F.type_dict_get (m_get2 hu) (fun pins s σ H x v I r t => isDct_is I r t) (recv_dct (.inr rfl)) ho ha hbase (by rw [hn]; decide) hl s1 s2
end
end TS

set_option Elab.async false
set_option linter.all false
set_option maxRecDepth 100000
set_option maxHeartbeats 4000000
/-! A20: every expression. -/
namespace TS
open PySem L2 StX PyProof.Rows

theorem p_slots {N : List Str} : ∀ (n : Nat) {sc : Scope} {e : Expr} {p : P}, trP N n sc e = some p → ∀ i ∈ p.slots, i ∈ (ownOf N sc).map (·.2)
  | 0, sc, e, p, h => by simp [trP] at h
  | n + 1, sc, e, p, h => by
    have ps : ∀ (m : Nat), m ≤ n → ∀ (es : List Expr) (p : P), trPs N m sc es = some p → ∀ i ∈ p.slots, i ∈ (ownOf N sc).map (·.2) := by
      intro m
      induction m with
      | zero =>
        intro _ es p h
        cases es with
        | nil => simp only [trPs] at h; cases h; exact fun i hi => (nomatch hi)
        | cons e es => simp [trPs] at h
      | succ m ih =>
        intro hm es p h
        cases es with
        | nil => simp only [trPs] at h; cases h; exact fun i hi => (nomatch hi)
        | cons e es =>
          simp only [trPs] at h
          split at h
          · rename_i p1 p2 h1 h2
            cases h
            intro i hi
            rcases List.mem_append.mp (show i ∈ p1.slots ++ p2.slots from hi) with hi | hi
            · exact p_slots m h1 i hi
            · exact ih (by omega) es p2 h2 i hi
          · cases h
    cases e with
    | Name x pos =>
      simp only [trP] at h
      split at h
      · rename_i ho
        obtain ⟨i, hi, rfl⟩ := Option.map_eq_some_iff.mp h
        intro j hj
        rw [List.mem_singleton.mp (show j ∈ [i] from hj)]
        unfold slotOf at hi
        split at hi
        · rename_i hm
          cases hi
          cases e : sc.names.lookup x with
          | none => rw [e] at ho; cases ho
          | some k =>
            refine List.mem_map.mpr ⟨(x, N.idxOf x), List.mem_filterMap.mpr ⟨(x, k), PySem.mem_of_lookup e, ?_⟩, rfl⟩
            rw [e] at ho
            rw [if_pos]
            rw [Bool.and_eq_true]
            refine ⟨?_, by simpa using hm⟩
            cases k <;> first | (cases ho; done) | rfl
        · cases hi
      · cases h
    | Tuple es k pos =>
      simp only [trP] at h
      obtain ⟨q, hq, rfl⟩ := Option.map_eq_some_iff.mp h
      exact ps n (Nat.le_refl _) es q hq
    | _ => simp [trP] at h
section
variable {G : Glob} {N : List Str} {gc : Nat → W} {cf : Nat → List W → M W} {fa : Nat → Option Addr}
theorem trI_set {n : Nat} {sc : Scope} {e : Expr} {e' : E} (h : trI G N n sc e = some e') (env : Env) (x : Value) : foldedSetIterable e env x = pure x := by
  cases n with
  | zero => simp [trI] at h
  | succ n =>
    cases e with
    | Set es k p =>
      simp only [trI] at h
      obtain ⟨a, ha, _⟩ := Option.map_eq_some_iff.mp h
      cases n <;> simp [trE] at ha
    | _ => rfl
/-- a value whose test is asked plainly -/
theorem both {X : Cx} {e : Expr} {e' : E} (h : VE gc cf fa X e e') (he : ∀ whole, isTrue e X.env whole = (do let v ← whole; standAt e.pos; holding [v] (truthy v))) : VE gc cf fa X e e' ∧ VT gc cf fa X e e' := ⟨h, tt_plain h he⟩
theorem ev_dct0 {X : Cx} {pos : Pos} : VE gc cf fa X (.Dict [] [] pos) (.dct .dnil) := by
  refine ⟨fun pins s σ H Q I ⟨ι, ρ, S, a, S', rs, rr, hm, q⟩ => ?_⟩
  have e : some (W.ref S.length, S ++ [Ob.dct [] []]) = some (a, S') := hm
  cases e
  have hD : H s.heap.objs.size = none := I.fresh
  have mk0 := Mkd.start (w := X.w) (K := X.K) (fa := fa) rs hD
  have I0 : Inv X pins σ (upd H s.heap.objs.size (dOb s.heap.objs.size [] 0)) { s with heap := s.heap.push { cls := .type "dict", data := .dict #[] } } :=
    I.laid (t' := s.toks) (fun b o e => Heap.get?_push_of_some _ e) (Nat.le_refl _) (dob_ok (beq_eq_false_iff_ne.mpr (Ne.symm (Nat.ne_of_lt I.big))) (Nat.zero_le _) (Heap.get?_push_size _ rfl) ⟨rfl, rfl, rfl⟩ rfl)
  exact wpAny_Dict_empty ⟨.ref s.heap.objs.size, _, I0, rfl, mk0.fin (Ext.refl _ _) hD rs q⟩
variable {n : Nat} (ih : Sd G N gc cf fa n)
include ih
/-- what a list comprehension's parts are -/
structure LcP (G : Glob) (N : List Str) (gc : Nat → W) (cf : Nat → List W → M W) (fa : Nat → Option Addr) (X : Cx) (sc scope : Scope) (elt tg iter : Expr) (ifs : List Expr) (t : P) (it cc e' : E) : Prop where
  i : PI X tg iter (rI X.w X.K fa (den gc cf it).it)
  s : ∀ x, foldedSetIterable iter X.env x = pure x
  sub : ∀ i ∈ t.slots, i ∈ (ownOf N scope).map (·.2)
  ok : BlkOk X.N X.env.scope scope (ownOf N scope)
  g : ∀ (s : Shared) (H : Hp) (C : Addr) (cl : List (Str × Addr)) (fp : List Addr), PG (X.blk s H scope (compEnvC scope cl C X.env) fp) tg (rP X.w X.K fa t)
  t : ∀ (s : Shared) (H : Hp) (C : Addr) (cl : List (Str × Addr)) (fp : List Addr), PTs (X.blk s H scope (compEnvC scope cl C X.env) fp) ifs (rB X.w X.K fa fun ρ => truth ((den gc cf cc).v ρ))
  e : ∀ (s : Shared) (H : Hp) (C : Addr) (cl : List (Str × Addr)) (fp : List Addr), PE (X.blk s H scope (compEnvC scope cl C X.env) fp) elt (rV X.w X.K fa (den gc cf e').v)
theorem lcP {X : Cx} {sc scope : Scope} {elt tg iter : Expr} {ifs : List Expr} {t : P} {it cc e' : E} (c : Ct G N gc cf fa X sc) (hb : blkOk sc scope = true) (h1 : trP N n scope tg = some t) (h2 : trI G N n sc iter = some it) (h3 : trIfs G N n scope ifs = some cc) (h4 : trE G N n scope elt = some e')
    (k2 : okE it = true) (k3 : okE cc = true) (k4 : okE e' = true) : LcP G N gc cf fa X sc scope elt tg iter ifs t it cc e' := by
  obtain ⟨i1, i2⟩ := ih.i (tg := tg) c h2 k2
  exact ⟨i1, fun x => i2 _ x, p_slots n h1, ct_ok c hb, fun s H C cl fp => (p_sound n (c.blk s H scope C cl fp) h1).1, fun s H C cl fp => ih.f (c.blk s H scope C cl fp) h3 k3, fun s H C cl fp => (ih.e (c.blk s H scope C cl fp) h4 k4).1⟩
theorem sd_cmp {X : Cx} {sc : Scope} {a : Expr} {ops : List CmpOp} {cs : List Expr} {pos : Pos} {e' : E} (c : Ct G N gc cf fa X sc) (h : trE G N (n + 1) sc (.Compare a ops cs pos) = some e') (hk : okE e' = true) : VE gc cf fa X (.Compare a ops cs pos) e' ∧ VT gc cf fa X (.Compare a ops cs pos) e' := by
  have hu := c.hu
  have one : ∀ {o : CmpOp} {b : Expr}, (match copOf o, trE G N n sc a, trE G N n sc b with
      | some o', some a', some b' => some (E.cmp o' a' b')
      | _, _, _ => none) = some e' → VE gc cf fa X (.Compare a [o] [b] pos) e' ∧ VT gc cf fa X (.Compare a [o] [b] pos) e' := by
    intro o b h
    split at h
    · rename_i o' a' b' h1 h2 h3
      cases h
      simp only [okE, Bool.and_eq_true] at hk
      exact ⟨ev_cmp (o_cmp hu h1) (ih.e c h2 hk.1).1 (ih.e c h3 hk.2).1 ((not_set h3).1 o), tt_cmp1 (o_cmp hu h1) (ih.e c h2 hk.1).1 (ih.e c h3 hk.2).1 ((not_set h3).1 o)⟩
    · cases h
  simp only [trE] at h
  split at h <;> try contradiction
  · rename_i heq
    cases heq
    obtain ⟨a', ha, rfl⟩ := Option.map_eq_some_iff.mp h
    have p := (ih.e c ha hk).1
    exact ⟨ev_isn p, tB_rV (pt_cmp (pc_isN p) (by rfl)) fun σ H Q q => by
      obtain ⟨ι, ρ, S, b, S', rs, rr, hm, q⟩ := q
      obtain ⟨x, S1, h1, hm1⟩ := bindM hm
      obtain ⟨rfl, rfl⟩ := retM hm1
      refine ⟨ι, ρ, S, x, _, rs, rr, h1, fun v H1 ι1 x1 rs1 rv1 => ?_⟩
      show Q (.bl (decide (v = .non))) H1
      rw [non_iff rv1]; exact (q.mono x1).here rs1 bl_to⟩
  · rename_i heq
    cases heq
    obtain ⟨a', ha, rfl⟩ := Option.map_eq_some_iff.mp h
    have p := (ih.e c ha hk).1
    exact ⟨ev_notn p, tB_rV (pt_cmp (pc_notN p) (by rfl)) fun σ H Q q => by
      obtain ⟨ι, ρ, S, b, S', rs, rr, hm, q⟩ := q
      obtain ⟨x, S1, h1, hm1⟩ := bindM hm
      obtain ⟨rfl, rfl⟩ := retM hm1
      refine ⟨ι, ρ, S, x, _, rs, rr, h1, fun v H1 ι1 x1 rs1 rv1 => ?_⟩
      show Q (.bl (!decide (v = .non))) H1
      rw [non_iff rv1]; exact (q.mono x1).here rs1 bl_to⟩
  · rename_i heq
    cases heq
    obtain ⟨a', ha, rfl⟩ := Option.map_eq_some_iff.mp h
    have p := (ih.e c ha hk).1
    exact ⟨ev_isb p, tt_isb p⟩
  · rename_i heq
    cases heq
    exact one h
  · rename_i heq
    cases heq
    split at h
    · rename_i o' p' a' b' c' h1 h2 h3 h4 h5
      cases h
      simp only [okE, Bool.and_eq_true] at hk
      have q1 := (ih.e c h3 hk.1.1).1
      have q2 := (ih.e c h4 hk.1.2).1
      have q3 := (ih.e c h5 hk.2).1
      have hl : ∀ (o o2 : CmpOp) (x y : Expr), behindInMarks o2 y = false → lastMarks [o, o2] [x, y] = false := fun o o2 x y hy => hy
      exact ⟨PEimp (pe_chain (o_cmp hu h1) (o_cmp hu h2) q1 q2 q3 (hl _ _ _ _ ((not_set h5).1 _))) fun σ H Q q => rV_chain σ H Q q,
        tt_cmp (r := rO2 X.w X.K fa (bV (wCmp p'))) (pt_chain (o_cmp hu h1) (o_cmp hu h2) q1 q2 q3 (hl _ _ _ _ ((not_set h5).1 _))) fun σ H Q q => rV_chain σ H Q q⟩
    · cases h
theorem sd_sub {X : Cx} {sc : Scope} {a i : Expr} {pos : Pos} {e' : E} (c : Ct G N gc cf fa X sc) (h : trE G N (n + 1) sc (.Subscript a i pos) = some e') (hk : okE e' = true) : VE gc cf fa X (.Subscript a i pos) e' := by
  simp only [trE] at h
  split at h <;> try contradiction
  · rename_i heq
    cases heq
    obtain ⟨a', ha, rfl⟩ := Option.map_eq_some_iff.mp h
    exact ev_rev (ih.e c ha hk).1
  · rename_i heq
    cases heq
    split at h
    · rename_i a' l' h' h1 h2 h3
      cases h
      simp only [okE, Bool.and_eq_true] at hk
      exact ev_slc (ih.e c h1 hk.1.1).1 (ih.o c h2 hk.1.2) (ih.o c h3 hk.2)
    · cases h
  · rename_i heq
    cases heq
    split at h
    · rename_i a' i' h1 h2
      cases h
      simp only [okE, Bool.and_eq_true] at hk
      exact ev_ix (i_ix c.hu) (ih.e c h1 hk.1).1 (ih.e c h2 hk.2).1 (not_slice h2).1
    · cases h
theorem sd_call {X : Cx} {sc : Scope} {f : Expr} {args : List Expr} {kws : List Keyword} {pos : Pos} {e' : E} (c : Ct G N gc cf fa X sc) (h : trE G N (n + 1) sc (.Call f args kws pos) = some e') (hk : okE e' = true) : VE gc cf fa X (.Call f args kws pos) e' := by
  cases f with
  | Name x p =>
    simp only [trE] at h
    exact ih.c c h hk
  | Attribute o m apos =>
    cases kws with
    | nil =>
      simp only [trE] at h
      split at h
      · rename_i hc
        obtain ⟨w1, w2, w3⟩ := hc
        split at h
        · rename_i m' o' es' h1 h2 h3
          cases h
          simp only [okE, Bool.and_eq_true] at hk
          refine ev_m ih c h1 hk.1.1 (ih.e c h2 hk.1.2).1 (ih.a c h3 hk.2) (fun e0 => ?_) w3 w1 w2
          subst e0
          cases n with
          | zero => simpa [trEs] using h3.symm
          | succ n => simpa [trEs] using h3.symm
        · cases h
      · cases h
    | cons k ks => simp [trE] at h
  | _ => simp [trE] at h
theorem sd_dc {X : Cx} {sc scope : Scope} {k v : Expr} {gens : List Comprehension} {pos : Pos} {e' : E} (c : Ct G N gc cf fa X sc) (h : trE G N (n + 1) sc (.DictComp k v gens scope pos) = some e') (hk : okE e' = true) : VE gc cf fa X (.DictComp k v gens scope pos) e' := by
  simp only [trE] at h
  split at h <;> try contradiction
  rename_i heq
  cases heq
  split at h
  · split at h
    · cases h; cases hk
    · cases h
  · cases h
theorem sd_lc {X : Cx} {sc scope : Scope} {elt : Expr} {gens : List Comprehension} {pos : Pos} {e' : E} (c : Ct G N gc cf fa X sc) (h : trE G N (n + 1) sc (.ListComp elt gens scope pos) = some e') (hk : okE e' = true) : VE gc cf fa X (.ListComp elt gens scope pos) e' := by
  simp only [trE] at h
  split at h <;> try contradiction
  · rename_i heq
    cases heq
    split at h
    · rename_i hb
      split at h
      · rename_i t i cc e1 h1 h2 h3 h4
        cases h
        simp only [okE, Bool.and_eq_true] at hk
        have p := lcP ih c hb h1 h2 h3 h4 hk.1.1 hk.1.2 hk.2
        exact PEimp (pe_lc c.calm (by rw [c.eN]; exact c.nd) p.i p.ok p.g p.t p.e p.s) fun σ H Q q => lc_read p.sub σ H Q q
      · cases h
    · cases h
  · rename_i heq
    cases heq
    split at h
    · rename_i hb
      split at h
      · rename_i t i cc t1 i1 cc1 e1 h1 h2 h3 h4 h5 h6 h7
        cases h
        simp only [okE, Bool.and_eq_true] at hk
        have p := lcP ih c hb h1 h2 h3 h7 hk.1.1.1.1 hk.1.1.1.2 hk.2
        have s1 := p_slots n h4
        refine PEimp (pe_lc2 (vs1 := t1.slots) c.calm (by rw [c.eN]; exact c.nd) p.i p.ok s1 p.g p.t (fun s H C cl fp => (ih.i (c.blk s H _ C cl fp) h5 hk.1.1.2).1) (fun s H C cl fp => (p_sound n (c.blk s H _ C cl fp) h4).1) (fun s H C cl fp => ih.f (c.blk s H _ C cl fp) h6 hk.1.2) p.e p.s (fun env x => ?_)) fun σ H Q q => lc2_read p.sub (fun i hi => hi) σ H Q q
        exact trI_set h5 env x
      · cases h
    · cases h
theorem sd_e {X : Cx} {sc : Scope} {e : Expr} {e' : E} (c : Ct G N gc cf fa X sc) (h : trE G N (n + 1) sc e = some e') (hk : okE e' = true) : VE gc cf fa X e e' ∧ VT gc cf fa X e e' := by
  have hu := c.hu
  cases e with
  | Name x pos =>
    simp only [trE] at h
    exact both (sl_body (n := 0) c h) fun _ => rfl
  | Constant k j pos =>
    simp only [trE] at h
    split at h
    · cases h; exact both (ev_const pe_non fun H ι => rv_non.mpr rfl) fun _ => rfl
    · cases h; exact both (ev_const pe_bl fun H ι => rv_bl.mpr rfl) fun _ => rfl
    · cases h; exact both (ev_const pe_int fun H ι => rv_int.mpr rfl) fun _ => rfl
    · split at h
      · rename_i hl
        cases h
        exact both (ev_const pe_str fun H ι => rv_str.mpr ⟨rfl, hl⟩) fun _ => rfl
      · cases h
    · cases h
  | Tuple es j pos =>
    simp only [trE] at h
    obtain ⟨a, ha, rfl⟩ := Option.map_eq_some_iff.mp h
    exact both (ev_tup (ih.a c ha hk)) fun _ => rfl
  | List es pos =>
    simp only [trE] at h
    obtain ⟨a, ha, rfl⟩ := Option.map_eq_some_iff.mp h
    exact both (ev_lst (ih.a c ha hk)) fun _ => rfl
  | Dict ks vs pos =>
    simp only [trE] at h
    obtain ⟨d, hd, rfl⟩ := Option.map_eq_some_iff.mp h
    simp only [okE, Bool.and_eq_true] at hk
    obtain ⟨q1, q2, q3, q4, q5⟩ := ih.d c hd hk.1
    refine both ?_ fun _ => rfl
    cases ks with
    | nil =>
      cases vs with
      | nil => rw [q5 rfl]; exact ev_dct0
      | cons v vs => cases q3
    | cons k ks => exact ev_dct hu q2 q3 (by simp) (q4 15 hk.2) hk.2 q1
  | BoolOp op es pos =>
    simp only [trE] at h
    obtain ⟨p1, p2⟩ := ih.b (pos := pos) c h hk
    exact ⟨p1, p2.pt⟩
  | UnaryOp op a pos =>
    cases op with
    | Not =>
      simp only [trE] at h
      obtain ⟨a', ha, rfl⟩ := Option.map_eq_some_iff.mp h
      obtain ⟨p1, p2⟩ := ih.e c ha hk
      exact ⟨ev_not p1, tt_not p2⟩
    | USub =>
      cases a with
      | Constant k j p =>
        cases k with
        | int i => simp only [trE] at h; cases h; exact both ev_neg fun _ => rfl
        | _ => simp [trE] at h
      | _ => simp [trE] at h
    | _ => simp [trE] at h
  | IfExp t a b pos =>
    simp only [trE] at h
    split at h
    · rename_i c' a' b' h1 h2 h3
      cases h
      simp only [okE, Bool.and_eq_true] at hk
      obtain ⟨p1, p2⟩ := ih.e c h1 hk.1.1
      obtain ⟨q1, q2⟩ := ih.e c h2 hk.1.2
      obtain ⟨r1, r2⟩ := ih.e c h3 hk.2
      exact ⟨ev_ifx p2 q1 r1, tt_ifx p2 q2 r2⟩
    · cases h
  | Compare a ops cs pos => exact sd_cmp ih c h hk
  | BinOp a o b pos =>
    simp only [trE] at h
    split at h
    · rename_i o' a' b' h1 h2 h3
      cases h
      simp only [okE, Bool.and_eq_true] at hk
      exact both (ev_bin (o_bop h1) (ih.e c h2 hk.1).1 (ih.e c h3 hk.2).1) fun _ => rfl
    · cases h
  | Subscript a i pos => exact both (sd_sub ih c h hk) fun _ => rfl
  | Call f args kws pos => exact both (sd_call ih c h hk) fun _ => rfl
  | ListComp elt gens scope pos => exact both (sd_lc ih c h hk) fun _ => rfl
  | DictComp k v gens scope pos => exact both (sd_dc ih c h hk) fun _ => rfl
  | _ => simp [trE] at h
omit ih
theorem sd_zero : Sd G N gc cf fa 0 where
  e := fun c h _ => by simp [trE] at h
  a := fun {X sc es e'} c h hk => by
    cases es with
    | nil => simp only [trEs] at h; cases h; exact ev_nil
    | cons e es => simp [trEs] at h
  b := fun c h _ => by simp [trB] at h
  c := fun c h _ => by simp [trC] at h
  d := fun {X sc ks vs e'} c h hk => by
    cases ks with
    | nil =>
      cases vs with
      | nil => simp only [trD] at h; cases h; exact ⟨dp_nil, rfl, rfl, fun m _ => Nat.zero_le _, fun _ => rfl⟩
      | cons v vs => simp [trD] at h
    | cons k ks => cases k <;> cases vs <;> simp [trD] at h
  o := fun {X sc o e'} c h hk => by
    cases o with
    | none => simp only [trO] at h; cases h; exact po_non
    | some e => simp [trO] at h
  i := fun c h _ => by simp [trI] at h
  f := fun {X sc ifs e'} c h hk => by
    cases ifs with
    | nil =>
      simp only [trIfs] at h
      cases h
      refine ⟨fun pins s σ H Q I ⟨ι, ρ, S, b, S', rs, rr, hm, q⟩ => pts_nil.run pins s σ H Q I ?_⟩
      have e : some (true, S) = some (b, S') := hm
      cases e
      exact q H ι (Ext.refl _ _) rs
    | cons a r => cases r <;> simp [trIfs] at h
theorem sd : ∀ n : Nat, Sd G N gc cf fa n
  | 0 => sd_zero
  | n + 1 =>
    have ih := sd n
    { e := fun c h hk => sd_e ih c h hk
      a := fun c h hk => sd_a ih c h hk
      b := fun c h hk => sd_b ih c h hk
      c := fun c h hk => sd_c ih c h hk
      d := fun c h hk => sd_d ih c h hk
      o := fun c h hk => sd_o ih c h hk
      i := fun c h hk => sd_i ih c h hk
      f := fun c h hk => sd_f ih c h hk }
end
end TS

set_option Elab.async false
set_option linter.all false
set_option maxRecDepth 100000
set_option maxHeartbeats 4000000
/-! A21: statements that tr takes are sound. -/
namespace TS
open PySem L2 StX PyProof.Rows

/-! ### stores of several names -/
def tgF (env : Env) (l : Nat) : Expr → Option Str
  | .Name id pos => if (env.kindOf id == some NameKind.local && pos.line == l) = true then some id else none
  | _ => none
def tgNames (ts : List Expr) (env : Env) : List Str := ts.filterMap (tgF env ((ts.head?.map (·.pos.line)).getD 0))
theorem sw_tup {ts vs : List Expr} {k k2 : Nat} {p1 p2 : Pos} {env : Env} (hok : vs.all (constantsAlone 8) = true → vs.all (foldedForSure 8) = true) :
    swappedStores [.Tuple ts k p1] (.Tuple vs k2 p2) env = pure none ∨
    (swappedStores [.Tuple ts k p1] (.Tuple vs k2 p2) env = pure (some (tgNames ts env)) ∧ (ts.length = 2 ∨ ts.length = 3) ∧ vs.length = ts.length ∧ (tgNames ts env).length = ts.length ∧ (tgNames ts env).eraseDups.length = (tgNames ts env).length) := by
  unfold swappedStores
  dsimp only
  split
  · exact .inl rfl
  · rename_i h1
    split
    · exact .inl rfl
    · split
      · exact .inl rfl
      · rename_i h2 h3
        split
        · exact .inl rfl
        · rename_i h4
          split
          · rename_i h5
            exact absurd (hok h5) h4
          · right
            refine ⟨rfl, ?_, ?_, ?_, ?_⟩
            · simp only [Bool.or_eq_true, Bool.not_eq_true', bne_iff_ne, not_or, ne_eq, Decidable.not_not] at h1
              have := h1.1.1
              simp only [Bool.not_eq_false, Bool.or_eq_true, beq_iff_eq] at this
              exact this
            · simp only [Bool.or_eq_true, Bool.not_eq_true', bne_iff_ne, not_or, ne_eq, Decidable.not_not] at h1
              exact h1.1.2
            · simp only [Bool.or_eq_true, bne_iff_ne, not_or, ne_eq, Decidable.not_not] at h3
              exact h3.1
            · simp only [Bool.or_eq_true, bne_iff_ne, not_or, ne_eq, Decidable.not_not] at h3
              exact h3.2
theorem tg_one {t : Expr} {ts : List Expr} {env : Env} (l : Nat) (h : ((t :: ts).filterMap (tgF env l)).length = ts.length + 1) : ∃ x p, t = .Name x p ∧ env.kindOf x = some .local ∧ (t :: ts).filterMap (tgF env l) = x :: ts.filterMap (tgF env l) ∧ (ts.filterMap (tgF env l)).length = ts.length := by
  have hle := List.length_filterMap_le (tgF env l) ts
  cases e : tgF env l t with
  | none => rw [List.filterMap_cons_none e] at h; omega
  | some y =>
    rw [List.filterMap_cons_some e] at h ⊢
    cases t with
    | Name x p =>
      simp only [tgF] at e
      split at e
      · rename_i hc
        rw [Bool.and_eq_true] at hc
        have e2 : x = y := Option.some.inj e
        subst e2
        exact ⟨_, p, rfl, eq_of_beq hc.1, rfl, by simpa using h⟩
      · exact absurd e (by simp)
    | _ => simp [tgF] at e

/-! ### targets -/
def okT : T → Bool
  | .nm _ | .nil => true
  | .cons p ps => okT p && okT ps
  | .tp ps => okT ps
  | .sub o i => okE o && okE i
section
variable {G : Glob} {N : List Str} {gc : Nat → W} {cf : Nat → List W → M W} {fa : Nat → Option Addr}
theorem t_sound : ∀ (n : Nat) {X : Cx} {sc : Scope} {e : Expr} {p : T}, Ct G N gc cf fa X sc → trT G N n sc e = some p → okT p = true → PG X e (rT X.w X.K fa (T.put gc cf p)) ∧ isStar e = false
  | 0, X, sc, e, p, c, h, hk => by simp [trT] at h
  | n + 1, X, sc, e, p, c, h, hk => by
    have ps : ∀ (m : Nat), m ≤ n → ∀ (es : List Expr) (p : T), trTs G N m sc es = some p → okT p = true → PGs X es (rTs X.w X.K fa (T.puts gc cf p)) ∧ es.any isStar = false ∧ es.length = p.size := by
      intro m
      induction m with
      | zero =>
        intro _ es p h hk
        cases es with
        | nil => simp only [trTs] at h; cases h; exact ⟨ts_nil, rfl, rfl⟩
        | cons e es => simp [trTs] at h
      | succ m ih =>
        intro hm es p h hk
        cases es with
        | nil => simp only [trTs] at h; cases h; exact ⟨ts_nil, rfl, rfl⟩
        | cons e es =>
          simp only [trTs] at h
          split at h
          · rename_i p1 p2 h1 h2
            cases h
            simp only [okT, Bool.and_eq_true] at hk
            obtain ⟨a1, a2⟩ := t_sound m c h1 hk.1
            obtain ⟨b1, b2, b3⟩ := ih (by omega) es p2 h2 hk.2
            exact ⟨ts_cons a2 a1 b1, by rw [List.any_cons, a2, b2]; rfl, by simp [T.size, b3]⟩
          · cases h
    cases e with
    | Name x pos =>
      simp only [trT] at h
      split at h
      · rename_i ho
        obtain ⟨i, hi, rfl⟩ := Option.map_eq_some_iff.mp h
        obtain ⟨l1, l2⟩ := c.own ho
        exact ⟨t_nm (by rw [c.eN]; exact c.nd) (c.slot hi) l1 l2, rfl⟩
      · cases h
    | Tuple es k pos =>
      simp only [trT] at h
      obtain ⟨q, hq, rfl⟩ := Option.map_eq_some_iff.mp h
      obtain ⟨b1, b2, b3⟩ := ps n (Nat.le_refl _) es q hq hk
      exact ⟨t_tp c.calm b2 b3 b1, rfl⟩
    | Subscript o i pos =>
      simp only [trT] at h
      split at h
      · cases h
      · split at h
        · rename_i o' i' h1 h2
          cases h
          simp only [okT, Bool.and_eq_true] at hk
          exact ⟨t_sub c.hu (not_slice h2).1 ((sd n).e c h1 hk.1).1 ((sd n).e c h2 hk.2).1, rfl⟩
        · cases h
    | _ => simp [trT] at h

/-! ### statements -/
def okC : C → Bool
  | .skip | .brk | .cont => true
  | .seq a b => okC a && okC b
  | .expr e => okE e
  | .asg t e => okT t && okE e
  | .aug _ _ _ => false
  | .ite c a b => okE c && okC a && okC b
  | .whl c b => okE c && okC b
  | .for_ _ it b => okE it && okC b
  | .ret e => okE e
theorem sw_else {tg e : Expr} {env : Env} (h : tupOk tg e = true) (hn : ∀ ts vs k k2 p1 p2, tg = .Tuple ts k p1 → e = .Tuple vs k2 p2 → False) : swappedStores [tg] e env = pure none := by
  cases tg with
  | Tuple ts k p1 =>
    cases e with
    | Tuple vs k2 p2 => exact (hn _ _ _ _ _ _ rfl rfl).elim
    | _ => rfl
  | List ts p1 =>
    cases e <;> first | rfl | cases h
  | _ => rfl
end
end TS

set_option Elab.async false
set_option linter.all false
set_option maxRecDepth 100000
set_option maxHeartbeats 4000000
/-! A22: every statement. -/
namespace TS
open PySem L2 StX PyProof.Rows

section
variable {G : Glob} {N : List Str} {gc : Nat → W} {cf : Nat → List W → M W} {fa : Nat → Option Addr}
structure Cs (G : Glob) (N : List Str) (gc : Nat → W) (cf : Nat → List W → M W) (fa : Nat → Option Addr) (X : Cx) (sc : Scope) : Prop extends Ct G N gc cf fa X sc where
  hsc : X.env.scope = sc
  pass : PassesOwn (model X.prog X.w) X.A X.env X.xe
abbrev VS (gc : Nat → W) (cf : Nat → List W → M W) (fa : Nat → Option Addr) (X : Cx) (s : Stmt) (c : C) : Prop := PS X s (rC X.w X.K fa (run gc cf c))
theorem nodup_two {x y : Str} (h : [x, y].eraseDups.length = [x, y].length) : x ≠ y := by
  intro e
  subst e
  simp [List.eraseDups_cons] at h
theorem nodup_three {x y z : Str} (h : [x, y, z].eraseDups.length = [x, y, z].length) : x ≠ y ∧ x ≠ z ∧ y ≠ z := by
  refine ⟨fun e => ?_, fun e => ?_, fun e => ?_⟩
  · subst e
    by_cases hz : z = x
    · subst hz; simp [List.eraseDups_cons, List.filter_cons] at h
    · simp [List.eraseDups_cons, List.filter_cons, hz] at h
  · subst e
    by_cases hz : y = x
    · subst hz; simp [List.eraseDups_cons, List.filter_cons] at h
    · simp [List.eraseDups_cons, List.filter_cons, hz] at h
  · subst e
    by_cases hz : y = x
    · subst hz; simp [List.eraseDups_cons, List.filter_cons] at h
    · simp [List.eraseDups_cons, List.filter_cons, hz] at h
theorem slot_ne {X : Cx} {i j : Nat} {x y : Str} (hi : X.N[i]? = some x) (hj : X.N[j]? = some y) (h : x ≠ y) : i ≠ j := by
  intro e
  subst e
  rw [hi] at hj
  exact h (Option.some.inj hj)
/-- name = [..] on one line -/
theorem c_setLc {X : Cx} {sc : Scope} {n : Nat} {elt : Expr} {gens : List Comprehension} {scope : Scope} {pos spos py : Pos} {x : Str} {i : Nat} {e' : E} (c : Cs G N gc cf fa X sc) (hi : X.N[i]? = some x) (h : trE G N (n + 1) sc (.ListComp elt gens scope pos) = some e') (hk : okE e' = true)
    (hl : X.env.scope.names.lookup x = some .local) (hsw : swapsWith (.ListComp elt gens scope pos) (some (.Name x py)) spos.line X.env = pure true) : VS gc cf fa X (.Assign [.Name x py] (.ListComp elt gens scope pos) spos) (.asg (.nm i) e') := by
  have ih := sd (G := G) (N := N) (gc := gc) (cf := cf) (fa := fa) n
  have c0 := c.toCt
  simp only [trE] at h
  split at h <;> try contradiction
  · rename_i heq
    cases heq
    split at h
    · rename_i hb
      split at h
      · rename_i t it cc e1 h1 h2 h3 h4
        cases h
        simp only [okE, Bool.and_eq_true] at hk
        have p := lcP ih c0 hb h1 h2 h3 h4 hk.1.1 hk.1.2 hk.2
        exact PSimp (ps_setLc c.calm (by rw [c.eN]; exact c.nd) hi hl hsw p.i p.ok p.g p.t p.e p.s) fun D σ H q => asg_name (fun σ H Q q => lc_read p.sub σ H Q q) D σ H q
      · cases h
    · cases h
  · rename_i heq
    cases heq
    split at h
    · rename_i hb
      split at h
      · rename_i t it cc t1 i1 cc1 e1 h1 h2 h3 h4 h5 h6 h7
        cases h
        simp only [okE, Bool.and_eq_true] at hk
        have p := lcP ih c0 hb h1 h2 h3 h7 hk.1.1.1.1 hk.1.1.1.2 hk.2
        have s1 := p_slots n h4
        exact PSimp (ps_setLc2 (vs1 := t1.slots) c.calm (by rw [c.eN]; exact c.nd) hi hl hsw p.i p.ok s1 p.g p.t (fun s H C cl fp => (ih.i (c0.blk s H _ C cl fp) h5 hk.1.1.2).1) (fun s H C cl fp => (p_sound n (c0.blk s H _ C cl fp) h4).1) (fun s H C cl fp => ih.f (c0.blk s H _ C cl fp) h6 hk.1.2) p.e p.s (fun env x => trI_set h5 env x)) fun D σ H q => asg_name (fun σ H Q q => lc2_read p.sub (fun i hi => hi) σ H Q q) D σ H q
      · cases h
    · cases h
theorem c_asgn {X : Cx} {sc : Scope} {n : Nat} {t e : Expr} {t' : T} {e' : E} {pos : Pos} (c : Cs G N gc cf fa X sc) (hok : tupOk t e = true) (h1 : trT G N n sc t = some t') (h2 : trE G N n sc e = some e') (k1 : okT t' = true) (k2 : okE e' = true) : VS gc cf fa X (.Assign [t] e pos) (.asg t' e') := by
  obtain ⟨g1, g2⟩ := t_sound n c.toCt h1 k1
  have ve := ((sd n).e c.toCt h2 k2).1
  -- the plain road
  have plain : swapsWithSole [t] e pos.line X.env = pure false → swappedStores [t] e X.env = pure none → VS gc cf fa X (.Assign [t] e pos) (.asg t' e') := fun a b => c_asg ve g1 g2 a b
  cases t with
  | Tuple ts k p1 =>
    have hf : swapsWithSole [.Tuple ts k p1] e pos.line X.env = pure false := by cases e <;> rfl
    cases e with
    | Tuple vs k2 p2 =>
      have hv : vs.all (constantsAlone 8) = true → vs.all (foldedForSure 8) = true := by
        intro hv
        have : (!vs.all (constantsAlone 8) || vs.all (foldedForSure 8)) = true := hok
        rw [hv] at this
        simpa using this
      rcases sw_tup (ts := ts) (k := k) (k2 := k2) (p1 := p1) (p2 := p2) (env := X.env) hv with hs | ⟨hs, hl, hvl, hn, hd⟩
      · exact plain hf hs
      · cases n with
        | zero => simp [trT] at h1
        | succ n =>
          simp only [trE] at h2
          obtain ⟨es', hes, rfl⟩ := Option.map_eq_some_iff.mp h2
          have pa := (sd n).a c.toCt hes k2
          simp only [trT] at h1
          obtain ⟨q, hq, rfl⟩ := Option.map_eq_some_iff.mp h1
          rcases hl with hl | hl
          · match ts, vs, hl, hvl, hn, hd, hs, hq, hes, pa with
            | [t1, t2], [v1, v2], _, _, hn, hd, hs, hq, hes, pa =>
              unfold tgNames at hn hd hs
              obtain ⟨x, px, rfl, kx, ex, lx⟩ := tg_one _ hn
              obtain ⟨y, py, rfl, ky, ey, ly⟩ := tg_one _ lx
              rw [ex, ey] at hd hs
              have hxy : x ≠ y := nodup_two hd
              cases n with
              | zero => simp [trTs] at hq
              | succ n =>
                simp only [trTs] at hq
                split at hq
                · rename_i q1 q2 a1 a2
                  cases hq
                  cases n with
                  | zero => simp [trT] at a1
                  | succ n =>
                    simp only [trT] at a1
                    split at a1
                    · obtain ⟨i, hi, rfl⟩ := Option.map_eq_some_iff.mp a1
                      simp only [trTs] at a2
                      split at a2
                      · rename_i q3 q4 b1 b2
                        cases a2
                        cases b2
                        cases n with
                        | zero => simp [trT] at b1
                        | succ n =>
                          simp only [trT] at b1
                          split at b1
                          · obtain ⟨j, hj, rfl⟩ := Option.map_eq_some_iff.mp b1
                            have si := c.toCt.slot hi
                            have sj := c.toCt.slot hj
                            exact PSimp (ps_par c.calm (by rw [c.eN]; exact c.nd) si sj (slot_ne si sj hxy) kx ky pa hs hf) fun D σ H q => par_read2 D σ H q
                          · cases b1
                      · cases a2
                    · cases a1
                · cases hq
          · match ts, vs, hl, hvl, hn, hd, hs, hq, hes, pa with
            | [t1, t2, t3], [v1, v2, v3], _, _, hn, hd, hs, hq, hes, pa =>
              unfold tgNames at hn hd hs
              obtain ⟨x, px, rfl, kx, ex, lx⟩ := tg_one _ hn
              obtain ⟨y, py, rfl, ky, ey, ly⟩ := tg_one _ lx
              obtain ⟨z, pz, rfl, kz, ez, lz⟩ := tg_one _ ly
              rw [ex, ey, ez] at hd hs
              obtain ⟨hxy, hxz, hyz⟩ := nodup_three hd
              cases n with
              | zero => simp [trTs] at hq
              | succ n =>
                simp only [trTs] at hq
                split at hq
                · rename_i q1 q2 a1 a2
                  cases hq
                  cases n with
                  | zero => simp [trT] at a1
                  | succ n =>
                    simp only [trT] at a1
                    split at a1
                    · obtain ⟨i, hi, rfl⟩ := Option.map_eq_some_iff.mp a1
                      simp only [trTs] at a2
                      split at a2
                      · rename_i q3 q4 b1 b2
                        cases a2
                        cases n with
                        | zero => simp [trT] at b1
                        | succ n =>
                          simp only [trT] at b1
                          split at b1
                          · obtain ⟨j, hj, rfl⟩ := Option.map_eq_some_iff.mp b1
                            simp only [trTs] at b2
                            split at b2
                            · rename_i q5 q6 d1 d2
                              cases b2
                              cases d2
                              cases n with
                              | zero => simp [trT] at d1
                              | succ n =>
                                simp only [trT] at d1
                                split at d1
                                · obtain ⟨k, hk, rfl⟩ := Option.map_eq_some_iff.mp d1
                                  have si := c.toCt.slot hi
                                  have sj := c.toCt.slot hj
                                  have sk := c.toCt.slot hk
                                  exact PSimp (ps_par3 c.calm (by rw [c.eN]; exact c.nd) si sj sk (slot_ne si sj hxy) (slot_ne si sk hxz) (slot_ne sj sk hyz) kx ky kz pa hs hf) fun D σ H q => par_read3 D σ H q
                                · cases d1
                            · cases b2
                          · cases b1
                      · cases a2
                    · cases a1
                · cases hq
    | _ => exact plain hf (sw_else hok fun _ _ _ _ _ _ _ e2 => by cases e2)
  | Name x p =>
    have hs : swappedStores [.Name x p] e X.env = pure none := sw_else hok fun _ _ _ _ _ _ e1 _ => by cases e1
    cases e with
    | ListComp elt gens scope lp =>
      obtain ⟨B, hB, hloc⟩ : ∃ B, swapsWith (.ListComp elt gens scope lp) (some (.Name x p)) pos.line X.env = pure B ∧ (B = true → X.env.kindOf x = some .local) :=
        ⟨_, rfl, fun h => by
          simp only [Bool.and_eq_true] at h
          exact eq_of_beq h.1.1.2⟩
      cases B with
      | false => exact plain hB hs
      | true =>
        cases n with
        | zero => simp [trT] at h1
        | succ n =>
          simp only [trT] at h1
          split at h1
          · obtain ⟨i, hi, rfl⟩ := Option.map_eq_some_iff.mp h1
            exact c_setLc c (c.toCt.slot hi) h2 k2 (hloc rfl) hB
          · cases h1
    | DictComp a b gens scope lp =>
      cases n with
      | zero => simp [trT] at h1
      | succ n =>
        simp only [trE] at h2
        split at h2 <;> try contradiction
        rename_i heq
        cases heq
        split at h2
        · split at h2
          · cases h2; cases k2
          · cases h2
        · cases h2
    | SetComp a b scope lp => cases n <;> simp [trE] at h2
    | _ => exact plain rfl hs
  | Subscript o i p =>
    have hs : swappedStores [.Subscript o i p] e X.env = pure none := sw_else hok fun _ _ _ _ _ _ e1 _ => by cases e1
    exact plain (by cases e <;> rfl) hs
  | _ => cases n <;> simp [trT] at h1
structure Ss (G : Glob) (N : List Str) (gc : Nat → W) (cf : Nat → List W → M W) (fa : Nat → Option Addr) (n : Nat) : Prop where
  s : ∀ {X : Cx} {sc : Scope} {s : Stmt} {c' : C}, Cs G N gc cf fa X sc → trS G N n sc s = some c' → okC c' = true → VS gc cf fa X s c'
  ss : ∀ {X : Cx} {sc : Scope} {ss : List Stmt} {c' : C}, Cs G N gc cf fa X sc → trSs G N n sc ss = some c' → okC c' = true → PSs X ss (rC X.w X.K fa (run gc cf c'))
theorem ss_zero : Ss G N gc cf fa 0 where
  s := fun c h _ => by simp [trS] at h
  ss := fun {X sc ss c'} c h hk => by
    cases ss with
    | nil => simp only [trSs] at h; cases h; exact cs_nil
    | cons s r => simp [trSs] at h
theorem ss_all : ∀ n : Nat, Ss G N gc cf fa n
  | 0 => ss_zero
  | n + 1 => by
    have ih := ss_all n
    refine ⟨fun {X sc s c'} c h hk => ?_, fun {X sc ss c'} c h hk => ?_⟩
    · cases s with
      | Pass p => simp only [trS] at h; cases h; exact c_skip ps_pass
      | Break p => simp only [trS] at h; cases h; exact c_brk
      | Continue p => simp only [trS] at h; cases h; exact c_cont
      | Expr e p =>
        cases e with
        | Call f as ks q =>
          simp only [trS] at h
          obtain ⟨e', he, rfl⟩ := Option.map_eq_some_iff.mp h
          exact c_expr ((sd n).e c.toCt he hk).1 rfl
        | _ => simp [trS] at h
      | Return e p =>
        cases e with
        | none => simp only [trS] at h; cases h; exact c_retN
        | some e =>
          simp only [trS] at h
          obtain ⟨e', he, rfl⟩ := Option.map_eq_some_iff.mp h
          exact c_ret ((sd n).e c.toCt he hk).1
      | Assign ts e p =>
        cases ts with
        | nil => simp [trS] at h
        | cons t r =>
          cases r with
          | nil =>
            simp only [trS] at h
            split at h
            · rename_i hok
              split at h
              · rename_i t' e' h1 h2
                cases h
                simp only [okC, Bool.and_eq_true] at hk
                exact c_asgn c hok h1 h2 hk.1 hk.2
              · cases h
            · cases h
          | cons u r => simp [trS] at h
      | AugAssign t o e p =>
        cases t with
        | Name x q =>
          simp only [trS] at h
          split at h
          · split at h
            · cases h; cases hk
            · cases h
          · cases h
        | _ => simp [trS] at h
      | If t a b p =>
        simp only [trS] at h
        split at h
        · rename_i c1 a1 b1 h1 h2 h3
          cases h
          simp only [okC, Bool.and_eq_true] at hk
          exact c_ite ((sd n).e c.toCt h1 hk.1.1).2 (ih.ss c h2 hk.1.2) (ih.ss c h3 hk.2)
        · cases h
      | While t a r p =>
        cases r with
        | nil =>
          simp only [trS] at h
          split at h
          · rename_i c1 a1 h1 h2
            cases h
            simp only [okC, Bool.and_eq_true] at hk
            exact c_whl c.pass ((sd n).e c.toCt h1 hk.1).2 (ih.ss c h2 hk.2)
          · cases h
        | cons u r => simp [trS] at h
      | For t it b r p =>
        cases r with
        | nil =>
          simp only [trS] at h
          split at h
          · rename_i t1 i1 b1 h1 h2 h3
            cases h
            simp only [okC, Bool.and_eq_true] at hk
            obtain ⟨q1, q2⟩ := (sd n).i (tg := t) c.toCt h2 hk.1
            exact c_for c.pass c.calm q1 (p_sound n c.toCt h1).1 (ih.ss c h3 hk.2) fun x => q2 _ x
          · cases h
        | cons u r => simp [trS] at h
      | _ => simp [trS] at h
    · cases ss with
      | nil => simp only [trSs] at h; cases h; exact cs_nil
      | cons s r =>
        cases r with
        | nil =>
          simp only [trSs] at h
          exact PSsimp (pss_one (ih.s c h hk)) fun D σ H q => q
        | cons s2 r =>
          simp only [trSs] at h
          split at h
          · rename_i a b h1 h2
            cases h
            simp only [okC, Bool.and_eq_true] at hk
            exact c_seq (ih.s c h1 hk.1) (ih.ss c h2 hk.2)
          · cases h
end
end TS

set_option Elab.async false
set_option linter.all false
set_option maxRecDepth 100000
set_option maxHeartbeats 4000000
/-! A23: what a call leaves; defs. -/
namespace TS
open PySem L2 StX PyProof.Rows

/-! ### the store cut back -/
section
variable {w : World} {K : PySem.W.Frag} {fa : Nat → Option Addr} {H : Hp} {ι ι' : Pls}
mutual
theorem RV.lower {n₀ : Nat} {κ : List Addr} (e : ι'.pl = ι.pl ++ κ) (eh : ι'.hd = ι.hd) (hn : ι.pl.length = n₀) : ∀ (a : W) (v : V), a.under n₀ = true → RV w K fa H ι' a v → RV w K fa H ι a v
  | .non, v, _, h => by simpa only [RV] using h
  | .bl b, v, _, h => by simpa only [RV] using h
  | .int i, v, _, h => by simpa only [RV] using h
  | .str s, v, _, h => by simpa only [RV] using h
  | .fn f, v, _, h => by simpa only [RV] using h
  | .ref n, v, u, h => by
    simp only [RV] at h ⊢
    obtain ⟨a, h1, h2⟩ := h
    have hu : n < n₀ := of_decide_eq_true (by simpa only [W.under] using u)
    rw [e, List.getElem?_append_left (by omega)] at h1
    exact ⟨a, h1, h2⟩
  | .tup ws, v, u, h => by
    simp only [RV] at h ⊢
    simp only [W.under] at u
    obtain ⟨a, vs, h1, t, r⟩ := h
    refine ⟨a, vs, h1, ?_, RVs.lower e eh hn ws vs u r⟩
    rcases t with ⟨t, n⟩ | t
    · refine .inl ⟨t, ?_⟩
      rw [Pls.nmem, e, eh] at n
      exact Pls.nmem.mpr ⟨fun m => n.1 (List.mem_append_left _ m), n.2⟩
    · exact .inr t
  | .lst ws, v, u, h => by
    simp only [RV] at h ⊢
    simp only [W.under] at u
    obtain ⟨a, vs, h1, t, r⟩ := h
    refine ⟨a, vs, h1, ?_, RVs.lower e eh hn ws vs u r⟩
    rcases t with ⟨t, n⟩ | t
    · refine .inl ⟨t, ?_⟩
      rw [Pls.nmem, e, eh] at n
      exact Pls.nmem.mpr ⟨fun m => n.1 (List.mem_append_left _ m), n.2⟩
    · exact .inr t
  | .dct ks us, v, u, h => by
    simp only [RV] at h ⊢
    simp only [W.under, Bool.and_eq_true] at u
    obtain ⟨a, es, ep, kvs, uvs, h1, t, n, en, nd, r1, r2⟩ := h
    rw [Pls.nmem, e, eh] at n
    exact ⟨a, es, ep, kvs, uvs, h1, t, Pls.nmem.mpr ⟨fun m => n.1 (List.mem_append_left _ m), n.2⟩, en, nd, RVs.lower e eh hn ks kvs u.1 r1, RVs.lower e eh hn us uvs u.2 r2⟩
theorem RVs.lower {n₀ : Nat} {κ : List Addr} (e : ι'.pl = ι.pl ++ κ) (eh : ι'.hd = ι.hd) (hn : ι.pl.length = n₀) : ∀ (as : List W) (vs : List V), unders n₀ as = true → RVs w K fa H ι' as vs → RVs w K fa H ι as vs
  | [], vs, _, h => by simpa only [RVs] using h
  | a :: as, vs, u, h => by
    simp only [RVs] at h ⊢
    simp only [unders, Bool.and_eq_true] at u
    obtain ⟨v, vs', h1, r, rs⟩ := h
    exact ⟨v, vs', h1, RV.lower e eh hn a v u.1 r, RVs.lower e eh hn as vs' u.2 rs⟩
end
mutual
/-- freezing keeps what a key is -/
theorem nkey_mapR {g : Nat → Option W} (hg : ∀ r a, g r = some a → a.nkey = .none) : ∀ (a b : W), a.mapR g = some b → b.nkey = a.nkey
  | .non, b, h => by simp only [W.mapR] at h; cases h; rfl
  | .bl _, b, h => by simp only [W.mapR] at h; cases h; rfl
  | .int _, b, h => by simp only [W.mapR] at h; cases h; rfl
  | .str _, b, h => by simp only [W.mapR] at h; cases h; rfl
  | .fn _, b, h => by simp only [W.mapR] at h; cases h; rfl
  | .ref r, b, h => by simp only [W.mapR] at h; rw [hg r b h]; rfl
  | .tup ws, b, h => by
    simp only [W.mapR] at h
    obtain ⟨ws', e1, rfl⟩ := Option.map_eq_some_iff.mp h
    simp only [W.nkey]
    rw [nkeys_mapR hg ws ws' e1]
  | .lst ws, b, h => by
    simp only [W.mapR] at h
    obtain ⟨ws', e1, rfl⟩ := Option.map_eq_some_iff.mp h
    rfl
  | .dct ks us, b, h => by
    simp only [W.mapR] at h
    split at h
    · cases h; rfl
    · cases h
theorem nkeys_mapR {g : Nat → Option W} (hg : ∀ r a, g r = some a → a.nkey = .none) : ∀ (as bs : List W), mapRs g as = some bs → nkeys bs = nkeys as
  | [], bs, h => by simp only [mapRs] at h; cases h; rfl
  | a :: as, bs, h => by
    simp only [mapRs] at h
    split at h
    · rename_i a' as' h1 h2
      cases h
      simp only [nkeys]
      rw [nkey_mapR hg a a' h1, nkeys_mapR hg as as' h2]
    · cases h
end
theorem thaw_key {n₀ : Nat} {S : Sto} : ∀ (k r : Nat) (a : W), thaw n₀ S k r = some a → a.nkey = .none
  | 0, r, a, h => by
    simp only [thaw] at h
    split at h
    · cases h; rfl
    · cases h
  | k + 1, r, a, h => by
    simp only [thaw] at h
    split at h
    · cases h; rfl
    · split at h
      · obtain ⟨ws, _, rfl⟩ := Option.map_eq_some_iff.mp h; rfl
      · split at h
        · cases h; rfl
        · cases h
      · cases h
theorem map_nkey {g : Nat → Option W} (hg : ∀ r a, g r = some a → a.nkey = .none) : ∀ (as bs : List W), mapRs g as = some bs → bs.map W.nkey = as.map W.nkey
  | [], bs, h => by simp only [mapRs] at h; cases h; rfl
  | a :: as, bs, h => by
    simp only [mapRs] at h
    split at h
    · rename_i a' as' h1 h2
      cases h
      rw [List.map_cons, List.map_cons, nkey_mapR hg a a' h1, map_nkey hg as as' h2]
    · cases h
theorem ents_map {g : Nat → Option W} (hg : ∀ r a, g r = some a → a.nkey = .none) : ∀ {ks ks' : List W} {kvs uvs : List V} {es : List DictEntry}, Ents w ks kvs uvs es → mapRs g ks = some ks' → Ents w ks' kvs uvs es
  | _, _, _, _, _, .nil, h => by simp only [mapRs] at h; cases h; exact .nil
  | _, _, _, _, _, .cons (k := k) a b c t, h => by
    simp only [mapRs] at h
    split at h
    · rename_i k' ks' h1 h2
      cases h
      exact .cons (by rw [nkey_mapR hg k k' h1]; exact a) b c (ents_map hg t h2)
    · cases h
end
section
variable {w : World} {K : PySem.W.Frag} {fa : Nat → Option Addr} {H : Hp} {ι ι' : Pls}
mutual
theorem RV.fz {g : Nat → Option W} (hk : ∀ r a, g r = some a → a.nkey = .none) (hg : ∀ r a v, g r = some a → RV w K fa H ι' (.ref r) v → RV w K fa H ι a v) (hi : ∀ a, a ∉ ι' → a ∉ ι) : ∀ (a b : W) (v : V), a.mapR g = some b → RV w K fa H ι' a v → RV w K fa H ι b v
  | .non, b, v, e, h => by simp only [W.mapR] at e; cases e; simpa only [RV] using h
  | .bl _, b, v, e, h => by simp only [W.mapR] at e; cases e; simpa only [RV] using h
  | .int _, b, v, e, h => by simp only [W.mapR] at e; cases e; simpa only [RV] using h
  | .str _, b, v, e, h => by simp only [W.mapR] at e; cases e; simpa only [RV] using h
  | .fn _, b, v, e, h => by simp only [W.mapR] at e; cases e; simpa only [RV] using h
  | .ref r, b, v, e, h => by simp only [W.mapR] at e; exact hg r b v e h
  | .tup ws, b, v, e, h => by
    simp only [W.mapR] at e
    obtain ⟨ws', e1, rfl⟩ := Option.map_eq_some_iff.mp e
    simp only [RV] at h ⊢
    obtain ⟨a, vs, h1, t, r⟩ := h
    refine ⟨a, vs, h1, ?_, RVs.fz hk hg hi ws ws' vs e1 r⟩
    rcases t with ⟨t, n⟩ | t
    · exact .inl ⟨t, hi a n⟩
    · exact .inr t
  | .lst ws, b, v, e, h => by
    simp only [W.mapR] at e
    obtain ⟨ws', e1, rfl⟩ := Option.map_eq_some_iff.mp e
    simp only [RV] at h ⊢
    obtain ⟨a, vs, h1, t, r⟩ := h
    refine ⟨a, vs, h1, ?_, RVs.fz hk hg hi ws ws' vs e1 r⟩
    rcases t with ⟨t, n⟩ | t
    · exact .inl ⟨t, hi a n⟩
    · exact .inr t
  | .dct ks us, b, v, e, h => by
    simp only [W.mapR] at e
    split at e
    · rename_i ks' us' e1 e2
      cases e
      simp only [RV] at h ⊢
      obtain ⟨a, es, ep, kvs, uvs, h1, t, n, en, nd, r1, r2⟩ := h
      exact ⟨a, es, ep, kvs, uvs, h1, t, hi a n, ents_map hk en e1, by rw [map_nkey hk ks ks' e1]; exact nd, RVs.fz hk hg hi ks ks' kvs e1 r1, RVs.fz hk hg hi us us' uvs e2 r2⟩
    · cases e
theorem RVs.fz {g : Nat → Option W} (hk : ∀ r a, g r = some a → a.nkey = .none) (hg : ∀ r a v, g r = some a → RV w K fa H ι' (.ref r) v → RV w K fa H ι a v) (hi : ∀ a, a ∉ ι' → a ∉ ι) : ∀ (as bs : List W) (vs : List V), mapRs g as = some bs → RVs w K fa H ι' as vs → RVs w K fa H ι bs vs
  | [], bs, vs, e, h => by simp only [mapRs] at e; cases e; simpa only [RVs] using h
  | a :: as, bs, vs, e, h => by
    simp only [mapRs] at e
    split at e
    · rename_i a' as' e1 e2
      cases e
      simp only [RVs] at h ⊢
      obtain ⟨v, vs', h1, r, rs⟩ := h
      exact ⟨v, vs', h1, RV.fz hk hg hi a a' v e1 r, RVs.fz hk hg hi as as' vs' e2 rs⟩
    · cases e
end
theorem RV.thaw {S : Sto} {κ : List Addr} {n₀ : Nat} (rs : RS w K fa H ι' S) (e : ι'.pl = ι.pl ++ κ) (eh : ι'.hd = ι.hd) (hn : ι.pl.length = n₀) : ∀ (k r : Nat) (a : W) (v : V), thaw n₀ S k r = some a → RV w K fa H ι' (.ref r) v → RV w K fa H ι a v := by
  have hi : ∀ a, a ∉ ι' → a ∉ ι := fun a n => by
    rw [Pls.nmem, e, eh] at n
    exact Pls.nmem.mpr ⟨fun m => n.1 (List.mem_append_left _ m), n.2⟩
  have low : ∀ (r : Nat) (v : V), r < n₀ → RV w K fa H ι' (.ref r) v → RV w K fa H ι (.ref r) v := fun r v hr h => RV.lower e eh hn (.ref r) v (by simp only [W.under]; exact decide_eq_true hr) h
  have far : ∀ (r : Nat) (p : Addr), ¬ r < n₀ → ι'.pl[r]? = some p → p ∉ ι := by
    intro r p hr hp
    rw [Pls.nmem]
    refine ⟨fun m => ?_, fun m => rs.dj p (by rw [eh]; exact m) (List.mem_of_getElem? hp)⟩
    obtain ⟨j, hj⟩ := List.mem_iff_getElem?.mp m
    have hj2 : ι'.pl[j]? = some p := by
      rw [e, List.getElem?_append_left (List.getElem?_eq_some_iff.mp hj).1]; exact hj
    obtain ⟨l1, e1⟩ := List.getElem?_eq_some_iff.mp hp
    obtain ⟨l2, e2⟩ := List.getElem?_eq_some_iff.mp hj2
    have := (List.getElem_inj rs.nd).mp (e1.trans e2.symm)
    have l3 := (List.getElem?_eq_some_iff.mp hj).1
    omega
  intro k
  induction k with
  | zero =>
    intro r a v h hr
    simp only [TS.thaw] at h
    split at h
    · rename_i hlt
      cases h
      exact low r v hlt hr
    · cases h
  | succ k ih =>
    intro r a v h hr
    simp only [TS.thaw] at h
    split at h
    · rename_i hlt
      cases h
      exact low r v hlt hr
    · rename_i hlt
      obtain ⟨p, hp, rfl⟩ := rv_ref.mp hr
      split at h
      · rename_i ws hs
        obtain ⟨ws', e1, rfl⟩ := Option.map_eq_some_iff.mp h
        obtain ⟨vs, h1, h2⟩ := rs.ob r _ p hs hp
        simp only [RV]
        exact ⟨p, vs, rfl, .inl ⟨.inl h1, far r p hlt hp⟩, RVs.fz (fun r a => thaw_key k r a) ih hi ws ws' vs e1 h2⟩
      · rename_i ks us hs
        split at h
        · rename_i ks' us' e1 e2
          cases h
          obtain ⟨es, ep, kvs, uvs, h1, h2, h3, h4, h5⟩ := rs.ob r _ p hs hp
          simp only [RV]
          exact ⟨p, es, ep, kvs, uvs, rfl, h1, far r p hlt hp, ents_map (fun r a => thaw_key k r a) h2 e1, by rw [map_nkey (fun r a => thaw_key k r a) ks ks' e1]; exact h3, RVs.fz (fun r a => thaw_key k r a) ih hi ks ks' kvs e1 h4, RVs.fz (fun r a => thaw_key k r a) ih hi us us' uvs e2 h5⟩
        · cases h
      · cases h
/-- a call's end -/
theorem finish_ok {H0 : Hp} {S S1 S' : Sto} {keep : Bool} {a c : W} {v : V} (rs0 : RS w K fa H0 ι S) (x : Ext ι H0 ι' H) (rs : RS w K fa H ι' S1) (rv : RV w K fa H ι' a v) (h : finish keep S.length a S1 = some (c, S')) : ∃ ι2, Ext ι H0 ι2 H ∧ RS w K fa H ι2 S' ∧ RV w K fa H ι2 c v := by
  unfold finish at h
  split at h
  · cases h
    exact ⟨ι', x, rs, rv⟩
  · split at h
    · rename_i a' ha
      split at h
      · rename_i hc
        cases h
        obtain ⟨κ, e, hk⟩ := x.pre
        have hn : ι.pl.length = S.length := rs0.len
        have hi : ∀ b, b ∉ ι' → b ∉ ι := fun b n => by
          rw [Pls.nmem, e, x.hid] at n
          exact Pls.nmem.mpr ⟨fun m => n.1 (List.mem_append_left _ m), n.2⟩
        refine ⟨ι, ⟨⟨[], by simp, fun _ h => nomatch h⟩, rfl, x.keep, x.there, x.dk⟩, ?_, ?_⟩
        · have hle : S.length ≤ S1.length := by
            have h1 := rs.len
            rw [e, List.length_append] at h1
            omega
          refine ⟨by rw [List.length_take]; omega, rs0.nd, rs0.dj, fun b m => rs.hid b (by rw [x.hid]; exact m), fun n o b h1 h2 => ?_⟩
          have hn' : n < S.length := by rw [← hn]; exact (List.getElem?_eq_some_iff.mp h2).1
          rw [List.getElem?_take_of_lt hn'] at h1
          have ro := rs.ob n o b h1 (by rw [e, List.getElem?_append_left (by omega)]; exact h2)
          have ou : o.under S.length = true := List.all_eq_true.mp hc.2 o (List.mem_of_getElem? (by rw [List.getElem?_take_of_lt hn']; exact h1))
          cases o with
          | lst ws =>
            obtain ⟨vs, r1, r2⟩ := ro
            exact ⟨vs, r1, RVs.lower e x.hid hn ws vs ou r2⟩
          | dct ks us =>
            obtain ⟨es, ep, kvs, uvs, r1, r2, r3, r4, r5⟩ := ro
            have ou : (unders S.length ks && unders S.length us) = true := ou
            rw [Bool.and_eq_true] at ou
            exact ⟨es, ep, kvs, uvs, r1, r2, r3, RVs.lower e x.hid hn ks kvs ou.1 r4, RVs.lower e x.hid hn us uvs ou.2 r5⟩
        · exact RV.fz (fun r a => thaw_key 8 r a) (RV.thaw rs e x.hid hn 8) hi a c v ha rv
      · cases h
    · cases h
end
end TS

set_option Elab.async false
set_option linter.all false
set_option maxRecDepth 100000
set_option maxHeartbeats 4000000
/-! A24: the defs of a text. -/
namespace TS
open PySem L2 StX PyProof.Rows

/-- one def of the text: its name, its statement, its slots' names, its number, what tr makes of it -/
structure Fd where
  x : Str
  st : Stmt
  N : List Str
  f : Nat
  d : Def
def scB (N ps : List Str) (sc : Scope) : Bool :=
  sc.kind == .function && !sc.isCoroutine && !sc.isGenerator && decide N.Nodup && decide (N.take ps.length = ps) && ps.all (fun x => sc.names.lookup x == some .local || sc.names.lookup x == some .cell) && sc.names.all (fun y => y.2 != .free)
theorem sc_of {N ps : List Str} {sc : Scope} (h : scB N ps sc = true) : FnScope N ps sc := by
  unfold scB at h
  simp only [Bool.and_eq_true, Bool.not_eq_true', List.all_eq_true, Bool.or_eq_true, beq_iff_eq, bne_iff_ne, decide_eq_true_eq] at h
  obtain ⟨⟨⟨⟨⟨⟨h1, h2⟩, h3⟩, h4⟩, h5⟩, h6⟩, h7⟩ := h
  exact ⟨h1, h2, h3, h4, h5, h6, h7⟩
def fuelN : Nat := 60
/-- what is asked of one def, by computation -/
def Fd.ok (G : Glob) (e : Fd) : Bool := decide (trSs G e.N fuelN (defScope e.st) (defBody e.st) = some e.d.body) && okC e.d.body && scB e.N (e.N.take e.d.ps) (defScope e.st) && decide (e.d.slots = e.N.length) && !e.d.rest && decide (e.d.ps ≤ e.N.length)
def tbOf (T : List Fd) (f : Nat) : Option Def := match T.find? fun e => e.f == f with
  | some e => some e.d
  | none => none
def faOf (K : PySem.W.Frag) (T : List Fd) (f : Nat) : Option Addr := match T.find? fun e => e.f == f with
  | some e => some (He.fAd K (e.x, none))
  | none => none
section
variable {P : Program} {w : World} {K : PySem.W.Frag} {mg : Str → Option Value} {base : Heap} {G : Glob} {gc : Nat → W} {T : List Fd}
/-- the facts of the heap that the defs lean on -/
structure Facts (w : World) (K : PySem.W.Frag) (mg : Str → Option Value) (G : Glob) (gc : Nat → W) (T : List Fd) : Prop where
  def_ : ∀ e ∈ T, ∃ fd, FunD K e.x e.x (defArgs e.st) (defBody e.st) (defScope e.st) [] [] (He.fAd K (e.x, none)) fd ∧ Binds K fd (e.N.take e.d.ps) []
  ok : ∀ e ∈ T, e.ok G = true
  con : ∀ x g, G.con.lookup x = some g → ∃ u v, mg x = some u ∧ RelV v u ∧ ∀ H ι, RV w K (faOf K T) H ι (gc g) v
  fns : ∀ x f, G.con.lookup x = none → G.fns.lookup x = some f → ∃ a, mg x = some (.ref a) ∧ faOf K T f = some a
  blt : ∀ x ∈ bltNames, mg x = none
theorem rr_start {ι : Pls} {H : Hp} {as : List W} {vs : List V} {N : List Str} {d : Def} (h : RVs w K (faOf K T) H ι as vs) (hs : d.slots = N.length) (hl : as.length ≤ N.length) : RR w K (faOf K T) H ι (d.rho as) (L2.start N vs) := by
  have hlen := h.length
  refine ⟨?_, fun i x hx => ?_⟩
  · unfold Def.rho L2.start
    simp [hs, hlen]
  · unfold Def.rho at hx
    unfold L2.start
    by_cases hi : i < as.length
    · rw [List.getElem?_append_left (by simpa using hi), List.getElem?_map] at hx
      obtain ⟨a, ha, e⟩ := Option.map_eq_some_iff.mp hx
      cases e
      obtain ⟨v, hv, rv⟩ := h.get ha
      exact ⟨v, by rw [List.getElem?_append_left (by simp; omega), List.getElem?_map, hv]; rfl, rv⟩
    · rw [List.getElem?_append_right (by simpa using hi)] at hx
      have := List.mem_of_getElem? hx
      rw [List.mem_replicate] at this
      cases this.2
theorem fn_ok (F : Facts w K mg G gc T) {n f : Nat} (ih : Tbl P w K mg base (faOf K T) n (callF gc (tbOf T) n)) {e : Fd} (he : T.find? (fun e => e.f == f) = some e) {fd : FuncData} (fD : FunD K e.x e.x (defArgs e.st) (defBody e.st) (defScope e.st) [] [] (He.fAd K (e.x, none)) fd) :
    FnOk P w K mg base CX0 (n + 1) (He.fAd K (e.x, none)) fd (e.N.take e.d.ps) (spD w K (faOf K T) (callF gc (tbOf T) (n + 1) f)) := by
  have hm := List.mem_of_find?_eq_some he
  have ok := F.ok e hm
  unfold Fd.ok at ok
  simp only [Bool.and_eq_true, decide_eq_true_eq, Bool.not_eq_true'] at ok
  obtain ⟨⟨⟨⟨⟨k1, k2⟩, k3⟩, k4⟩, k5⟩, k6⟩ := ok
  have htb : tbOf T f = some e.d := by unfold tbOf; rw [he]
  have hpl : (e.N.take e.d.ps).length = e.d.ps := by rw [List.length_take]; omega
  have S := sc_of k3
  -- a call of it
  refine fD.ok S (fun vs H Q E h => ?_) fun cdv A outer s H vs Q E hr h => ?_
  · obtain ⟨ι, S, as, c, S', _, ras, hc, _⟩ := h
    rw [hpl, ← ras.length]
    simp only [callF, htb] at hc
    unfold Def.bind at hc
    rw [k5, if_neg Bool.false_ne_true] at hc
    split at hc
    · rename_i as' hb
      split at hb
      · assumption
      · cases hb
    · cases hc
  · obtain ⟨ι, S0, as, c, S', rs, ras, hc, q⟩ := h
    simp only [callF, htb] at hc
    unfold Def.bind at hc
    rw [k5, if_neg Bool.false_ne_true] at hc
    split at hc
    · rename_i as' hbind
      split at hbind
      · rename_i hlen
        have e0 : as = as' := Option.some.inj hbind
        subst e0
        have ct : Ct G e.N gc (callF gc (tbOf T) n) (faOf K T) (cxOf CX0 P w K mg base e.N e.x (defScope e.st) (He.fAd K (e.x, none)) cdv A outer s H E) (defScope e.st) :=
          ⟨rfl, ScR.refl _, S.nd, rfl, ⟨n, hr, ih⟩, F.con, F.fns, F.blt, fun _ _ => rfl⟩
        have cs : Cs G e.N gc (callF gc (tbOf T) n) (faOf K T) (cxOf CX0 P w K mg base e.N e.x (defScope e.st) (He.fAd K (e.x, none)) cdv A outer s H E) (defScope e.st) :=
          ⟨ct, rfl, passes_of (K := fun e s'' => CX0 outer H s E e s'') rfl⟩
        refine ⟨_, (ss_all fuelN).ss cs k1 k2, ?_⟩
        have rr := rr_start (N := e.N) (d := e.d) ras k4 (by omega)
        split at hc
        · rename_i a0 ρ1 S1 hrun
          refine ⟨ι, e.d.rho as, S0, .ret a0, ρ1, S1, rs, rr, hrun, fun H' ι' σ' x rs' _ v rv => ?_⟩
          obtain ⟨ι2, x2, rs2, rv2⟩ := finish_ok rs x rs' rv hc
          exact q v H' ι2 x2 rs2 rv2
        · rename_i ρ1 S1 hrun
          refine ⟨ι, e.d.rho as, S0, .nx, ρ1, S1, rs, rr, hrun, fun H' ι' σ' x rs' _ => ?_⟩
          obtain ⟨ι2, x2, rs2, rv2⟩ := finish_ok (a := .non) rs x rs' (rv_non.mpr rfl) hc
          exact q .non H' ι2 x2 rs2 rv2
        · cases hc
      · cases hbind
    · cases hc
theorem tbl_ok (F : Facts w K mg G gc T) : ∀ n : Nat, Tbl P w K mg base (faOf K T) n (callF gc (tbOf T) n)
  | 0 => by
    refine ⟨fun f a hf => ?_⟩
    unfold faOf at hf
    split at hf
    · rename_i e he
      cases hf
      obtain ⟨fd, fD, _⟩ := F.def_ e (List.mem_of_find?_eq_some he)
      refine ⟨fD.kp, fun A outer s H us vs Q E hr e0 r hs => ?_⟩
      obtain ⟨ι, S, as, c, S', _, _, hc, _⟩ := hs
      have hc : (none : Option (W × Sto)) = some (c, S') := hc
      cases hc
    · cases hf
  | n + 1 => by
    have ih := tbl_ok F n
    refine ⟨fun f a hf => ?_⟩
    unfold faOf at hf
    split at hf
    · rename_i e he
      cases hf
      obtain ⟨fd, fD, hb⟩ := F.def_ e (List.mem_of_find?_eq_some he)
      exact ⟨fD.kp, ((fn_ok F ih he fD).raw hb .nil).imp fun vs H Q E h => by rw [List.append_nil]; exact h⟩
    · cases hf
/-- THE END: what the law's def computes is True, so it holds -/
theorem law_sp {f : Nat} {n : Nat} {H : Hp} {a : Addr} {ns : List Int} {S' : Sto} (h : callF gc (tbOf T) n f [.lst (ns.map .int)] [] = some (.bl true, S')) (hS : SqL K H a (ns.map V.int)) :
    spD w K (faOf K T) (callF gc (tbOf T) n f) [.ref a] H (fun v _ => v = .bl true) fun _ _ _ => False := by
  refine ⟨⟨[], []⟩, [], [.lst (ns.map .int)], .bl true, S', ⟨rfl, List.nodup_nil, fun a m => (nomatch m), fun a m => (nomatch m), fun n o a h1 _ => (by simp at h1)⟩, .cons ?_ .nil, h, fun v H' ι' _ _ rv => rv_bl.mp rv⟩
  simp only [RV]
  refine ⟨a, ns.map V.int, rfl, ?_, ?_⟩
  · rcases hS with hS | hS
    · refine .inl ⟨hS, fun m => ?_⟩
      rcases Pls.mem.mp m with m | m <;> cases m
    · exact .inr hS
  · clear h hS
    induction ns with
    | nil => exact .nil
    | cons i ns ih => exact .cons (rv_int.mpr rfl) ih
end
end TS

set_option Elab.async false
set_option linter.all false
set_option maxRecDepth 100000
set_option maxHeartbeats 1000000
/-! A25: garbage put in behind p places changes nothing. -/
namespace TS
open PySem

def shN (p k n : Nat) : Nat := if n < p then n else n + k
mutual
def W.sh (p k : Nat) : W → W
  | .ref n => .ref (shN p k n)
  | .tup ws => .tup (shs p k ws)
  | .lst ws => .lst (shs p k ws)
  | .dct ks us => .dct (shs p k ks) (shs p k us)
  | .non => .non
  | .bl b => .bl b
  | .int i => .int i
  | .str x => .str x
  | .fn f => .fn f
def shs (p k : Nat) : List W → List W
  | [] => []
  | w :: ws => W.sh p k w :: shs p k ws
end
def Ob.sh (p k : Nat) : Ob → Ob
  | .lst ws => .lst (shs p k ws)
  | .dct ks us => .dct (shs p k ks) (shs p k us)
def shS (p : Nat) (g : List Ob) (S : Sto) : Sto := (S.take p).map (Ob.sh p g.length) ++ (g ++ (S.drop p).map (Ob.sh p g.length))
theorem shs_map (p k : Nat) : ∀ ws, shs p k ws = ws.map (W.sh p k)
  | [] => rfl
  | w :: ws => by simp only [shs, List.map_cons, shs_map p k ws]
theorem sh_inj (p k : Nat) {n m : Nat} (h : shN p k n = shN p k m) : n = m := by
  unfold shN at h
  split at h <;> split at h <;> omega

section
variable {p : Nat} {g : List Ob} {S S' : Sto}
theorem shS_len (hp : p ≤ S.length) : (shS p g S).length = S.length + g.length := by
  unfold shS; simp; omega
theorem shS_get (hp : p ≤ S.length) (n : Nat) : (shS p g S)[shN p g.length n]? = (S[n]?).map (Ob.sh p g.length) := by
  unfold shS shN
  split
  · rename_i h
    rw [List.getElem?_append_left (by simp; omega), List.getElem?_map, List.getElem?_take_of_lt h]
  · rename_i h
    rw [List.getElem?_append_right (by simp; omega), List.getElem?_append_right (by simp; omega), List.getElem?_map, List.getElem?_drop]
    have e : (List.map (Ob.sh p g.length) (List.take p S)).length = p := by simp; omega
    rw [e]
    congr 2
    omega
theorem shS_push (hp : p ≤ S.length) (o : Ob) : shS p g (S ++ [o]) = shS p g S ++ [Ob.sh p g.length o] := by
  unfold shS
  rw [List.take_append_of_le_length hp, List.drop_append_of_le_length hp]
  simp
theorem shS_set (hp : p ≤ S.length) (n : Nat) (o : Ob) : shS p g (S.set n o) = (shS p g S).set (shN p g.length n) (Ob.sh p g.length o) := by
  apply List.ext_getElem?
  intro i
  have hp' : p ≤ (S.set n o).length := by simpa using hp
  by_cases hi : ∃ m, i = shN p g.length m
  · obtain ⟨m, rfl⟩ := hi
    rw [shS_get hp']
    by_cases e : n = m
    · subst e
      by_cases hn : n < S.length
      · rw [List.getElem?_set_self hn, List.getElem?_set_self]
        · rfl
        · have h2 := shS_get (g := g) hp n
          rw [List.getElem?_eq_getElem hn] at h2
          exact (List.getElem?_eq_some_iff.mp h2).1
      · have h2 := shS_get (g := g) hp n
        have h3 : S[n]? = none := List.getElem?_eq_none (by omega)
        have h4 : (S.set n o)[n]? = none := List.getElem?_eq_none (by rw [List.length_set]; omega)
        rw [h3] at h2
        rw [h4]
        have := List.getElem?_eq_none_iff.mp h2
        rw [List.getElem?_eq_none (by rw [List.length_set]; exact this)]
        rfl
    · rw [List.getElem?_set_ne e, List.getElem?_set_ne (fun z => e (sh_inj _ _ z)), shS_get hp]
  · have hr : p ≤ i ∧ i < p + g.length := by
      refine ⟨?_, ?_⟩
      · apply Nat.le_of_not_lt
        intro z
        exact hi ⟨i, by unfold shN; rw [if_pos z]⟩
      · apply Nat.lt_of_not_le
        intro z
        exact hi ⟨i - g.length, by unfold shN; rw [if_neg (by omega)]; omega⟩
    have ne : shN p g.length n ≠ i := fun z => hi ⟨n, z.symm⟩
    rw [List.getElem?_set_ne ne]
    unfold shS
    rw [List.getElem?_append_right (by simp; omega), List.getElem?_append_left (by simp; omega), List.getElem?_append_right (by simp; omega), List.getElem?_append_left (by simp; omega)]
    simp
theorem shN_len (hp : p ≤ S.length) : shN p g.length S.length = (shS p g S).length := by
  rw [shS_len hp]; unfold shN; rw [if_neg (by omega)]
end
mutual
theorem py_sh (p k : Nat) : ∀ a : W, (W.sh p k a).py = a.py
  | .non => rfl
  | .bl _ => rfl
  | .int _ => rfl
  | .str _ => rfl
  | .fn _ => rfl
  | .ref _ => by simp only [W.sh, W.py]
  | .tup ws => by simp only [W.sh, W.py, pys_sh p k ws]
  | .lst ws => by simp only [W.sh, W.py, pys_sh p k ws]
  | .dct ks us => by simp only [W.sh, W.py]
theorem pys_sh (p k : Nat) : ∀ as : List W, pys (shs p k as) = pys as
  | [] => rfl
  | a :: as => by simp only [shs, pys, py_sh p k a, pys_sh p k as]
end
mutual
theorem hk_sh (p k : Nat) : ∀ (a : W) (n : Nat), (W.sh p k a).hk n = a.hk n
  | .non, n => by cases n <;> rfl
  | .bl _, n => by cases n <;> rfl
  | .int _, n => by cases n <;> rfl
  | .str _, n => by cases n <;> rfl
  | .fn _, n => by cases n <;> rfl
  | .ref _, n => by cases n <;> rfl
  | .tup ws, n => by cases n <;> simp only [W.sh, W.hk, hks_sh p k ws]
  | .lst ws, n => by cases n <;> rfl
  | .dct ks us, n => by cases n <;> rfl
theorem hks_sh (p k : Nat) : ∀ (as : List W) (n : Nat), hks n (shs p k as) = hks n as
  | [], n => by cases n <;> rfl
  | a :: as, n => by simp only [shs, hks, hk_sh p k a, hks_sh p k as]
end
theorem leaf_sh (p k : Nat) (a : W) : (W.sh p k a).leaf = a.leaf := by cases a <;> rfl
theorem tkey_sh (p k : Nat) (a : W) : (W.sh p k a).tkey = a.tkey := by
  unfold W.tkey
  rw [hk_sh]
  cases a <;> rfl
theorem eqv_sh (p k : Nat) (a b : W) : W.eqv (W.sh p k a) (W.sh p k b) = W.eqv a b := by unfold W.eqv; rw [py_sh, py_sh]
theorem len_shs (p k : Nat) (ws : List W) : (shs p k ws).length = ws.length := by rw [shs_map]; simp
theorem all_shs (p k : Nat) (f : W → Bool) (hf : ∀ a, f (W.sh p k a) = f a) (ws : List W) : (shs p k ws).all f = ws.all f := by
  rw [shs_map, List.all_map]
  congr 1
  funext a
  exact hf a
theorem keyFor_sh (p k : Nat) (ks : List W) (x : W) : keyFor (shs p k ks) (W.sh p k x) = keyFor ks x := by
  unfold keyFor
  rw [leaf_sh, tkey_sh, all_shs p k _ (leaf_sh p k), all_shs p k _ (tkey_sh p k)]
theorem kIdx_sh (p k : Nat) (ks : List W) (x : W) : kIdx (shs p k ks) (W.sh p k x) = kIdx ks x := by
  unfold kIdx
  rw [shs_map, List.findIdx?_map]
  congr 1
  funext a
  exact eqv_sh p k a x
theorem get_shs (p k : Nat) (ws : List W) (i : Nat) : (shs p k ws)[i]? = (ws[i]?).map (W.sh p k) := by rw [shs_map, List.getElem?_map]
theorem dAt_sh (p k : Nat) (ks us : List W) (x : W) : dAt (shs p k ks) (shs p k us) (W.sh p k x) = (dAt ks us x).map (W.sh p k) := by
  unfold dAt
  rw [kIdx_sh]
  cases kIdx ks x with
  | none => rfl
  | some i => exact get_shs p k us i
theorem dHas_sh (p k : Nat) (ks : List W) (x : W) : dHas (shs p k ks) (W.sh p k x) = dHas ks x := by unfold dHas; rw [kIdx_sh]
theorem app_shs (p k : Nat) (xs ys : List W) : shs p k (xs ++ ys) = shs p k xs ++ shs p k ys := by simp only [shs_map, List.map_append]
theorem set_shs (p k : Nat) (xs : List W) (i : Nat) (v : W) : shs p k (xs.set i v) = (shs p k xs).set i (W.sh p k v) := by simp only [shs_map, List.map_set]
theorem dPut_sh (p k : Nat) (ks us : List W) (x v : W) : dPut (shs p k ks) (shs p k us) (W.sh p k x) (W.sh p k v) = (shs p k (dPut ks us x v).1, shs p k (dPut ks us x v).2) := by
  unfold dPut
  rw [kIdx_sh]
  cases kIdx ks x with
  | none => simp only [app_shs, shs]
  | some i => simp only [set_shs]
end TS

set_option Elab.async false
set_option linter.all false
set_option maxRecDepth 100000
set_option maxHeartbeats 1000000
/-! A26: the operations under a shift. -/
namespace TS
open PySem

section
variable {p : Nat} {g : List Ob}
mutual
theorem mapR_sh {k : Nat} {f f' : Nat → Option W} (hf : ∀ r x, f r = some x → f' (shN p k r) = some (W.sh p k x)) : ∀ (a b : W), a.mapR f = some b → (W.sh p k a).mapR f' = some (W.sh p k b)
  | .non, b, h => by simp only [W.mapR] at h; cases h; rfl
  | .bl _, b, h => by simp only [W.mapR] at h; cases h; rfl
  | .int _, b, h => by simp only [W.mapR] at h; cases h; rfl
  | .str _, b, h => by simp only [W.mapR] at h; cases h; rfl
  | .fn _, b, h => by simp only [W.mapR] at h; cases h; rfl
  | .ref r, b, h => by simp only [W.mapR] at h; simp only [W.sh, W.mapR]; exact hf r b h
  | .tup ws, b, h => by
    simp only [W.mapR] at h
    obtain ⟨ws', e, rfl⟩ := Option.map_eq_some_iff.mp h
    simp only [W.sh, W.mapR, mapRs_sh hf ws ws' e]; rfl
  | .lst ws, b, h => by
    simp only [W.mapR] at h
    obtain ⟨ws', e, rfl⟩ := Option.map_eq_some_iff.mp h
    simp only [W.sh, W.mapR, mapRs_sh hf ws ws' e]; rfl
  | .dct ks us, b, h => by
    simp only [W.mapR] at h
    split at h
    · rename_i ks' us' e1 e2
      cases h
      simp only [W.sh, W.mapR, mapRs_sh hf ks ks' e1, mapRs_sh hf us us' e2]
    · cases h
theorem mapRs_sh {k : Nat} {f f' : Nat → Option W} (hf : ∀ r x, f r = some x → f' (shN p k r) = some (W.sh p k x)) : ∀ (as bs : List W), mapRs f as = some bs → mapRs f' (shs p k as) = some (shs p k bs)
  | [], bs, h => by simp only [mapRs] at h; cases h; rfl
  | a :: as, bs, h => by
    simp only [mapRs] at h
    split at h
    · rename_i a' as' e1 e2
      cases h
      simp only [shs, mapRs, mapR_sh hf a a' e1, mapRs_sh hf as as' e2]
    · cases h
end
mutual
theorem flat_sh (k : Nat) : ∀ (a : W) (n : Nat), a.flat n = true → W.sh p k a = a
  | .non, n, _ => rfl
  | .bl _, n, _ => rfl
  | .int _, n, _ => rfl
  | .str _, n, _ => rfl
  | .fn _, n, h => rfl
  | .ref _, n, h => by cases n <;> simp only [W.flat, Bool.false_eq_true] at h
  | .dct _ _, n, h => by cases n <;> simp only [W.flat, Bool.false_eq_true] at h
  | .tup ws, n, h => by
    cases n with
    | zero => simp only [W.flat, Bool.false_eq_true] at h
    | succ n => simp only [W.flat] at h; simp only [W.sh, flats_sh k ws n h]
  | .lst ws, n, h => by
    cases n with
    | zero => simp only [W.flat, Bool.false_eq_true] at h
    | succ n => simp only [W.flat] at h; simp only [W.sh, flats_sh k ws n h]
theorem flats_sh (k : Nat) : ∀ (as : List W) (n : Nat), flats n as = true → shs p k as = as
  | [], _, _ => rfl
  | a :: as, n, h => by
    simp only [flats, Bool.and_eq_true] at h
    simp only [shs, flat_sh k a n h.1, flats_sh k as n h.2]
end
variable {S S1 S' : Sto}
theorem thaw_sh {n₀ n₁ : Nat} (hp : p ≤ S.length) (hn : ∀ r, r < n₀ ↔ shN p g.length r < n₁) : ∀ (k r : Nat) (a : W), thaw n₀ S k r = some a → thaw n₁ (shS p g S) k (shN p g.length r) = some (W.sh p g.length a)
  | 0, r, a, h => by
    simp only [thaw] at h ⊢
    split at h
    · rename_i hl
      cases h
      rw [if_pos ((hn r).mp hl)]; rfl
    · cases h
  | k + 1, r, a, h => by
    simp only [thaw] at h ⊢
    split at h
    · rename_i hl
      cases h
      rw [if_pos ((hn r).mp hl)]; rfl
    · rename_i hl
      rw [if_neg fun z => hl ((hn r).mpr z), shS_get hp]
      split at h
      · rename_i ws e
        obtain ⟨ws', e1, rfl⟩ := Option.map_eq_some_iff.mp h
        rw [e]
        simp only [Option.map_some, Ob.sh, mapRs_sh (thaw_sh hp hn k) ws ws' e1]; rfl
      · rename_i ks us e
        split at h
        · rename_i ks' us' e1 e2
          cases h
          rw [e]
          simp only [Option.map_some, Ob.sh, mapRs_sh (thaw_sh hp hn k) ks ks' e1, mapRs_sh (thaw_sh hp hn k) us us' e2]; rfl
        · cases h
      · cases h
theorem frz_sh {n₀ n₁ : Nat} (hp : p ≤ S.length) (hn : ∀ r, r < n₀ ↔ shN p g.length r < n₁) {a b : W} (h : a.frz n₀ S = some b) : (W.sh p g.length a).frz n₁ (shS p g S) = some (W.sh p g.length b) := mapR_sh (thaw_sh hp hn 8) a b h
theorem asData_sh (hp : p ≤ S.length) {a x : W} (h : asData S a = some x) : asData (shS p g S) (W.sh p g.length a) = some x ∧ W.sh p g.length x = x := by
  unfold asData at h ⊢
  split at h
  · rename_i b e
    split at h
    · rename_i hf
      cases h
      rw [frz_sh (n₁ := 0) hp (fun r => by omega) e, flat_sh g.length x deep hf]
      simp only [hf, if_true]
      exact ⟨trivial, trivial⟩
    · cases h
  · cases h
theorem listOf_sh (hp : p ≤ S.length) {a : W} {ws : List W} (h : listOf S a = some ws) : listOf (shS p g S) (W.sh p g.length a) = some (shs p g.length ws) := by
  cases a with
  | lst us => cases h; rfl
  | ref n =>
    have h : (match S[n]? with | some (Ob.lst ws) => some ws | _ => none) = some ws := h
    show (match (shS p g S)[shN p g.length n]? with | some (Ob.lst ws) => some ws | _ => none) = _
    rw [shS_get hp]
    split at h
    · rename_i us e
      cases h
      rw [e]; rfl
    · cases h
  | _ => cases h
theorem seqOf_sh (hp : p ≤ S.length) {a : W} {ws : List W} (h : seqOf S a = some ws) : seqOf (shS p g S) (W.sh p g.length a) = some (shs p g.length ws) := by
  cases a with
  | tup us => cases h; rfl
  | lst us => exact listOf_sh hp (a := .lst us) h
  | ref n => exact listOf_sh hp (a := .ref n) h
  | _ => cases h
theorem dictOf_sh (hp : p ≤ S.length) {a : W} {ks us : List W} (h : dictOf S a = some (ks, us)) : dictOf (shS p g S) (W.sh p g.length a) = some (shs p g.length ks, shs p g.length us) := by
  cases a with
  | dct ks' us' => cases h; rfl
  | ref n =>
    have h : (match S[n]? with | some (Ob.dct ks us) => some (ks, us) | _ => none) = some (ks, us) := h
    show (match (shS p g S)[shN p g.length n]? with | some (Ob.dct ks us) => some (ks, us) | _ => none) = _
    rw [shS_get hp]
    split at h
    · rename_i us e
      cases h
      rw [e]; rfl
    · cases h
  | _ => cases h
theorem dictOf_no (hp : p ≤ S.length) {a : W} (h : dictOf S a = none) : dictOf (shS p g S) (W.sh p g.length a) = none := by
  cases a with
  | dct ks' us' => cases h
  | ref n =>
    have h : (match S[n]? with | some (Ob.dct ks us) => some (ks, us) | _ => none) = none := h
    show (match (shS p g S)[shN p g.length n]? with | some (Ob.dct ks us) => some (ks, us) | _ => none) = _
    rw [shS_get hp]
    cases e : S[n]? with
    | none => rfl
    | some o =>
      cases o with
      | lst ws => rfl
      | dct ks us => rw [e] at h; cases h
  | _ => rfl

/-- what is computed without the garbage is computed with it -/
def Co {α : Type} (p : Nat) (g : List Ob) (sa : α → α) (m m' : M α) : Prop := ∀ S a S', p ≤ S.length → m S = some (a, S') → m' (shS p g S) = some (sa a, shS p g S') ∧ S.length ≤ S'.length
theorem Co.bind {α β : Type} {sa : α → α} {sb : β → β} {m m' : M α} {f f' : α → M β} (h : Co p g sa m m') (hf : ∀ a, Co p g sb (f a) (f' (sa a))) : Co p g sb (m >>= f) (m' >>= f') := by
  intro S b S2 hp hb
  have hb : (match m S with | some (a, S1) => f a S1 | none => none) = some (b, S2) := hb
  cases e : m S with
  | none => rw [e] at hb; cases hb
  | some q =>
    obtain ⟨a, S1⟩ := q
    rw [e] at hb
    obtain ⟨h1, h2⟩ := h S a S1 hp e
    obtain ⟨h3, h4⟩ := hf a S1 b S2 (by omega) hb
    refine ⟨?_, by omega⟩
    show (match m' (shS p g S) with | some (a, S1) => f' a S1 | none => none) = _
    rw [h1]; exact h3
theorem Co.pure {α : Type} {sa : α → α} (a : α) : Co p g sa (pure a) (pure (sa a)) := by
  intro S b S2 hp hb
  have e : some (a, S) = some (b, S2) := hb
  cases e
  exact ⟨rfl, Nat.le_refl _⟩
theorem Co.ret {α : Type} {sa : α → α} {a b : α} (e : sa a = b) : Co p g sa (M.ret a) (M.ret b) := by subst e; exact Co.pure a
theorem Co.grd {c d : Bool} (h : d = c) : Co p g id (M.grd c) (M.grd d) := by
  subst h
  intro S b S2 hp hb
  unfold M.grd at hb ⊢
  split at hb
  · rename_i hc; cases hb; rw [if_pos hc]; exact ⟨rfl, Nat.le_refl _⟩
  · cases hb
theorem Co.no {α : Type} {sa : α → α} {m' : M α} : Co p g sa (fun _ => none) m' := fun S b S2 hp hb => by cases hb
theorem Co.new (o : Ob) : Co p g (W.sh p g.length) (M.new o) (M.new (Ob.sh p g.length o)) := by
  intro S b S2 hp hb
  have e : some (W.ref S.length, S ++ [o]) = some (b, S2) := hb
  cases e
  refine ⟨?_, by simp⟩
  show some (W.ref (shS p g S).length, shS p g S ++ [Ob.sh p g.length o]) = _
  rw [shS_push hp]
  simp only [W.sh]
  rw [shN_len hp]
theorem Co.truth {m m' : M W} (h : Co p g (W.sh p g.length) m m') : Co p g id (truth m) (truth m') := by
  intro S b S2 hp hb
  unfold TS.truth at hb ⊢
  split at hb
  · rename_i b' S' e
    cases hb
    obtain ⟨h1, h2⟩ := h S _ _ hp e
    rw [h1]
    exact ⟨rfl, h2⟩
  · cases hb
abbrev sW (p : Nat) (g : List Ob) : W → W := W.sh p g.length

/-! ### operators -/
theorem co_eq (a b : W) : Co p g id (wEq a b) (wEq (sW p g a) (sW p g b)) := by
  intro S c S2 hp h
  unfold wEq at h ⊢
  split at h
  · rename_i x y e1 e2
    cases h
    rw [(asData_sh hp e1).1, (asData_sh hp e2).1]
    exact ⟨rfl, Nat.le_refl _⟩
  · cases h
theorem co_lt (a b : W) : Co p g id (wLt a b) (wLt (sW p g a) (sW p g b)) := by
  intro S c S2 hp h
  unfold wLt at h
  split at h <;> cases h <;> exact ⟨rfl, Nat.le_refl _⟩
theorem co_le (a b : W) : Co p g id (wLe a b) (wLe (sW p g a) (sW p g b)) := by
  intro S c S2 hp h
  unfold wLe at h
  split at h <;> cases h <;> exact ⟨rfl, Nat.le_refl _⟩
theorem co_gt (a b : W) : Co p g id (wGt a b) (wGt (sW p g a) (sW p g b)) := by
  intro S c S2 hp h
  unfold wGt at h
  split at h <;> cases h <;> exact ⟨rfl, Nat.le_refl _⟩
theorem co_ge (a b : W) : Co p g id (wGe a b) (wGe (sW p g a) (sW p g b)) := by
  intro S c S2 hp h
  unfold wGe at h
  split at h <;> cases h <;> exact ⟨rfl, Nat.le_refl _⟩
end
end TS

set_option Elab.async false
set_option linter.all false
set_option maxRecDepth 100000
set_option maxHeartbeats 1000000
/-! A27: the operations under a shift, the rest. -/
namespace TS
open PySem

section
variable {p : Nat} {g : List Ob}
theorem sh_str {a : W} {x : Str} (h : sW p g a = .str x) : a = .str x := by
  cases a <;> first | exact h | (simp only [sW, W.sh] at h; cases h)
theorem sh_int {a : W} {x : Int} (h : sW p g a = .int x) : a = .int x := by
  cases a <;> first | exact h | (simp only [sW, W.sh] at h; cases h)
theorem sh_tup {a : W} {ws : List W} (h : sW p g a = .tup ws) : ∃ us, a = .tup us ∧ ws = shs p g.length us := by
  cases a with
  | tup us => simp only [sW, W.sh] at h; cases h; exact ⟨us, rfl, rfl⟩
  | _ => simp only [sW, W.sh] at h; cases h
theorem anyEqv_sh (x : W) (ws : List W) (hx : W.sh p g.length x = x) (hw : shs p g.length ws = ws) : True := trivial
theorem co_in (a b : W) : Co p g id (wIn a b) (wIn (sW p g a) (sW p g b)) := by
  intro S c S2 hp h
  unfold wIn at h
  split at h
  · cases h; exact ⟨rfl, Nat.le_refl _⟩
  · rename_i hno
    have e : wIn (sW p g a) (sW p g b) (shS p g S) = (match dictOf (shS p g S) (sW p g b) with
      | some (ks, _) => if keyFor ks (sW p g a) = true then some (dHas ks (sW p g a), shS p g S) else none
      | none => match asData (shS p g S) (sW p g a), asData (shS p g S) (sW p g b) with
        | some x, some (.lst ws) => some (anyEqv x ws, shS p g S)
        | some x, some (.tup ws) => some (anyEqv x ws, shS p g S)
        | _, _ => none) := by
      unfold wIn
      split
      · rename_i h1 h2
        exact (hno _ _ (sh_str h1) (sh_str h2)).elim
      · rfl
    rw [e]
    split at h
    · rename_i ks us hd
      split at h
      · rename_i hk
        cases h
        rw [dictOf_sh hp hd]
        simp only
        rw [keyFor_sh, if_pos hk, dHas_sh]
        exact ⟨rfl, Nat.le_refl _⟩
      · cases h
    · rename_i hd
      rw [dictOf_no hp hd]
      split at h
      · rename_i x ws e1 e2
        cases h
        rw [(asData_sh hp e1).1, (asData_sh hp e2).1]
        exact ⟨rfl, Nat.le_refl _⟩
      · rename_i x ws e1 e2
        cases h
        rw [(asData_sh hp e1).1, (asData_sh hp e2).1]
        exact ⟨rfl, Nat.le_refl _⟩
      · cases h
theorem co_cmp (o : Cop) (a b : W) : Co p g id (wCmp o a b) (wCmp o (sW p g a) (sW p g b)) := by
  cases o with
  | eq => exact co_eq a b
  | ne => exact (co_eq a b).bind fun c => Co.pure (sa := id) (!c)
  | lt => exact co_lt a b
  | le => exact co_le a b
  | gt => exact co_gt a b
  | ge => exact co_ge a b
  | in_ => exact co_in a b
  | ni => exact (co_in a b).bind fun c => Co.pure (sa := id) (!c)
theorem rep_shs (k n : Nat) (xs : List W) : shs p k (rep n xs) = rep n (shs p k xs) := by
  unfold rep
  simp only [shs_map, List.map_flatten, List.map_replicate]
theorem co_add (a b : W) : Co p g (sW p g) (wAdd a b) (wAdd (sW p g a) (sW p g b)) := by
  intro S c S2 hp h
  unfold wAdd at h
  split at h
  · cases h; exact ⟨rfl, Nat.le_refl _⟩
  · split at h
    · rename_i hz
      cases h
      refine ⟨?_, Nat.le_refl _⟩
      show (if _ then _ else _) = _
      rw [if_pos hz]; rfl
    · cases h
  · split at h
    · rename_i xs ys hz
      cases h
      refine ⟨?_, Nat.le_refl _⟩
      show (if (shs p g.length xs).length + (shs p g.length ys).length ≤ lineN then _ else _) = _
      rw [len_shs, len_shs, if_pos hz]
      simp only [sW, W.sh, app_shs]
    · cases h
  · rename_i n1 n2 n3
    split at h
    · rename_i xs ys e1 e2
      split at h
      · rename_i hz
        cases h
        refine ⟨?_, Nat.le_refl _⟩
        have q1 := listOf_sh (g := g) hp e1
        have q2 := listOf_sh (g := g) hp e2
        unfold wAdd
        split
        · rename_i h1 h2; exact (n1 _ _ (sh_int h1) (sh_int h2)).elim
        · rename_i h1 h2; exact (n2 _ _ (sh_str h1) (sh_str h2)).elim
        · rename_i h1 h2
          obtain ⟨u1, k1, _⟩ := sh_tup h1
          obtain ⟨u2, k2, _⟩ := sh_tup h2
          exact (n3 _ _ k1 k2).elim
        · rw [q1, q2]
          simp only
          rw [len_shs, len_shs, if_pos hz]
          simp only [sW, W.sh, app_shs]
      · cases h
    · cases h
theorem co_mul (a b : W) : Co p g (sW p g) (wMul a b) (wMul (sW p g a) (sW p g b)) := by
  intro S c S2 hp h
  unfold wMul at h
  split at h
  · split at h
    · rename_i hz
      cases h
      refine ⟨?_, Nat.le_refl _⟩
      show (if _ then _ else _) = _
      rw [if_pos hz]; rfl
    · cases h
  · split at h
    · rename_i xs k hz
      cases h
      refine ⟨?_, Nat.le_refl _⟩
      show (if (shs p g.length xs).length ≤ 1000 ∧ shs p g.length xs ≠ [] ∧ 2 ≤ k ∧ k ≤ 1000 then _ else _) = _
      rw [len_shs, if_pos ⟨hz.1, fun e => hz.2.1 (List.eq_nil_of_length_eq_zero (by rw [← len_shs p g.length, e]; rfl)), hz.2.2⟩]
      simp only [sW, W.sh, rep_shs]
    · cases h
  · split at h
    · rename_i n k _ xs e
      split at h
      · rename_i hz
        cases h
        refine ⟨?_, Nat.le_refl _⟩
        show (match (shS p g S)[shN p g.length n]? with
          | some (.lst xs) => if xs.length * k.toNat ≤ lineN ∧ -1000 ≤ k ∧ k ≤ 1000 then some (W.lst (rep k.toNat xs), shS p g S) else none
          | _ => none) = _
        rw [shS_get hp, e]
        simp only [Option.map_some, Ob.sh]
        rw [len_shs, if_pos hz]
        simp only [sW, W.sh, rep_shs]
      · cases h
    · cases h
  · cases h
theorem co_bin (o : Bop) (a b : W) : Co p g (sW p g) (wBin o a b) (wBin o (sW p g a) (sW p g b)) := by
  cases o with
  | add => exact co_add a b
  | mul => exact co_mul a b
  | sub =>
    intro S c S2 hp h
    simp only [wBin] at h
    unfold wSub at h
    split at h <;> cases h
    exact ⟨rfl, Nat.le_refl _⟩
  | mod =>
    intro S c S2 hp h
    simp only [wBin] at h
    unfold wMod at h
    split at h
    · split at h
      · rename_i hz
        cases h
        refine ⟨?_, Nat.le_refl _⟩
        show (if _ then _ else _) = _
        rw [if_pos hz]; rfl
      · cases h
    · cases h
  | fdiv =>
    intro S c S2 hp h
    simp only [wBin] at h
    unfold wFdiv at h
    split at h
    · split at h
      · rename_i hz
        cases h
        refine ⟨?_, Nat.le_refl _⟩
        show (if _ then _ else _) = _
        rw [if_pos hz]; rfl
      · cases h
    · cases h
  | pow =>
    intro S c S2 hp h
    simp only [wBin] at h
    unfold wPow at h
    split at h
    · split at h
      · rename_i hz
        cases h
        refine ⟨?_, Nat.le_refl _⟩
        show (if _ then _ else _) = _
        rw [if_pos hz]; rfl
      · cases h
    · cases h
theorem atOf_sh (ws : List W) (i : Int) : atOf (shs p g.length ws) i = (atOf ws i).map (sW p g) := by
  unfold atOf
  rw [len_shs]
  cases ixOf ws.length i with
  | none => rfl
  | some j => exact get_shs p g.length ws j
theorem co_ix (a b : W) : Co p g (sW p g) (wIx a b) (wIx (sW p g a) (sW p g b)) := by
  intro S c S2 hp h
  unfold wIx at h
  split at h
  · split at h
    · rename_i e
      cases h
      refine ⟨?_, Nat.le_refl _⟩
      show (match atOf _ _ with | some c => some (W.str ⟨#[c]⟩, shS p g S) | none => none) = _
      rw [e]; rfl
    · cases h
  · rename_i hno
    have e : wIx (sW p g a) (sW p g b) (shS p g S) = (match dictOf (shS p g S) (sW p g a) with
      | some (ks, us) => if keyFor ks (sW p g b) = true then (match dAt ks us (sW p g b) with
        | some u => some (u, shS p g S)
        | none => none) else none
      | none => match sW p g b, seqOf (shS p g S) (sW p g a) with
        | .int i, some xs => match atOf xs i with
          | some w => some (w, shS p g S)
          | none => none
        | _, _ => none) := by
      unfold wIx
      split
      · rename_i h1 h2
        exact (hno _ _ (sh_str h1) (sh_int h2)).elim
      · rfl
    rw [e]
    split at h
    · rename_i ks us hd
      split at h
      · rename_i hk
        split at h
        · rename_i u hu
          cases h
          rw [dictOf_sh hp hd]
          simp only
          rw [keyFor_sh, if_pos hk, dAt_sh, hu]
          exact ⟨rfl, Nat.le_refl _⟩
        · cases h
      · cases h
    · rename_i hd
      rw [dictOf_no hp hd]
      split at h
      · rename_i _ i xs e2
        split at h
        · rename_i w hw
          cases h
          rw [seqOf_sh hp e2]
          simp only [sW, W.sh]
          rw [show atOf (shs p g.length xs) i = _ from atOf_sh xs i, hw]
          exact ⟨rfl, Nat.le_refl _⟩
        · cases h
      · cases h
theorem cut_shs (k : Nat) (ws : List W) (lo hi : Option Int) : shs p k (cutOf ws lo hi) = cutOf (shs p k ws) lo hi := by
  unfold cutOf
  rw [len_shs]
  simp only [shs_map, List.map_take, List.map_drop]
theorem endOf_sh (a : W) : endOf (sW p g a) = endOf a := by cases a <;> rfl
theorem co_slc (a l h : W) : Co p g (sW p g) (wSlc a l h) (wSlc (sW p g a) (sW p g l) (sW p g h)) := by
  intro S c S2 hp hh
  unfold wSlc at hh ⊢
  rw [endOf_sh, endOf_sh]
  split at hh
  · rename_i lo hi e1 e2
    split at hh
    · cases hh; exact ⟨rfl, Nat.le_refl _⟩
    · rename_i xs
      cases hh
      refine ⟨?_, Nat.le_refl _⟩
      show some (W.tup (cutOf (shs p g.length xs) lo hi), _) = _
      simp only [sW, W.sh, cut_shs]
    · rename_i n1 n2
      split at hh
      · rename_i xs e
        cases hh
        have q := listOf_sh (g := g) hp e
        refine ⟨?_, Nat.le_refl _⟩
        cases a with
        | lst us =>
          cases e
          show some (W.lst (cutOf (shs p g.length xs) lo hi), _) = _
          simp only [sW, W.sh, cut_shs]
        | ref n =>
          have q : listOf (shS p g S) (W.ref (shN p g.length n)) = some (shs p g.length xs) := q
          show (match listOf (shS p g S) (W.ref (shN p g.length n)) with | some xs => some (W.lst (cutOf xs lo hi), shS p g S) | none => none) = _
          rw [q]
          simp only [sW, W.sh, cut_shs]
        | _ => cases e
      · cases hh
  · cases hh
theorem co_rev (a : W) : Co p g (sW p g) (wRev a) (wRev (sW p g a)) := by
  intro S c S2 hp h
  unfold wRev at h ⊢
  split at h
  · rename_i xs e
    have q := Co.new (p := p) (g := g) (.lst xs.reverse) S c S2 hp h
    rw [listOf_sh hp e]
    simp only [Ob.sh] at q
    have e2 : shs p g.length xs.reverse = (shs p g.length xs).reverse := by simp only [shs_map, List.map_reverse]
    rw [e2] at q
    exact q
  · cases h
theorem co_set (o i v : W) : Co p g id (wSet o i v) (wSet (sW p g o) (sW p g i) (sW p g v)) := by
  intro S c S2 hp h
  unfold wSet at h
  split at h
  · rename_i n
    show (match (shS p g S)[shN p g.length n]? with
      | some (.lst xs) => (match sW p g i with
        | .int k => (match ixOf xs.length k with
          | some j => some ((), (shS p g S).set (shN p g.length n) (.lst (xs.set j (sW p g v))))
          | none => none)
        | _ => none)
      | some (.dct ks us) => if keyFor ks (sW p g i) = true ∧ ks.length < lineN then some ((), (shS p g S).set (shN p g.length n) (.dct (dPut ks us (sW p g i) (sW p g v)).1 (dPut ks us (sW p g i) (sW p g v)).2)) else none
      | none => none) = _ ∧ _
    rw [shS_get hp]
    split at h
    · rename_i xs e
      rw [e]
      split at h
      · rename_i k
        split at h
        · rename_i j hj
          cases h
          simp only [Option.map_some, Ob.sh, sW, W.sh]
          rw [len_shs, hj]
          simp only
          rw [shS_set hp]
          refine ⟨?_, by simp⟩
          simp only [Ob.sh, set_shs]
        · cases h
      · cases h
    · rename_i ks us e
      rw [e]
      split at h
      · rename_i hk
        cases h
        simp only [Option.map_some, Ob.sh]
        rw [keyFor_sh, len_shs, if_pos hk, shS_set hp, dPut_sh]
        exact ⟨rfl, by simp⟩
      · cases h
    · cases h
  · cases h
theorem co_isi (k : Kinds) (a : W) : Co p g id (wIsi k a) (wIsi k (sW p g a)) := by
  intro S c S2 hp h
  cases a with
  | lst us => cases h; exact ⟨rfl, Nat.le_refl _⟩
  | ref n =>
    have h : (match listOf S (.ref n) with | some _ => some (k.list, S) | none => none) = some (c, S2) := h
    show (match listOf (shS p g S) (sW p g (.ref n)) with | some _ => some (k.list, shS p g S) | none => none) = _ ∧ _
    split at h
    · rename_i ws e
      cases h
      rw [listOf_sh hp e]
      exact ⟨rfl, Nat.le_refl _⟩
    · cases h
  | dct ks us => cases h
  | fn f => cases h
  | _ => cases h; exact ⟨rfl, Nat.le_refl _⟩
theorem co_isb (a : W) (b : Bool) : Co p g (sW p g) (wIsb a b) (wIsb (sW p g a) b) := by
  cases a with
  | bl c => exact Co.ret rfl
  | _ => exact Co.no
end
end TS

set_option Elab.async false
set_option linter.all false
set_option maxRecDepth 100000
set_option maxHeartbeats 1000000
/-! A28: built-ins, methods, walks under a shift. -/
namespace TS
open PySem

section
variable {p : Nat} {g : List Ob}
abbrev sWs (p : Nat) (g : List Ob) : List W → List W := shs p g.length
theorem bls_sh : ∀ {ws : List W} {bs : List Bool}, blsOf ws = some bs → shs p g.length ws = ws
  | [], _, _ => rfl
  | a :: as, bs, h => by
    cases a with
    | bl b =>
      simp only [blsOf] at h
      split at h
      · rename_i bs' e
        simp only [shs, W.sh, bls_sh e]
      · cases h
    | _ => simp [blsOf] at h
theorem ints_sh : ∀ {ws : List W} {bs : List Int}, intsOf ws = some bs → shs p g.length ws = ws
  | [], _, _ => rfl
  | a :: as, bs, h => by
    cases a with
    | int b =>
      simp only [intsOf] at h
      split at h
      · rename_i bs' e
        simp only [shs, W.sh, ints_sh e]
      · cases h
    | _ => simp [intsOf] at h
theorem setable_sh (ws : List W) : setable (shs p g.length ws) = setable ws := by
  unfold setable
  rw [all_shs p g.length _ (leaf_sh p g.length), all_shs p g.length _ (tkey_sh p g.length), len_shs]
theorem dedup_sh : ∀ ws : List W, shs p g.length (wDedup ws) = wDedup (shs p g.length ws)
  | [] => rfl
  | w :: ws => by
    simp only [wDedup, shs]
    rw [← dedup_sh ws]
    congr 1
    simp only [shs_map, List.filter_map]
    congr 1
    apply List.filter_congr
    intro a _
    show (!W.eqv w a) = !W.eqv (W.sh p g.length w) (W.sh p g.length a)
    rw [eqv_sh]
theorem wSort_sh {ws us : List W} (h : wSort ws = some us) : shs p g.length ws = ws ∧ shs p g.length us = us := by
  unfold wSort at h
  split at h
  · rename_i hc
    cases h
    refine ⟨flats_sh g.length ws 30 hc.1, ?_⟩
    have hall : ∀ a ∈ ws, W.sh p g.length a = a := by
      intro a ha
      have e := flats_sh (p := p) g.length ws 30 hc.1
      rw [shs_map] at e
      have := List.map_eq_map_iff.mp (show ws.map (W.sh p g.length) = ws.map id by rw [e]; simp)
      exact this a ha
    rw [shs_map]
    have : ∀ a ∈ ws.mergeSort wLe2, W.sh p g.length a = id a := fun a ha => hall a ((List.mem_mergeSort).mp ha)
    rw [List.map_congr_left this]; simp
  · cases h
theorem co_blt (b : Blt) (as : List W) : Co p g (sW p g) (wBlt b as) (wBlt b (sWs p g as)) := by
  have nw : ∀ (xs : List W) (S : Sto) (c : W) (S2 : Sto), p ≤ S.length → M.new (.lst xs) S = some (c, S2) → M.new (.lst (shs p g.length xs)) (shS p g S) = some (sW p g c, shS p g S2) ∧ S.length ≤ S2.length := fun xs S c S2 hp h => Co.new (p := p) (g := g) (.lst xs) S c S2 hp h
  cases b with
  | len =>
    intro S c S2 hp h
    simp only [wBlt] at h ⊢
    unfold bLen at h
    split at h
    · cases h; exact ⟨rfl, Nat.le_refl _⟩
    · rename_i w hno
      split at h
      · rename_i ws e
        cases h
        refine ⟨?_, Nat.le_refl _⟩
        have q := seqOf_sh (g := g) hp e
        simp only [shs]
        unfold bLen
        split
        · rename_i x hx
          simp only [List.cons.injEq, and_true] at hx
          exact (hno x (sh_str hx)).elim
        · rename_i w' hx
          simp only [List.cons.injEq, and_true] at hx
          subst hx
          rw [q]
          simp only
          rw [len_shs]; rfl
        · rename_i hx; exact (hx _ rfl).elim
      · cases h
    · cases h
  | lenset =>
    intro S c S2 hp h
    simp only [wBlt] at h ⊢
    unfold bLenset at h
    split at h
    · rename_i w
      split at h
      · rename_i ws e
        split at h
        · rename_i hs
          cases h
          refine ⟨?_, Nat.le_refl _⟩
          simp only [shs, bLenset]
          rw [seqOf_sh hp e]
          simp only
          rw [setable_sh, if_pos hs, ← dedup_sh, len_shs]; rfl
        · cases h
      · cases h
    · cases h
  | list =>
    intro S c S2 hp h
    simp only [wBlt] at h ⊢
    unfold bList at h
    split at h
    · rename_i w
      split at h
      · rename_i ws e
        simp only [shs, bList]
        rw [seqOf_sh hp e]
        exact nw ws S c S2 hp h
      · cases h
    · cases h
  | tuple =>
    intro S c S2 hp h
    simp only [wBlt] at h ⊢
    unfold bTuple at h
    split at h
    · rename_i w
      split at h
      · rename_i ws e
        cases h
        simp only [shs, bTuple]
        rw [seqOf_sh hp e]
        exact ⟨rfl, Nat.le_refl _⟩
      · cases h
    · cases h
  | sorted =>
    intro S c S2 hp h
    simp only [wBlt] at h ⊢
    unfold bSorted at h
    split at h
    · rename_i w
      simp only [shs, bSorted]
      split at h
      · rename_i ks us e
        rw [dictOf_sh hp e]
        simp only
        split at h
        · rename_i us' e2
          obtain ⟨q1, q2⟩ := wSort_sh (p := p) (g := g) e2
          rw [q1, e2]
          have := nw us' S c S2 hp h
          rw [q2] at this
          exact this
        · cases h
      · rename_i e
        rw [dictOf_no hp e]
        simp only
        split at h
        · rename_i ws e3
          rw [seqOf_sh hp e3]
          simp only
          split at h
          · rename_i us' e2
            obtain ⟨q1, q2⟩ := wSort_sh (p := p) (g := g) e2
            rw [q1, e2]
            have := nw us' S c S2 hp h
            rw [q2] at this
            exact this
          · cases h
        · cases h
    · cases h
  | sortset =>
    intro S c S2 hp h
    simp only [wBlt] at h ⊢
    unfold bSortset at h
    split at h
    · rename_i w
      simp only [shs, bSortset]
      split at h
      · rename_i ws e3
        rw [seqOf_sh hp e3]
        simp only
        split at h
        · rename_i hs
          rw [setable_sh, if_pos hs]
          split at h
          · rename_i us' e2
            obtain ⟨q1, q2⟩ := wSort_sh (p := p) (g := g) e2
            rw [← dedup_sh, q1, e2]
            have := nw us' S c S2 hp h
            rw [q2] at this
            exact this
          · cases h
        · cases h
      · cases h
    · cases h
  | all =>
    intro S c S2 hp h
    simp only [wBlt] at h ⊢
    unfold bAll at h
    split at h
    · rename_i w
      split at h
      · rename_i bs e
        cases h
        obtain ⟨ws, e1, e2⟩ := Option.bind_eq_some_iff.mp e
        simp only [shs, bAll]
        rw [listOf_sh hp e1, Option.bind_some, bls_sh e2, e2]
        exact ⟨rfl, Nat.le_refl _⟩
      · cases h
    · cases h
  | any =>
    intro S c S2 hp h
    simp only [wBlt] at h ⊢
    unfold bAny at h
    split at h
    · rename_i w
      split at h
      · rename_i bs e
        cases h
        obtain ⟨ws, e1, e2⟩ := Option.bind_eq_some_iff.mp e
        simp only [shs, bAny]
        rw [listOf_sh hp e1, Option.bind_some, bls_sh e2, e2]
        exact ⟨rfl, Nat.le_refl _⟩
      · cases h
    · cases h
  | max1 =>
    intro S c S2 hp h
    simp only [wBlt] at h ⊢
    unfold bMax1 at h
    split at h
    · rename_i w
      split at h
      · rename_i bs e
        obtain ⟨ws, e1, e2⟩ := Option.bind_eq_some_iff.mp e
        split at h
        · rename_i m e3
          cases h
          simp only [shs, bMax1]
          rw [listOf_sh hp e1, Option.bind_some, ints_sh e2, e2]
          simp only [e3]
          exact ⟨rfl, Nat.le_refl _⟩
        · cases h
      · cases h
    · cases h
  | max2 =>
    intro S c S2 hp h
    simp only [wBlt] at h ⊢
    unfold bMax2 at h
    split at h <;> cases h
    exact ⟨rfl, Nat.le_refl _⟩
  | min2 =>
    intro S c S2 hp h
    simp only [wBlt] at h ⊢
    unfold bMin2 at h
    split at h <;> cases h
    exact ⟨rfl, Nat.le_refl _⟩
  | int =>
    intro S c S2 hp h
    simp only [wBlt] at h ⊢
    unfold bInt at h
    split at h <;> cases h
    exact ⟨rfl, Nat.le_refl _⟩
  | bool =>
    intro S c S2 hp h
    simp only [wBlt] at h ⊢
    unfold bBool at h
    split at h <;> cases h
    exact ⟨rfl, Nat.le_refl _⟩
  | dict =>
    intro S c S2 hp h
    simp only [wBlt] at h ⊢
    unfold bDict at h
    split at h
    · rename_i w
      split at h
      · rename_i ks us e
        simp only [shs, bDict]
        rw [dictOf_sh hp e]
        exact Co.new (p := p) (g := g) (.dct ks us) S c S2 hp h
      · cases h
    · cases h
  | sortkey => exact Co.no
  | str => exact Co.no
end
end TS

set_option Elab.async false
set_option linter.all false
set_option maxRecDepth 100000
set_option maxHeartbeats 1000000
/-! A29: methods, walks, comprehensions under a shift. -/
namespace TS
open PySem

section
variable {p : Nat} {g : List Ob}
theorem lstAt_sh {S : Sto} (hp : p ≤ S.length) {n : Nat} {ws : List W} (h : S[n]? = some (.lst ws)) : (shS p g S)[shN p g.length n]? = some (.lst (shs p g.length ws)) := by
  rw [shS_get hp, h]; rfl
theorem co_recv (m : Mth) (o : W) : Co p g id (wRecv m o) (wRecv m (sW p g o)) := by
  intro S c S2 hp h
  have l : (if (listOf S o).isSome = true then some ((), S) else none) = some (c, S2) → (if (listOf (shS p g S) (sW p g o)).isSome = true then some ((), shS p g S) else none) = some (c, shS p g S2) ∧ S.length ≤ S2.length := by
    intro h
    split at h
    · rename_i e
      cases h
      obtain ⟨ws, hw⟩ := Option.isSome_iff_exists.mp e
      rw [listOf_sh hp hw]
      exact ⟨rfl, Nat.le_refl _⟩
    · cases h
  have d : (if (dictOf S o).isSome = true then some ((), S) else none) = some (c, S2) → (if (dictOf (shS p g S) (sW p g o)).isSome = true then some ((), shS p g S) else none) = some (c, shS p g S2) ∧ S.length ≤ S2.length := by
    intro h
    split at h
    · rename_i e
      cases h
      obtain ⟨⟨ks, us⟩, hw⟩ := Option.isSome_iff_exists.mp e
      rw [dictOf_sh hp hw]
      exact ⟨rfl, Nat.le_refl _⟩
    · cases h
  cases m with
  | append => exact l h
  | pop0 => exact l h
  | pop1 => exact l h
  | insert => exact l h
  | get1 => exact d h
  | get2 => exact d h
  | join =>
    cases o <;> first | (cases h; exact ⟨rfl, Nat.le_refl _⟩) | cases h
  | split =>
    cases o <;> first | (cases h; exact ⟨rfl, Nat.le_refl _⟩) | cases h
  | ljust =>
    cases o <;> first | (cases h; exact ⟨rfl, Nat.le_refl _⟩) | cases h
theorem co_mth (m : Mth) (o : W) (as : List W) : Co p g (sW p g) (wMth m o as) (wMth m (sW p g o) (sWs p g as)) := by
  cases m with
  | append =>
    intro S c S2 hp h
    simp only [wMth] at h ⊢
    unfold mAppend at h
    split at h
    · rename_i n w
      split at h
      · rename_i ws e
        split at h
        · rename_i hz
          cases h
          simp only [shs, sW, W.sh, mAppend]
          rw [lstAt_sh hp e]
          simp only
          rw [len_shs, if_pos hz, shS_set hp]
          refine ⟨?_, by simp⟩
          simp only [Ob.sh, app_shs, shs, W.sh]
        · cases h
      · cases h
    · cases h
  | pop0 =>
    intro S c S2 hp h
    simp only [wMth] at h ⊢
    unfold mPop0 at h
    split at h
    · rename_i n
      split at h
      · rename_i ws e
        split at h
        · rename_i w hw
          cases h
          simp only [shs, sW, W.sh, mPop0]
          rw [lstAt_sh hp e]
          simp only
          rw [len_shs, get_shs, hw, shS_set hp]
          refine ⟨?_, by simp⟩
          simp only [Option.map_some, Ob.sh]
          have : shs p g.length ws.dropLast = (shs p g.length ws).dropLast := by simp only [shs_map, List.map_dropLast]
          rw [this]
        · cases h
      · cases h
    · cases h
  | pop1 =>
    intro S c S2 hp h
    simp only [wMth] at h ⊢
    unfold mPop1 at h
    split at h
    · rename_i n i
      split at h
      · rename_i ws e
        split at h
        · rename_i k hk
          split at h
          · rename_i w hw
            cases h
            simp only [shs, sW, W.sh, mPop1]
            rw [lstAt_sh hp e]
            simp only
            rw [len_shs, hk]
            simp only
            rw [get_shs, hw, shS_set hp]
            refine ⟨?_, by simp⟩
            simp only [Option.map_some, Ob.sh]
            have : shs p g.length (ws.eraseIdx k) = (shs p g.length ws).eraseIdx k := by rw [shs_map, shs_map, List.eraseIdx_eq_take_drop_succ, List.eraseIdx_eq_take_drop_succ]; simp
            rw [this]
          · cases h
        · cases h
      · cases h
    · cases h
  | insert =>
    intro S c S2 hp h
    simp only [wMth] at h ⊢
    unfold mInsert at h
    split at h
    · rename_i n i w
      split at h
      · rename_i ws e
        split at h
        · rename_i hz
          cases h
          simp only [shs, sW, W.sh, mInsert]
          rw [lstAt_sh hp e]
          simp only
          rw [len_shs, if_pos hz, shS_set hp]
          refine ⟨?_, by simp⟩
          simp only [Ob.sh]
          have : shs p g.length (ws.take i.toNat ++ w :: ws.drop i.toNat) = (shs p g.length ws).take i.toNat ++ W.sh p g.length w :: (shs p g.length ws).drop i.toNat := by simp only [shs_map, List.map_append, List.map_take, List.map_drop, List.map_cons]
          rw [this]
        · cases h
      · cases h
    · cases h
  | get1 =>
    intro S c S2 hp h
    simp only [wMth] at h ⊢
    unfold mGet1 at h
    split at h
    · rename_i k
      split at h
      · rename_i ks us e
        split at h
        · rename_i hk
          cases h
          simp only [shs, mGet1]
          rw [dictOf_sh hp e]
          simp only
          rw [keyFor_sh, if_pos hk, dAt_sh]
          refine ⟨?_, Nat.le_refl _⟩
          cases dAt ks us k <;> rfl
        · cases h
      · cases h
    · cases h
  | get2 =>
    intro S c S2 hp h
    simp only [wMth] at h ⊢
    unfold mGet2 at h
    split at h
    · rename_i k d
      split at h
      · rename_i ks us e
        split at h
        · rename_i hk
          cases h
          simp only [shs, mGet2]
          rw [dictOf_sh hp e]
          simp only
          rw [keyFor_sh, if_pos hk, dAt_sh]
          refine ⟨?_, Nat.le_refl _⟩
          cases dAt ks us k <;> rfl
        · cases h
      · cases h
    · cases h
  | join => exact Co.no
  | split => exact Co.no
  | ljust => exact Co.no

/-! ### slots -/
def shR (p : Nat) (g : List Ob) (ρ : Rho) : Rho := ρ.map (Option.map (sW p g))
theorem shR_get (ρ : Rho) (i : Nat) : (shR p g ρ)[i]? = (ρ[i]?).map (Option.map (sW p g)) := by unfold shR; rw [List.getElem?_map]
theorem shR_set (ρ : Rho) (i : Nat) (w : W) : shR p g (ρ.set i (some w)) = (shR p g ρ).set i (some (sW p g w)) := by unfold shR; rw [List.map_set]; rfl
theorem shR_wipe (ρ : Rho) : ∀ vs : List Nat, shR p g (wipeR ρ vs) = wipeR (shR p g ρ) vs
  | [] => rfl
  | v :: vs => by
    simp only [wipeR]
    rw [← shR_wipe ρ vs]
    unfold shR
    rw [List.map_set]; rfl
theorem co_rho (i : Nat) (ρ : Rho) : Co p g (sW p g) (rhoAt i ρ) (rhoAt i (shR p g ρ)) := by
  intro S c S2 hp h
  unfold rhoAt at h ⊢
  split at h
  · rename_i w e
    cases h
    rw [shR_get, e]
    exact ⟨rfl, Nat.le_refl _⟩
  · cases h
theorem co_items (w : W) : Co p g (sWs p g) (itemsOf w) (itemsOf (sW p g w)) := by
  intro S c S2 hp h
  unfold itemsOf at h ⊢
  split at h
  · rename_i ws e
    cases h
    rw [seqOf_sh hp e]
    exact ⟨rfl, Nat.le_refl _⟩
  · cases h
def sPr (p : Nat) (g : List Ob) (q : List W × List W) : List W × List W := (shs p g.length q.1, shs p g.length q.2)
theorem co_pairs (w : W) : Co p g (sPr p g) (pairsOf w) (pairsOf (sW p g w)) := by
  intro S c S2 hp h
  unfold pairsOf at h ⊢
  split at h
  · rename_i q e
    cases h
    obtain ⟨ks, us⟩ := c
    rw [dictOf_sh hp e]
    exact ⟨rfl, Nat.le_refl _⟩
  · cases h
/-! ### walks -/
def shSrc (p : Nat) (g : List Ob) (src : List (Nat × Ob)) : List (Nat × Ob) := src.map fun q => (shN p g.length q.1, Ob.sh p g.length q.2)
def sIt (p : Nat) (g : List Ob) (q : List W × List (Nat × Ob)) : List W × List (Nat × Ob) := (shs p g.length q.1, shSrc p g q.2)
theorem stands_sh {S : Sto} (hp : p ≤ S.length) {src : List (Nat × Ob)} (h : stands S src = true) : stands (shS p g S) (shSrc p g src) = true := by
  unfold stands shSrc at *
  rw [List.all_map, List.all_eq_true] at *
  intro q hq
  have := of_decide_eq_true (h q hq)
  refine decide_eq_true ?_
  show (shS p g S)[shN p g.length q.1]? = some (Ob.sh p g.length q.2)
  rw [shS_get hp, this]; rfl
theorem src_sh {S : Sto} (hp : p ≤ S.length) (a : W) : srcOf (shS p g S) (sW p g a) = shSrc p g (srcOf S a) := by
  cases a with
  | ref n =>
    show (match (shS p g S)[shN p g.length n]? with | some o => [(shN p g.length n, o)] | none => []) = _
    rw [shS_get hp]
    cases e : S[n]? <;> simp [srcOf, shSrc, e]
  | _ => rfl
theorem co_iter (w : W) : Co p g (sIt p g) (wIter w) (wIter (sW p g w)) := by
  intro S c S2 hp h
  unfold wIter at h
  split at h
  · rename_i x
    cases h
    refine ⟨?_, Nat.le_refl _⟩
    show some ((_, _), _) = _
    simp only [sIt, shSrc, List.map_nil, shs_map, List.map_map]
    congr 3
  · rename_i hno
    have e0 : wIter (sW p g w) (shS p g S) = (match dictOf (shS p g S) (sW p g w) with
      | some (ks, _) => some ((ks, srcOf (shS p g S) (sW p g w)), shS p g S)
      | none => match seqOf (shS p g S) (sW p g w) with
        | some ws => some ((ws, srcOf (shS p g S) (sW p g w)), shS p g S)
        | none => none) := by
      unfold wIter
      split
      · rename_i h1; exact (hno _ (sh_str h1)).elim
      · rfl
    rw [e0, src_sh hp]
    split at h
    · rename_i ks us e
      cases h
      rw [dictOf_sh hp e]
      exact ⟨rfl, Nat.le_refl _⟩
    · rename_i e
      rw [dictOf_no hp e]
      split at h
      · rename_i ws e2
        cases h
        rw [seqOf_sh hp e2]
        exact ⟨rfl, Nat.le_refl _⟩
      · cases h
theorem ints_id (f : Nat → Int) (l : List Nat) : shs p g.length (l.map fun i => W.int (f i)) = l.map fun i => W.int (f i) := by
  rw [shs_map, List.map_map]; congr 1
theorem co_rng1 (w : W) : Co p g (sIt p g) (wRng1 w) (wRng1 (sW p g w)) := by
  intro S c S2 hp h
  unfold wRng1 at h
  split at h
  · rename_i n
    split at h
    · rename_i hn
      have e : some (((List.range n.toNat).map fun (i : Nat) => W.int (Int.ofNat i), ([] : List (Nat × Ob))), S) = some (c, S2) := h
      cases e
      refine ⟨?_, Nat.le_refl _⟩
      show (if -4000000 ≤ n ∧ n ≤ 4000000 then M.ret ((List.range n.toNat).map fun (i : Nat) => W.int (Int.ofNat i), ([] : List (Nat × Ob))) else M.no) (shS p g S) = _
      rw [if_pos hn]
      show some ((_, _), _) = some (sIt p g (_, _), _)
      simp only [sIt, shSrc, List.map_nil]
      rw [show shs p g.length ((List.range n.toNat).map fun (i : Nat) => W.int (Int.ofNat i)) = _ from ints_id (fun i => Int.ofNat i) _]
    · cases h
  · cases h
theorem co_rng2 (w v : W) : Co p g (sIt p g) (wRng2 w v) (wRng2 (sW p g w) (sW p g v)) := by
  intro S c S2 hp h
  unfold wRng2 at h
  split at h
  · rename_i i j
    split at h
    · rename_i hn
      have e : some (((List.range (j - i).toNat).map fun (k : Nat) => W.int (i + Int.ofNat k), ([] : List (Nat × Ob))), S) = some (c, S2) := h
      cases e
      refine ⟨?_, Nat.le_refl _⟩
      show (if -4000000 ≤ i ∧ i ≤ 4000000 ∧ -4000000 ≤ j ∧ j ≤ 4000000 then M.ret ((List.range (j - i).toNat).map fun (k : Nat) => W.int (i + Int.ofNat k), ([] : List (Nat × Ob))) else M.no) (shS p g S) = _
      rw [if_pos hn]
      show some ((_, _), _) = some (sIt p g (_, _), _)
      simp only [sIt, shSrc, List.map_nil]
      rw [show shs p g.length ((List.range (j - i).toNat).map fun (k : Nat) => W.int (i + Int.ofNat k)) = _ from ints_id (fun k => i + Int.ofNat k) _]
    · cases h
  · cases h
theorem zw_sh (us ws : List W) : shs p g.length (List.zipWith (fun u v => W.tup [u, v]) us ws) = List.zipWith (fun u v => W.tup [u, v]) (shs p g.length us) (shs p g.length ws) := by
  simp only [shs_map]
  rw [List.map_zipWith, List.zipWith_map]
  congr 1
theorem co_enum (w : W) : Co p g (sIt p g) (wEnum w) (wEnum (sW p g w)) := by
  intro S c S2 hp h
  unfold wEnum at h ⊢
  split at h
  · rename_i ws e
    cases h
    rw [seqOf_sh hp e, src_sh hp]
    refine ⟨?_, Nat.le_refl _⟩
    simp only [sIt]
    congr 3
    simp only [shs_map, List.map_map, List.zipIdx_map]
    congr 1
  · cases h
theorem co_zip (a b : W) : Co p g (sIt p g) (wZip a b) (wZip (sW p g a) (sW p g b)) := by
  intro S c S2 hp h
  unfold wZip at h ⊢
  split at h
  · rename_i us ws e1 e2
    cases h
    rw [seqOf_sh hp e1, seqOf_sh hp e2, src_sh hp, src_sh hp]
    refine ⟨?_, Nat.le_refl _⟩
    simp only [sIt, zw_sh]
    congr 3
    unfold shSrc
    rw [List.map_append]
  · cases h
theorem co_itemsD (w : W) : Co p g (sIt p g) (itemsD w) (itemsD (sW p g w)) := by
  intro S c S2 hp h
  unfold itemsD at h ⊢
  split at h
  · rename_i ks us e
    cases h
    rw [dictOf_sh hp e, src_sh hp]
    refine ⟨?_, Nat.le_refl _⟩
    simp only [sIt, zw_sh]
  · cases h
/-! ### targets -/
mutual
theorem put_sh : ∀ (t : P) (w : W) (ρ ρ' : Rho), P.put t w ρ = some ρ' → P.put t (sW p g w) (shR p g ρ) = some (shR p g ρ')
  | .nm i, w, ρ, ρ', h => by
    simp only [P.put] at h ⊢
    cases h
    rw [shR_set]
  | .tp ps, .tup ws, ρ, ρ', h => by
    simp only [P.put] at h
    simp only [sW, W.sh, P.put]
    exact puts_sh ps ws ρ ρ' h
  | .tp ps, .non, ρ, ρ', h => by simp [P.put] at h
  | .tp ps, .bl _, ρ, ρ', h => by simp [P.put] at h
  | .tp ps, .int _, ρ, ρ', h => by simp [P.put] at h
  | .tp ps, .str _, ρ, ρ', h => by simp [P.put] at h
  | .tp ps, .lst _, ρ, ρ', h => by simp [P.put] at h
  | .tp ps, .dct _ _, ρ, ρ', h => by simp [P.put] at h
  | .tp ps, .ref _, ρ, ρ', h => by simp [P.put] at h
  | .tp ps, .fn _, ρ, ρ', h => by simp [P.put] at h
  | .nil, w, ρ, ρ', h => by simp [P.put] at h
  | .cons a b, w, ρ, ρ', h => by simp [P.put] at h
theorem puts_sh : ∀ (t : P) (ws : List W) (ρ ρ' : Rho), P.puts t ws ρ = some ρ' → P.puts t (sWs p g ws) (shR p g ρ) = some (shR p g ρ')
  | .nil, [], ρ, ρ', h => by simp only [P.puts] at h; cases h; rfl
  | .cons t ts, w :: ws, ρ, ρ', h => by
    simp only [P.puts] at h
    split at h
    · rename_i ρ1 e
      simp only [sWs, shs, P.puts]
      rw [show P.put t (W.sh p g.length w) (shR p g ρ) = _ from put_sh t w ρ ρ1 e]
      exact puts_sh ts ws ρ1 ρ' h
    · cases h
  | .nil, _ :: _, ρ, ρ', h => by simp [P.puts] at h
  | .cons _ _, [], ρ, ρ', h => by simp [P.puts] at h
  | .nm _, ws, ρ, ρ', h => by cases ws <;> simp [P.puts] at h
  | .tp _, ws, ρ, ρ', h => by cases ws <;> simp [P.puts] at h
end
end
end TS

set_option Elab.async false
set_option linter.all false
set_option maxRecDepth 100000
set_option maxHeartbeats 2000000
/-! A30: the small syntax under a shift. -/
namespace TS
open PySem

section
variable {p : Nat} {g : List Ob}
theorem co_comp {src : List (Nat × Ob)} {f f' : W → M (List W)} (hf : ∀ x, Co p g (sWs p g) (f x) (f' (sW p g x))) : ∀ xs : List W, Co p g (sWs p g) (compL src f xs) (compL (shSrc p g src) f' (sWs p g xs))
  | [] => by
    intro S c S2 hp h
    simp only [compL] at h
    simp only [sWs, shs, compL]
    split at h
    · rename_i hs
      cases h
      rw [if_pos (stands_sh hp hs)]
      exact ⟨rfl, Nat.le_refl _⟩
    · cases h
  | x :: xs => by
    intro S c S2 hp h
    simp only [compL] at h
    simp only [sWs, shs, compL]
    split at h
    · rename_i hs
      rw [if_pos (stands_sh hp hs)]
      split at h
      · rename_i ys S1 e1
        obtain ⟨q1, q2⟩ := hf x S ys S1 hp e1
        rw [show f' (W.sh p g.length x) (shS p g S) = _ from q1]
        simp only
        split at h
        · rename_i zs S3 e2
          cases h
          obtain ⟨q3, q4⟩ := co_comp hf xs S1 zs _ (by omega) e2
          rw [show compL (shSrc p g src) f' (shs p g.length xs) (shS p g S1) = _ from q3]
          exact ⟨by simp only [sWs, app_shs], by omega⟩
        · cases h
      · cases h
    · cases h
def sKV (p : Nat) (g : List Ob) (o : Option (W × W)) : Option (W × W) := o.map fun q => (sW p g q.1, sW p g q.2)
theorem co_dcl {src : List (Nat × Ob)} {f f' : W → M (Option (W × W))} (hf : ∀ x, Co p g (sKV p g) (f x) (f' (sW p g x))) : ∀ (xs : List W) (q : List W × List W), Co p g (sPr p g) (dcL src f xs q) (dcL (shSrc p g src) f' (sWs p g xs) (sPr p g q))
  | [], q => by
    intro S c S2 hp h
    simp only [dcL] at h
    simp only [sWs, shs, dcL]
    split at h
    · rename_i hs
      cases h
      rw [if_pos (stands_sh hp hs)]
      exact ⟨rfl, Nat.le_refl _⟩
    · cases h
  | x :: xs, q => by
    intro S c S2 hp h
    simp only [dcL] at h
    simp only [sWs, shs, dcL]
    split at h
    · rename_i hs
      rw [if_pos (stands_sh hp hs)]
      split at h
      · rename_i k v S1 e1
        obtain ⟨q1, q2⟩ := hf x S _ S1 hp e1
        rw [show f' (W.sh p g.length x) (shS p g S) = _ from q1]
        simp only [sKV, Option.map_some]
        split at h
        · rename_i hk
          obtain ⟨q3, q4⟩ := co_dcl hf xs _ S1 c S2 (by omega) h
          have hk' : keyFor (sPr p g q).1 (sW p g k) = true := (keyFor_sh _ _ _ _).trans hk
          rw [if_pos hk']
          simp only [sPr] at q3 ⊢
          rw [dPut_sh]
          exact ⟨q3, by omega⟩
        · cases h
      · rename_i S1 e1
        obtain ⟨q1, q2⟩ := hf x S _ S1 hp e1
        rw [show f' (W.sh p g.length x) (shS p g S) = _ from q1]
        simp only [sKV, Option.map_none]
        obtain ⟨q3, q4⟩ := co_dcl hf xs q S1 c S2 (by omega) h
        exact ⟨q3, by omega⟩
      · cases h
    · cases h
/-- a term's meaning under a shift -/
structure DCo (p : Nat) (g : List Ob) (z : Dn) : Prop where
  v : ∀ ρ, Co p g (sW p g) (z.v ρ) (z.v (shR p g ρ))
  a : ∀ ρ, Co p g (sWs p g) (z.a ρ) (z.a (shR p g ρ))
  d : ∀ ρ q, Co p g (sPr p g) (z.d ρ q) (z.d (shR p g ρ) (sPr p g q))
  it : ∀ ρ, Co p g (sIt p g) (z.it ρ) (z.it (shR p g ρ))
theorem DCo.ofV {m : Rho → M W} (h : ∀ ρ, Co p g (sW p g) (m ρ) (m (shR p g ρ))) : DCo p g { v := m } := ⟨h, fun _ => Co.no, fun _ _ => Co.no, fun _ => Co.no⟩
theorem DCo.ofA {m : Rho → M (List W)} (h : ∀ ρ, Co p g (sWs p g) (m ρ) (m (shR p g ρ))) : DCo p g { a := m } := ⟨fun _ => Co.no, h, fun _ _ => Co.no, fun _ => Co.no⟩
theorem DCo.ofD {m : Rho → List W × List W → M (List W × List W)} (h : ∀ ρ q, Co p g (sPr p g) (m ρ q) (m (shR p g ρ) (sPr p g q))) : DCo p g { d := m } := ⟨fun _ => Co.no, fun _ => Co.no, h, fun _ => Co.no⟩
theorem DCo.ofI {m : Rho → M (List W × List (Nat × Ob))} (h : ∀ ρ, Co p g (sIt p g) (m ρ) (m (shR p g ρ))) : DCo p g { it := m } := ⟨fun _ => Co.no, fun _ => Co.no, fun _ _ => Co.no, h⟩
theorem co_turn {t : P} {vs : List Nat} {ρ : Rho} {c e : Dn} (hc : DCo p g c) (he : DCo p g e) (x : W) : Co p g (sWs p g) (turnOf t vs ρ c e x) (turnOf t vs (shR p g ρ) c e (sW p g x)) := by
  intro S r S2 hp h
  unfold turnOf at h ⊢
  rw [← shR_wipe]
  split at h
  · rename_i ρ' e1
    rw [put_sh t x _ ρ' e1]
    simp only
    split at h
    · rename_i S1 e2
      obtain ⟨q1, q2⟩ := (hc.v ρ').truth S _ S1 hp e2
      rw [q1]
      simp only [id]
      split at h
      · rename_i w S3 e3
        cases h
        obtain ⟨q3, q4⟩ := he.v ρ' S1 w _ (by omega) e3
        rw [q3]
        exact ⟨rfl, by omega⟩
      · cases h
    · rename_i S1 e2
      cases h
      obtain ⟨q1, q2⟩ := (hc.v ρ').truth S _ _ hp e2
      rw [q1]
      exact ⟨rfl, q2⟩
    · cases h
  · cases h
theorem co_turnD {t : P} {vs : List Nat} {ρ : Rho} {c k v : Dn} (hc : DCo p g c) (hk : DCo p g k) (hv : DCo p g v) (x : W) : Co p g (sKV p g) (turnD t vs ρ c k v x) (turnD t vs (shR p g ρ) c k v (sW p g x)) := by
  intro S r S2 hp h
  unfold turnD at h ⊢
  rw [← shR_wipe]
  split at h
  · rename_i ρ' e1
    rw [put_sh t x _ ρ' e1]
    simp only
    split at h
    · rename_i S1 e2
      obtain ⟨q1, q2⟩ := (hc.v ρ').truth S _ S1 hp e2
      rw [q1]
      simp only [id]
      split at h
      · rename_i kw S3 e3
        obtain ⟨q3, q4⟩ := hk.v ρ' S1 kw S3 (by omega) e3
        rw [q3]
        simp only
        split at h
        · rename_i w S4 e4
          cases h
          obtain ⟨q5, q6⟩ := hv.v ρ' S3 w _ (by omega) e4
          rw [q5]
          exact ⟨rfl, by omega⟩
        · cases h
      · cases h
    · rename_i S1 e2
      cases h
      obtain ⟨q1, q2⟩ := (hc.v ρ').truth S _ _ hp e2
      rw [q1]
      exact ⟨rfl, q2⟩
    · cases h
  · cases h
theorem co_turn2 {t t1 : P} {vs vs1 : List Nat} {ρ : Rho} {c it1 c1 e : Dn} (hc : DCo p g c) (hi : DCo p g it1) (hc1 : DCo p g c1) (he : DCo p g e) (x : W) : Co p g (sWs p g) (turn2 t vs vs1 ρ c t1 it1 c1 e x) (turn2 t vs vs1 (shR p g ρ) c t1 it1 c1 e (sW p g x)) := by
  intro S r S2 hp h
  unfold turn2 at h ⊢
  rw [← shR_wipe]
  split at h
  · rename_i ρ' e1
    rw [put_sh t x _ ρ' e1]
    simp only
    split at h
    · rename_i S1 e2
      obtain ⟨q1, q2⟩ := (hc.v ρ').truth S _ S1 hp e2
      rw [q1]
      simp only [id]
      split at h
      · rename_i xs src S3 e3
        obtain ⟨q3, q4⟩ := hi.it ρ' S1 _ S3 (by omega) e3
        rw [q3]
        simp only [sIt]
        obtain ⟨q5, q6⟩ := co_comp (src := src) (fun y => co_turn (t := t1) (vs := vs1) (ρ := ρ') hc1 he y) xs S3 r S2 (by omega) h
        exact ⟨q5, by omega⟩
      · cases h
    · rename_i S1 e2
      cases h
      obtain ⟨q1, q2⟩ := (hc.v ρ').truth S _ _ hp e2
      rw [q1]
      exact ⟨rfl, q2⟩
    · cases h
  · cases h
variable {gc : Nat → W} {cf : Nat → List W → M W}
theorem merge_sh : ∀ (xs vs ks us : List W), dMerge (shs p g.length ks) (shs p g.length us) (shs p g.length xs) (shs p g.length vs) = sPr p g (dMerge ks us xs vs)
  | [], vs, ks, us => by cases vs <;> rfl
  | x :: xs, [], ks, us => rfl
  | x :: xs, v :: vs, ks, us => by
    simp only [shs, dMerge]
    rw [dPut_sh]
    exact merge_sh xs vs _ _
theorem co_sortKey (hcf : ∀ f ws, Co p g (sW p g) (cf f ws) (cf f (sWs p g ws))) (f : Nat) : ∀ (ws : List W) (S : Sto) (ks : List W), p ≤ S.length → sortKey cf f ws S = some ks → sortKey cf f (sWs p g ws) (shS p g S) = some (sWs p g ks)
  | [], S, ks, hp, h => by simp only [sortKey] at h; cases h; rfl
  | w :: ws, S, ks, hp, h => by
    simp only [sortKey] at h
    split at h
    · rename_i k S1 e
      split at h
      · rename_i hS
        split at h
        · rename_i ks' e2
          cases h
          obtain ⟨q1, q2⟩ := hcf f [w] S k S1 hp e
          simp only [sWs, shs, sortKey]
          rw [show cf f [W.sh p g.length w] (shS p g S) = _ from q1]
          simp only
          rw [hS, if_pos rfl, show sortKey cf f (shs p g.length ws) (shS p g S) = _ from co_sortKey hcf f ws S ks' hp e2]
        · cases h
      · cases h
    · cases h
theorem co_skey (hcf : ∀ f ws, Co p g (sW p g) (cf f ws) (cf f (sWs p g ws))) (f : Nat) (x : W) : Co p g (sW p g) (wSortKey cf f x) (wSortKey cf f (sW p g x)) := by
  intro S c S2 hp h
  unfold wSortKey at h ⊢
  split at h
  · rename_i ws e
    rw [seqOf_sh hp e]
    simp only
    split at h
    · rename_i ks e2
      rw [show sortKey cf f (shs p g.length ws) (shS p g S) = _ from co_sortKey hcf f ws S ks hp e2]
      simp only
      split at h
      · rename_i hc
        have hk : sWs p g ks = ks := flats_sh g.length ks 30 hc.1
        rw [hk, if_pos hc]
        have q := Co.new (p := p) (g := g) _ S c S2 hp h
        simp only [Ob.sh] at q
        have e3 : shs p g.length (((ks.zip ws).mergeSort fun p q => wLe2 p.1 q.1).map Prod.snd) = (((ks.zip (shs p g.length ws)).mergeSort fun p q => wLe2 p.1 q.1).map Prod.snd) := by
          have hz : ks.zip (shs p g.length ws) = (ks.zip ws).map fun q => (q.1, sW p g q.2) := by
            rw [shs_map, List.zip_map_right]; rfl
          rw [hz, shs_map, List.map_map]
          have hm := List.map_mergeSort (r := fun (p q : W × W) => wLe2 p.1 q.1) (s := fun (p q : W × W) => wLe2 p.1 q.1) (f := fun q : W × W => (q.1, sW p g q.2)) (l := ks.zip ws) (fun a _ b _ => rfl)
          rw [← hm, List.map_map]; rfl
        rw [e3] at q
        exact q
      · cases h
    · cases h
  · cases h
theorem co_callv (hcf : ∀ f ws, Co p g (sW p g) (cf f ws) (cf f (sWs p g ws))) (x : W) (ws : List W) : Co p g (sW p g) (wCallV cf x ws) (wCallV cf (sW p g x) (sWs p g ws)) := by
  cases x with
  | fn f => exact hcf f ws
  | _ => exact Co.no
theorem den_co (hgc : ∀ i, sW p g (gc i) = gc i) (hcf : ∀ f ws, Co p g (sW p g) (cf f ws) (cf f (sWs p g ws))) : ∀ e : E, DCo p g (den gc cf e) := by
  have pw : ∀ w : W, Co p g (sW p g) (pure w : M W) (pure (sW p g w) : M W) := fun w => Co.pure w
  intro e
  induction e with
  | var i => exact .ofV fun ρ => co_rho i ρ
  | non => exact .ofV fun ρ => Co.ret rfl
  | bl b => exact .ofV fun ρ => Co.ret rfl
  | int b => exact .ofV fun ρ => Co.ret rfl
  | str b => exact .ofV fun ρ => Co.ret rfl
  | gcon i => exact .ofV fun ρ => Co.ret (hgc i)
  | gfn f => exact .ofV fun ρ => Co.ret rfl
  | nil => exact .ofA fun ρ => Co.ret rfl
  | cons e es h1 h2 => exact .ofA fun ρ => (h1.v ρ).bind fun w => (h2.a ρ).bind fun ws => Co.pure (sa := sWs p g) (w :: ws)
  | star e es h1 h2 =>
    exact .ofA fun ρ => (h1.v ρ).bind fun w => (co_items w).bind fun us => (h2.a ρ).bind fun ws => by
      have := Co.pure (p := p) (g := g) (sa := sWs p g) (us ++ ws)
      rw [show sWs p g (us ++ ws) = sWs p g us ++ sWs p g ws from app_shs _ _ _ _] at this
      exact this
  | tup es h => exact .ofV fun ρ => (h.a ρ).bind fun ws => (Co.grd (by rw [len_shs])).bind fun _ => pw (.tup ws)
  | lst es h => exact .ofV fun ρ => (h.a ρ).bind fun ws => (Co.grd (by rw [len_shs])).bind fun _ => Co.new (.lst ws)
  | dnil => exact .ofD fun ρ q => Co.ret rfl
  | dpair k v ds h1 h2 h3 =>
    exact .ofD fun ρ q => (h1.v ρ).bind fun x => (h2.v ρ).bind fun y => (Co.grd (by simp only [sPr]; rw [keyFor_sh])).bind fun _ => by
      have := h3.d ρ (dPut q.1 q.2 x y)
      simp only [sPr] at this ⊢
      rw [dPut_sh]
      exact this
  | dstar e ds h1 h2 =>
    exact .ofD fun ρ q => (h1.v ρ).bind fun x => (co_pairs x).bind fun r => (Co.grd (by
      simp only [sPr]
      rw [shs_map, List.all_map]
      congr 1
      funext k
      show (keyFor (shs p g.length q.1) (W.sh p g.length k) && keyFor (r.1.map (W.sh p g.length)) (W.sh p g.length k)) = _
      rw [← shs_map, keyFor_sh, keyFor_sh])).bind fun _ => by
      have := h2.d ρ (dMerge q.1 q.2 r.1 r.2)
      rw [← merge_sh] at this
      exact this
  | dct ds h => exact .ofV fun ρ => (h.d ρ ([], [])).bind fun q => (Co.grd (show decide ((shs p g.length q.1).length ≤ lineN) = decide (q.1.length ≤ lineN) by rw [len_shs])).bind fun _ => Co.new (.dct q.1 q.2)
  | and a b h1 h2 => exact .ofV fun ρ => (h1.v ρ).truth.bind fun c => by cases c; exact pw (.bl false); exact h2.v ρ
  | or a b h1 h2 => exact .ofV fun ρ => (h1.v ρ).truth.bind fun c => by cases c; exact h2.v ρ; exact pw (.bl true)
  | not a h1 => exact .ofV fun ρ => (h1.v ρ).truth.bind fun c => pw (.bl (!c))
  | ifx c a b h1 h2 h3 => exact .ofV fun ρ => (h1.v ρ).truth.bind fun c => by cases c; exact h3.v ρ; exact h2.v ρ
  | cmp o a b h1 h2 => exact .ofV fun ρ => (h1.v ρ).bind fun x => (h2.v ρ).bind fun y => (co_cmp o x y).bind fun c => pw (.bl c)
  | chain o q a b c h1 h2 h3 =>
    exact .ofV fun ρ => (h1.v ρ).bind fun x => (h2.v ρ).bind fun y => (co_cmp o x y).bind fun c1 => by
      cases c1
      · exact pw (.bl false)
      · exact (h3.v ρ).bind fun z => (co_cmp q y z).bind fun c2 => pw (.bl c2)
  | isn a h1 =>
    exact .ofV fun ρ => (h1.v ρ).bind fun x => by
      have := pw (.bl (decide (x = .non)))
      have e : decide (sW p g x = .non) = decide (x = .non) := by cases x <;> first | rfl | (simp only [sW, W.sh]; rfl)
      rw [e]
      exact this
  | notn a h1 =>
    exact .ofV fun ρ => (h1.v ρ).bind fun x => by
      have := pw (.bl (!decide (x = .non)))
      have e : decide (sW p g x = .non) = decide (x = .non) := by cases x <;> first | rfl | (simp only [sW, W.sh]; rfl)
      rw [e]
      exact this
  | isb a b h1 => exact .ofV fun ρ => (h1.v ρ).bind fun x => co_isb x b
  | bin o a b h1 h2 => exact .ofV fun ρ => (h1.v ρ).bind fun x => (h2.v ρ).bind fun y => co_bin o x y
  | ix a i h1 h2 => exact .ofV fun ρ => (h1.v ρ).bind fun x => (h2.v ρ).bind fun y => co_ix x y
  | slc a lo hi h1 h2 h3 => exact .ofV fun ρ => (h1.v ρ).bind fun x => (h2.v ρ).bind fun l => (h3.v ρ).bind fun h => co_slc x l h
  | rev a h1 => exact .ofV fun ρ => (h1.v ρ).bind fun x => co_rev x
  | call f es h1 => exact .ofV fun ρ => (h1.a ρ).bind fun ws => hcf f ws
  | callv i es h1 => exact .ofV fun ρ => (co_rho i ρ).bind fun x => (h1.a ρ).bind fun ws => co_callv hcf x ws
  | blt b es h1 => exact .ofV fun ρ => (h1.a ρ).bind fun ws => co_blt b ws
  | skey a f h1 => exact .ofV fun ρ => (h1.v ρ).bind fun x => co_skey hcf f x
  | mth m a es h1 h2 => exact .ofV fun ρ => (h1.v ρ).bind fun x => (co_recv m x).bind fun _ => (h2.a ρ).bind fun ws => co_mth m x ws
  | isi k a h1 => exact .ofV fun ρ => (h1.v ρ).bind fun x => (co_isi k x).bind fun b => pw (.bl b)
  | lc vs t it c e h1 h2 h3 => exact .ofV fun ρ => (h1.it ρ).bind fun q => (co_comp (src := q.2) (fun y => co_turn (t := t) (vs := vs) (ρ := ρ) h2 h3 y) q.1).bind fun ws => pw (.lst ws)
  | lc2 vs vs1 t it c t1 it1 c1 e h1 h2 h3 h4 h5 => exact .ofV fun ρ => (h1.it ρ).bind fun q => (co_comp (src := q.2) (fun y => co_turn2 (t := t) (t1 := t1) (vs := vs) (vs1 := vs1) (ρ := ρ) h2 h3 h4 h5 y) q.1).bind fun ws => (Co.grd (by rw [len_shs])).bind fun _ => pw (.lst ws)
  | dc vs t it c k v h1 h2 h3 h4 => exact .ofV fun ρ => (h1.it ρ).bind fun q => (co_dcl (src := q.2) (fun y => co_turnD (t := t) (vs := vs) (ρ := ρ) h2 h3 h4 y) q.1 ([], [])).bind fun r => Co.new (.dct r.1 r.2)
  | iter a h1 => exact .ofI fun ρ => (h1.v ρ).bind fun x => co_iter x
  | rng1 a h1 => exact .ofI fun ρ => (h1.v ρ).bind fun x => co_rng1 x
  | rng2 a b h1 h2 => exact .ofI fun ρ => (h1.v ρ).bind fun x => (h2.v ρ).bind fun y => co_rng2 x y
  | enum a h1 => exact .ofI fun ρ => (h1.v ρ).bind fun x => co_enum x
  | zip a b h1 h2 => exact .ofI fun ρ => (h1.v ρ).bind fun x => (h2.v ρ).bind fun y => co_zip x y
  | items a h1 => exact .ofI fun ρ => (h1.v ρ).bind fun x => co_itemsD x
end
end TS

set_option Elab.async false
set_option linter.all false
set_option maxRecDepth 100000
set_option maxHeartbeats 2000000
/-! A31: statements and calls under a shift; a call at any store. -/
namespace TS
open PySem

section
variable {p : Nat} {g : List Ob} {gc : Nat → W} {cf : Nat → List W → M W}
def sFl (p : Nat) (g : List Ob) : Fl → Fl
  | .ret w => .ret (sW p g w)
  | f => f
mutual
theorem tput_sh (hgc : ∀ i, sW p g (gc i) = gc i) (hcf : ∀ f ws, Co p g (sW p g) (cf f ws) (cf f (sWs p g ws))) : ∀ (t : T) (w : W) (ρ ρ' : Rho) (S S' : Sto), p ≤ S.length → T.put gc cf t w ρ S = some (ρ', S') → T.put gc cf t (sW p g w) (shR p g ρ) (shS p g S) = some (shR p g ρ', shS p g S') ∧ S.length ≤ S'.length
  | .nm i, w, ρ, ρ', S, S', hp, h => by
    simp only [T.put] at h ⊢
    cases h
    rw [shR_set]
    exact ⟨rfl, Nat.le_refl _⟩
  | .tp ps, w, ρ, ρ', S, S', hp, h => by
    cases w with
    | tup ws =>
      simp only [T.put] at h
      simp only [sW, W.sh, T.put]
      exact tputs_sh hgc hcf ps ws ρ ρ' S S' hp h
    | _ => simp [T.put] at h
  | .sub o i, w, ρ, ρ', S, S', hp, h => by
    simp only [T.put] at h ⊢
    split at h
    · rename_i ow S1 e1
      split at h
      · rename_i iw S2 e2
        split at h
        · rename_i u S3 e3
          cases h
          obtain ⟨q1, q2⟩ := (den_co hgc hcf o).v ρ S ow S1 hp e1
          obtain ⟨q3, q4⟩ := (den_co hgc hcf i).v ρ S1 iw S2 (by omega) e2
          obtain ⟨q5, q6⟩ := co_set (p := p) (g := g) ow iw w S2 u _ (by omega) e3
          rw [q1]; simp only
          rw [q3]; simp only
          rw [q5]
          exact ⟨rfl, by omega⟩
        · cases h
      · cases h
    · cases h
  | .nil, w, ρ, ρ', S, S', hp, h => by simp [T.put] at h
  | .cons a b, w, ρ, ρ', S, S', hp, h => by simp [T.put] at h
theorem tputs_sh (hgc : ∀ i, sW p g (gc i) = gc i) (hcf : ∀ f ws, Co p g (sW p g) (cf f ws) (cf f (sWs p g ws))) : ∀ (t : T) (ws : List W) (ρ ρ' : Rho) (S S' : Sto), p ≤ S.length → T.puts gc cf t ws ρ S = some (ρ', S') → T.puts gc cf t (sWs p g ws) (shR p g ρ) (shS p g S) = some (shR p g ρ', shS p g S') ∧ S.length ≤ S'.length
  | .nil, ws, ρ, ρ', S, S', hp, h => by
    cases ws with
    | nil => simp only [T.puts] at h; cases h; exact ⟨rfl, Nat.le_refl _⟩
    | cons w ws => simp [T.puts] at h
  | .cons t ts, ws, ρ, ρ', S, S', hp, h => by
    cases ws with
    | nil => simp [T.puts] at h
    | cons w ws =>
      simp only [T.puts] at h
      split at h
      · rename_i ρ1 S1 e
        obtain ⟨q1, q2⟩ := tput_sh hgc hcf t w ρ ρ1 S S1 hp e
        obtain ⟨q3, q4⟩ := tputs_sh hgc hcf ts ws ρ1 ρ' S1 S' (by omega) h
        simp only [sWs, shs, T.puts]
        rw [show T.put gc cf t (W.sh p g.length w) (shR p g ρ) (shS p g S) = _ from q1]
        exact ⟨q3, by omega⟩
      · cases h
  | .nm _, ws, ρ, ρ', S, S', hp, h => by cases ws <;> simp [T.puts] at h
  | .tp _, ws, ρ, ρ', S, S', hp, h => by cases ws <;> simp [T.puts] at h
  | .sub _ _, ws, ρ, ρ', S, S', hp, h => by cases ws <;> simp [T.puts] at h
end
/-- a statement under a shift -/
def RCo (p : Nat) (g : List Ob) (f f' : Rho → Sto → Option (Fl × Rho × Sto)) : Prop := ∀ ρ S fl ρ' S', p ≤ S.length → f ρ S = some (fl, ρ', S') → f' (shR p g ρ) (shS p g S) = some (sFl p g fl, shR p g ρ', shS p g S') ∧ S.length ≤ S'.length
theorem forL_sh {src : List (Nat × Ob)} {t : P} {f : Rho → Sto → Option (Fl × Rho × Sto)} (hf : RCo p g f f) : ∀ xs : List W, RCo p g (forL src t f xs) (forL (shSrc p g src) t f (sWs p g xs))
  | [] => by
    intro ρ S fl ρ' S' hp h
    simp only [forL] at h
    simp only [sWs, shs, forL]
    split at h
    · rename_i hs
      cases h
      rw [if_pos (stands_sh hp hs)]
      exact ⟨rfl, Nat.le_refl _⟩
    · cases h
  | x :: xs => by
    intro ρ S fl ρ' S' hp h
    simp only [forL] at h
    simp only [sWs, shs, forL]
    split at h
    · rename_i hs
      rw [if_pos (stands_sh hp hs)]
      split at h
      · rename_i ρ1 e1
        rw [show P.put t (W.sh p g.length x) (shR p g ρ) = _ from put_sh t x ρ ρ1 e1]
        simp only
        split at h
        · rename_i ρ2 S2 e2
          obtain ⟨q1, q2⟩ := hf ρ1 S _ ρ2 S2 hp e2
          rw [q1]
          obtain ⟨q3, q4⟩ := forL_sh hf xs ρ2 S2 fl ρ' S' (by omega) h
          exact ⟨q3, by omega⟩
        · rename_i ρ2 S2 e2
          obtain ⟨q1, q2⟩ := hf ρ1 S _ ρ2 S2 hp e2
          rw [q1]
          obtain ⟨q3, q4⟩ := forL_sh hf xs ρ2 S2 fl ρ' S' (by omega) h
          exact ⟨q3, by omega⟩
        · rename_i ρ2 S2 e2
          cases h
          obtain ⟨q1, q2⟩ := hf ρ1 S _ _ _ hp e2
          rw [q1]
          exact ⟨rfl, q2⟩
        · rename_i w ρ2 S2 e2
          cases h
          obtain ⟨q1, q2⟩ := hf ρ1 S _ _ _ hp e2
          rw [q1]
          exact ⟨rfl, q2⟩
        · cases h
      · cases h
    · cases h
theorem whileL_sh {c : Rho → M Bool} {f : Rho → Sto → Option (Fl × Rho × Sto)} (hc : ∀ ρ, Co p g id (c ρ) (c (shR p g ρ))) (hf : RCo p g f f) : ∀ n : Nat, RCo p g (whileL c f n) (whileL c f n)
  | 0 => by intro ρ S fl ρ' S' hp h; cases h
  | n + 1 => by
    intro ρ S fl ρ' S' hp h
    simp only [whileL] at h ⊢
    split at h
    · rename_i S1 e1
      obtain ⟨a1, a2⟩ := hc ρ S _ S1 hp e1
      rw [a1]
      simp only [id]
      split at h
      · rename_i ρ2 S2 e2
        obtain ⟨q1, q2⟩ := hf ρ S1 _ ρ2 S2 (by omega) e2
        rw [q1]
        obtain ⟨q3, q4⟩ := whileL_sh hc hf n ρ2 S2 fl ρ' S' (by omega) h
        exact ⟨q3, by omega⟩
      · rename_i ρ2 S2 e2
        obtain ⟨q1, q2⟩ := hf ρ S1 _ ρ2 S2 (by omega) e2
        rw [q1]
        obtain ⟨q3, q4⟩ := whileL_sh hc hf n ρ2 S2 fl ρ' S' (by omega) h
        exact ⟨q3, by omega⟩
      · rename_i ρ2 S2 e2
        cases h
        obtain ⟨q1, q2⟩ := hf ρ S1 _ _ _ (by omega) e2
        rw [q1]
        exact ⟨rfl, by omega⟩
      · rename_i w ρ2 S2 e2
        cases h
        obtain ⟨q1, q2⟩ := hf ρ S1 _ _ _ (by omega) e2
        rw [q1]
        exact ⟨rfl, by omega⟩
      · cases h
    · rename_i S1 e1
      cases h
      obtain ⟨a1, a2⟩ := hc ρ S _ _ hp e1
      rw [a1]
      exact ⟨rfl, a2⟩
    · cases h
theorem run_sh (hgc : ∀ i, sW p g (gc i) = gc i) (hcf : ∀ f ws, Co p g (sW p g) (cf f ws) (cf f (sWs p g ws))) : ∀ c : C, RCo p g (run gc cf c) (run gc cf c) := by
  have dv := fun e => den_co (cf := cf) hgc hcf e
  intro c
  induction c with
  | skip => intro ρ S fl ρ' S' hp h; simp only [run] at h ⊢; cases h; exact ⟨rfl, Nat.le_refl _⟩
  | brk => intro ρ S fl ρ' S' hp h; simp only [run] at h ⊢; cases h; exact ⟨rfl, Nat.le_refl _⟩
  | cont => intro ρ S fl ρ' S' hp h; simp only [run] at h ⊢; cases h; exact ⟨rfl, Nat.le_refl _⟩
  | seq a b h1 h2 =>
    intro ρ S fl ρ' S' hp h
    simp only [run] at h ⊢
    split at h
    · rename_i ρ1 S1 e
      obtain ⟨q1, q2⟩ := h1 ρ S _ ρ1 S1 hp e
      obtain ⟨q3, q4⟩ := h2 ρ1 S1 fl ρ' S' (by omega) h
      rw [q1]
      exact ⟨q3, by omega⟩
    · rename_i hno
      obtain ⟨q1, q2⟩ := h1 ρ S fl ρ' S' hp h
      rw [q1]
      cases fl with
      | nx => exact absurd h (hno _ _)
      | brk => exact ⟨rfl, q2⟩
      | cont => exact ⟨rfl, q2⟩
      | ret w => exact ⟨rfl, q2⟩
  | expr e =>
    intro ρ S fl ρ' S' hp h
    simp only [run] at h ⊢
    split at h
    · rename_i w S1 e1
      cases h
      obtain ⟨q1, q2⟩ := (dv e).v ρ S w _ hp e1
      rw [q1]
      exact ⟨rfl, q2⟩
    · cases h
  | asg t e =>
    intro ρ S fl ρ' S' hp h
    simp only [run] at h ⊢
    split at h
    · rename_i w S1 e1
      obtain ⟨q1, q2⟩ := (dv e).v ρ S w S1 hp e1
      rw [q1]
      simp only
      split at h
      · rename_i ρ2 S2 e2
        cases h
        obtain ⟨q3, q4⟩ := tput_sh hgc hcf t w ρ _ S1 _ (by omega) e2
        rw [q3]
        exact ⟨rfl, by omega⟩
      · cases h
    · cases h
  | aug i o e =>
    intro ρ S fl ρ' S' hp h
    simp only [run] at h ⊢
    split at h
    · rename_i x hx
      rw [shR_get, hx]
      simp only [Option.map_some]
      split at h
      · rename_i y S1 e1
        obtain ⟨q1, q2⟩ := (dv e).v ρ S y S1 hp e1
        rw [q1]
        simp only
        split at h
        · rename_i w S2 e2
          cases h
          obtain ⟨q3, q4⟩ := co_bin (p := p) (g := g) o x y S1 w _ (by omega) e2
          rw [q3]
          simp only
          rw [shR_set]
          exact ⟨rfl, by omega⟩
        · cases h
      · cases h
    · cases h
  | ite c a b h1 h2 =>
    intro ρ S fl ρ' S' hp h
    simp only [run] at h ⊢
    split at h
    · rename_i S1 e1
      obtain ⟨q1, q2⟩ := ((dv c).v ρ).truth S _ S1 hp e1
      rw [q1]
      obtain ⟨q3, q4⟩ := h1 ρ S1 fl ρ' S' (by omega) h
      exact ⟨q3, by omega⟩
    · rename_i S1 e1
      obtain ⟨q1, q2⟩ := ((dv c).v ρ).truth S _ S1 hp e1
      rw [q1]
      obtain ⟨q3, q4⟩ := h2 ρ S1 fl ρ' S' (by omega) h
      exact ⟨q3, by omega⟩
    · cases h
  | whl c b h1 =>
    intro ρ S fl ρ' S' hp h
    simp only [run] at h ⊢
    exact whileL_sh (fun ρ => ((dv c).v ρ).truth) h1 turns ρ S fl ρ' S' hp h
  | for_ t it b h1 =>
    intro ρ S fl ρ' S' hp h
    simp only [run] at h ⊢
    split at h
    · rename_i xs src S1 e1
      obtain ⟨q1, q2⟩ := (dv it).it ρ S _ S1 hp e1
      rw [q1]
      obtain ⟨q3, q4⟩ := forL_sh (src := src) (t := t) h1 xs ρ S1 fl ρ' S' (by omega) h
      exact ⟨q3, by omega⟩
    · cases h
  | ret e =>
    intro ρ S fl ρ' S' hp h
    simp only [run] at h ⊢
    split at h
    · rename_i w S1 e1
      cases h
      obtain ⟨q1, q2⟩ := (dv e).v ρ S w _ hp e1
      rw [q1]
      exact ⟨rfl, q2⟩
    · cases h
mutual
theorem under_sh {n₀ : Nat} (hp : p ≤ n₀) : ∀ a : W, a.under n₀ = true → (W.sh p g.length a).under (n₀ + g.length) = true
  | .non, _ => rfl
  | .bl _, _ => rfl
  | .int _, _ => rfl
  | .str _, _ => rfl
  | .fn _, _ => rfl
  | .ref n, h => by
    simp only [W.under, W.sh, decide_eq_true_eq] at h ⊢
    unfold shN
    split <;> omega
  | .tup ws, h => by simp only [W.under, W.sh] at h ⊢; exact unders_sh hp ws h
  | .lst ws, h => by simp only [W.under, W.sh] at h ⊢; exact unders_sh hp ws h
  | .dct ks us, h => by
    simp only [W.under, W.sh, Bool.and_eq_true] at h ⊢
    exact ⟨unders_sh hp ks h.1, unders_sh hp us h.2⟩
theorem unders_sh {n₀ : Nat} (hp : p ≤ n₀) : ∀ as : List W, unders n₀ as = true → unders (n₀ + g.length) (shs p g.length as) = true
  | [], _ => rfl
  | a :: as, h => by
    simp only [unders, shs, Bool.and_eq_true] at h ⊢
    exact ⟨under_sh hp a h.1, unders_sh hp as h.2⟩
end
/-- the garbage may mean no places behind it -/
def gOk (p : Nat) (g : List Ob) : Prop := ∀ o ∈ g, o.under (p + g.length) = true
theorem obUnder_sh {n₀ : Nat} (hp : p ≤ n₀) (o : Ob) (h : o.under n₀ = true) : (Ob.sh p g.length o).under (n₀ + g.length) = true := by
  cases o with
  | lst ws => exact unders_sh hp ws h
  | dct ks us =>
    have h : (unders n₀ ks && unders n₀ us) = true := h
    rw [Bool.and_eq_true] at h
    show (unders _ _ && unders _ _) = true
    rw [Bool.and_eq_true]
    exact ⟨unders_sh hp ks h.1, unders_sh hp us h.2⟩
mutual
theorem under_le {n m : Nat} (hm : n ≤ m) : ∀ a : W, a.under n = true → a.under m = true
  | .non, _ => rfl
  | .bl _, _ => rfl
  | .int _, _ => rfl
  | .str _, _ => rfl
  | .fn _, _ => rfl
  | .ref k, h => by simp only [W.under, decide_eq_true_eq] at h ⊢; omega
  | .tup ws, h => by simp only [W.under] at h ⊢; exact unders_le hm ws h
  | .lst ws, h => by simp only [W.under] at h ⊢; exact unders_le hm ws h
  | .dct ks us, h => by
    simp only [W.under, Bool.and_eq_true] at h ⊢
    exact ⟨unders_le hm ks h.1, unders_le hm us h.2⟩
theorem unders_le {n m : Nat} (hm : n ≤ m) : ∀ as : List W, unders n as = true → unders m as = true
  | [], _ => rfl
  | a :: as, h => by
    simp only [unders, Bool.and_eq_true] at h ⊢
    exact ⟨under_le hm a h.1, unders_le hm as h.2⟩
end
theorem obUnder_le {n m : Nat} (hm : n ≤ m) (o : Ob) (h : o.under n = true) : o.under m = true := by
  cases o with
  | lst ws => exact unders_le hm ws h
  | dct ks us =>
    have h : (unders n ks && unders n us) = true := h
    rw [Bool.and_eq_true] at h
    show (unders _ _ && unders _ _) = true
    rw [Bool.and_eq_true]
    exact ⟨unders_le hm ks h.1, unders_le hm us h.2⟩
theorem take_sh {S : Sto} {n₀ : Nat} (hp : p ≤ n₀) (hn : n₀ ≤ S.length) : (shS p g S).take (n₀ + g.length) = shS p g (S.take n₀) := by
  apply List.ext_getElem?
  intro i
  have hp2 : p ≤ (S.take n₀).length := by rw [List.length_take]; omega
  by_cases hi : i < n₀ + g.length
  · rw [List.getElem?_take_of_lt hi]
    by_cases hm : ∃ m, i = shN p g.length m
    · obtain ⟨m, rfl⟩ := hm
      rw [shS_get (by omega), shS_get hp2]
      have : m < n₀ := by unfold shN at hi; split at hi <;> omega
      rw [List.getElem?_take_of_lt this]
    · have hr : p ≤ i ∧ i < p + g.length := by
        refine ⟨?_, ?_⟩
        · apply Nat.le_of_not_lt
          intro z
          exact hm ⟨i, by unfold shN; rw [if_pos z]⟩
        · apply Nat.lt_of_not_le
          intro z
          exact hm ⟨i - g.length, by unfold shN; rw [if_neg (by omega)]; omega⟩
      unfold shS
      rw [List.getElem?_append_right (by simp; omega), List.getElem?_append_left (by simp; omega), List.getElem?_append_right (by simp; omega), List.getElem?_append_left (by simp; omega)]
      congr 1
      simp; omega
  · rw [List.getElem?_eq_none (by rw [List.length_take]; omega), List.getElem?_eq_none (by rw [shS_len hp2, List.length_take]; omega)]
theorem finish_sh (hg : gOk p g) {keep : Bool} {n₀ : Nat} {S1 S2 : Sto} {w c : W} (hp : p ≤ n₀) (hn : n₀ ≤ S1.length) (h : finish keep n₀ w S1 = some (c, S2)) : finish keep (n₀ + g.length) (sW p g w) (shS p g S1) = some (sW p g c, shS p g S2) ∧ n₀ ≤ S2.length := by
  unfold finish at h ⊢
  split at h
  · rename_i hk
    cases h
    rw [if_pos hk]
    exact ⟨rfl, hn⟩
  · rename_i hk
    rw [if_neg hk]
    split at h
    · rename_i w' e
      split at h
      · rename_i hc
        cases h
        rw [frz_sh (n₁ := n₀ + g.length) (by omega) (fun r => by unfold shN; split <;> omega) e]
        simp only
        rw [take_sh hp hn, if_pos]
        · exact ⟨rfl, by rw [List.length_take]; omega⟩
        · refine ⟨under_sh hp _ hc.1, ?_⟩
          unfold underAll shS
          rw [List.all_append, List.all_append, Bool.and_eq_true, Bool.and_eq_true]
          have ha := List.all_eq_true.mp hc.2
          refine ⟨?_, ?_, ?_⟩
          · rw [List.all_map, List.all_eq_true]
            exact fun o ho => obUnder_sh hp o (ha o (List.mem_of_mem_take ho))
          · rw [List.all_eq_true]
            exact fun o ho => obUnder_le (by omega) o (hg o ho)
          · rw [List.all_map, List.all_eq_true]
            exact fun o ho => obUnder_sh hp o (ha o (List.mem_of_mem_drop ho))
      · cases h
    · cases h
theorem callF_sh (hgc : ∀ i, sW p g (gc i) = gc i) (hg : gOk p g) {tb : Nat → Option Def} : ∀ (n f : Nat) (ws : List W), Co p g (sW p g) (callF gc tb n f ws) (callF gc tb n f (sWs p g ws))
  | 0, f, ws => fun S a S' hp h => by cases h
  | n + 1, f, ws => fun S a S' hp h => by
    simp only [callF] at h ⊢
    split at h
    · rename_i d hd
      have hb : d.bind (sWs p g ws) = (d.bind ws).map (sWs p g) := by
        unfold Def.bind
        rw [len_shs]
        split
        · split
          · simp only [Option.map_some, sWs, app_shs, shs, W.sh]
            simp only [shs_map, List.map_take, List.map_drop]
          · rfl
        · split <;> rfl
      rw [hb]
      split at h
      · rename_i as hbind
        rw [hbind]
        simp only [Option.map_some]
        have hr : d.rho (sWs p g as) = shR p g (d.rho as) := by
          unfold Def.rho shR
          rw [len_shs]
          simp only [List.map_append, List.map_replicate, shs_map, List.map_map]
          rfl
        rw [hr]
        have rc := run_sh (cf := callF gc tb n) hgc (fun f ws => callF_sh hgc hg n f ws) d.body
        split at h
        · rename_i w ρ1 S1 e
          obtain ⟨q1, q2⟩ := rc _ S _ ρ1 S1 hp e
          rw [q1]
          simp only [sFl]
          rw [shS_len hp]
          exact finish_sh hg hp q2 h
        · rename_i ρ1 S1 e
          obtain ⟨q1, q2⟩ := rc _ S _ ρ1 S1 hp e
          rw [q1]
          simp only [sFl]
          rw [shS_len hp]
          exact finish_sh (w := .non) hg hp q2 h
        · cases h
      · cases h
    · cases h
end
mutual
theorem noref_sh (k : Nat) : ∀ a : W, a.under 0 = true → W.sh 0 k a = a
  | .non, _ => rfl
  | .bl _, _ => rfl
  | .int _, _ => rfl
  | .str _, _ => rfl
  | .fn _, _ => rfl
  | .ref n, h => by simp [W.under] at h
  | .tup ws, h => by simp only [W.under] at h; simp only [W.sh, norefs_sh k ws h]
  | .lst ws, h => by simp only [W.under] at h; simp only [W.sh, norefs_sh k ws h]
  | .dct ks us, h => by
    simp only [W.under, Bool.and_eq_true] at h
    simp only [W.sh, norefs_sh k ks h.1, norefs_sh k us h.2]
theorem norefs_sh (k : Nat) : ∀ as : List W, unders 0 as = true → shs 0 k as = as
  | [], _ => rfl
  | a :: as, h => by
    simp only [unders, Bool.and_eq_true] at h
    simp only [shs, noref_sh k a h.1, norefs_sh k as h.2]
end
/-- THE USE: what a def answers at the empty store it answers at any store, and leaves it -/
theorem call_any {gc : Nat → W} {tb : Nat → Option Def} (hgc : ∀ i, (gc i).under 0 = true) {n f : Nat} {ws : List W} {c : W} {S : Sto} (hS : ∀ o ∈ S, o.under S.length = true) (hw : unders 0 ws = true) (hc : c.under 0 = true) (h : callF gc tb n f ws [] = some (c, [])) : callF gc tb n f ws S = some (c, S) := by
  have q := callF_sh (p := 0) (g := S) (gc := gc) (tb := tb) (fun i => noref_sh _ _ (hgc i)) (fun o ho => by rw [Nat.zero_add]; exact hS o ho) n f ws [] c [] (Nat.zero_le _) h
  have e : shS 0 S [] = S := by simp [shS]
  rw [e] at q
  have e1 : sWs 0 S ws = ws := norefs_sh _ _ hw
  have e2 : sW 0 S c = c := noref_sh _ _ hc
  rw [e1, e2] at q
  exact q.1
end TS

set_option Elab.async false
set_option linter.all false
set_option maxRecDepth 100000
set_option maxHeartbeats 2000000
/-! A32: what is not read may hold anything; a call that answers more answers the same. -/
namespace TS
open PySem

def LeR (a b : Rho) : Prop := a.length = b.length ∧ ∀ (i : Nat) (w : W), a[i]? = some (some w) → b[i]? = some (some w)
theorem LeR.refl (a : Rho) : LeR a a := ⟨rfl, fun _ _ h => h⟩
theorem LeR.set {a b : Rho} (h : LeR a b) (i : Nat) (o : Option W) : LeR (a.set i o) (b.set i o) := by
  refine ⟨by simp [h.1], fun j w e => ?_⟩
  by_cases hj : i = j
  · subst hj
    have hi : i < a.length := by
      have := (List.getElem?_eq_some_iff.mp e).1
      simpa using this
    rw [List.getElem?_set_self hi] at e
    rw [List.getElem?_set_self (by rw [← h.1]; exact hi)]
    exact e
  · rw [List.getElem?_set_ne hj] at e ⊢
    exact h.2 j w e
theorem LeR.wipe {a b : Rho} (h : LeR a b) : ∀ vs : List Nat, LeR (wipeR a vs) (wipeR b vs)
  | [] => h
  | v :: vs => (h.wipe vs).set v none
def MLe {α : Type} (m m' : M α) : Prop := ∀ S r, m S = some r → m' S = some r
theorem MLe.refl {α : Type} (m : M α) : MLe m m := fun _ _ h => h
theorem MLe.bind {α β : Type} {m m' : M α} {f f' : α → M β} (h : MLe m m') (hf : ∀ a, MLe (f a) (f' a)) : MLe (m >>= f) (m' >>= f') := by
  intro S r hb
  have hb : (match m S with | some (a, S1) => f a S1 | none => none) = some r := hb
  show (match m' S with | some (a, S1) => f' a S1 | none => none) = some r
  cases e : m S with
  | none => rw [e] at hb; cases hb
  | some q =>
    obtain ⟨a, S1⟩ := q
    rw [e] at hb
    rw [h S _ e]
    exact hf a S1 r hb
theorem MLe.truth {m m' : M W} (h : MLe m m') : MLe (truth m) (truth m') := by
  intro S r hb
  unfold TS.truth at hb ⊢
  split at hb
  · rename_i b S1 e
    rw [h S _ e]; exact hb
  · cases hb
mutual
theorem put_le : ∀ (t : P) (w : W) (a b a' : Rho), LeR a b → P.put t w a = some a' → ∃ b', P.put t w b = some b' ∧ LeR a' b'
  | .nm i, w, a, b, a', h, e => by
    simp only [P.put] at e ⊢
    cases e
    exact ⟨_, rfl, h.set i _⟩
  | .tp ps, w, a, b, a', h, e => by
    cases w with
    | tup ws => simp only [P.put] at e ⊢; exact puts_le ps ws a b a' h e
    | _ => simp [P.put] at e
  | .nil, w, a, b, a', h, e => by simp [P.put] at e
  | .cons _ _, w, a, b, a', h, e => by simp [P.put] at e
theorem puts_le : ∀ (t : P) (ws : List W) (a b a' : Rho), LeR a b → P.puts t ws a = some a' → ∃ b', P.puts t ws b = some b' ∧ LeR a' b'
  | .nil, ws, a, b, a', h, e => by
    cases ws with
    | nil => simp only [P.puts] at e ⊢; cases e; exact ⟨_, rfl, h⟩
    | cons w ws => simp [P.puts] at e
  | .cons t ts, ws, a, b, a', h, e => by
    cases ws with
    | nil => simp [P.puts] at e
    | cons w ws =>
      simp only [P.puts] at e ⊢
      split at e
      · rename_i a1 e1
        obtain ⟨b1, h1, h2⟩ := put_le t w a b a1 h e1
        rw [h1]
        exact puts_le ts ws a1 b1 a' h2 e
      · cases e
  | .nm _, ws, a, b, a', h, e => by cases ws <;> simp [P.puts] at e
  | .tp _, ws, a, b, a', h, e => by cases ws <;> simp [P.puts] at e
end
structure DLe (z z' : Dn) : Prop where
  v : ∀ {x y}, LeR x y → MLe (z.v x) (z'.v y)
  a : ∀ {x y}, LeR x y → MLe (z.a x) (z'.a y)
  d : ∀ {x y}, LeR x y → ∀ q, MLe (z.d x q) (z'.d y q)
  it : ∀ {x y}, LeR x y → MLe (z.it x) (z'.it y)
theorem MLe.no {α : Type} {m : M α} : MLe (fun _ => none) m := fun S r h => by cases h
theorem DLe.ofV {m m' : Rho → M W} (h : ∀ {a b}, LeR a b → MLe (m a) (m' b)) : DLe { v := m } { v := m' } := ⟨h, fun _ => MLe.no, fun _ _ => MLe.no, fun _ => MLe.no⟩
theorem DLe.ofA {m m' : Rho → M (List W)} (h : ∀ {a b}, LeR a b → MLe (m a) (m' b)) : DLe { a := m } { a := m' } := ⟨fun _ => MLe.no, h, fun _ _ => MLe.no, fun _ => MLe.no⟩
theorem DLe.ofD {m m' : Rho → List W × List W → M (List W × List W)} (h : ∀ {a b}, LeR a b → ∀ q, MLe (m a q) (m' b q)) : DLe { d := m } { d := m' } := ⟨fun _ => MLe.no, fun _ => MLe.no, h, fun _ => MLe.no⟩
theorem DLe.ofI {m m' : Rho → M (List W × List (Nat × Ob))} (h : ∀ {a b}, LeR a b → MLe (m a) (m' b)) : DLe { it := m } { it := m' } := ⟨fun _ => MLe.no, fun _ => MLe.no, fun _ _ => MLe.no, h⟩
theorem comp_le {α : Type} {src : List (Nat × Ob)} {f f' : W → M (List α)} (hf : ∀ x, MLe (f x) (f' x)) : ∀ xs : List W, MLe (compL src f xs) (compL src f' xs)
  | [] => MLe.refl _
  | x :: xs => by
    intro S r h
    simp only [compL] at h ⊢
    split at h
    · rename_i hs
      rw [if_pos hs]
      split at h
      · rename_i ys S1 e1
        rw [hf x S _ e1]
        simp only
        split at h
        · rename_i zs S2 e2
          rw [comp_le hf xs S1 _ e2]
          exact h
        · cases h
      · cases h
    · cases h
theorem dcl_le {src : List (Nat × Ob)} {f f' : W → M (Option (W × W))} (hf : ∀ x, MLe (f x) (f' x)) : ∀ (xs : List W) (q : List W × List W), MLe (dcL src f xs q) (dcL src f' xs q)
  | [], q => MLe.refl _
  | x :: xs, q => by
    intro S r h
    simp only [dcL] at h ⊢
    split at h
    · rename_i hs
      rw [if_pos hs]
      split at h
      · rename_i k v S1 e1
        rw [hf x S _ e1]
        simp only
        split at h
        · rename_i hk
          rw [if_pos hk]
          exact dcl_le hf xs _ S1 r h
        · cases h
      · rename_i S1 e1
        rw [hf x S _ e1]
        exact dcl_le hf xs q S1 r h
      · cases h
    · cases h
theorem turn_le {t : P} {vs : List Nat} {a b : Rho} {c e c' e' : Dn} (h : LeR a b) (hc : DLe c c') (he : DLe e e') (x : W) : MLe (turnOf t vs a c e x) (turnOf t vs b c' e' x) := by
  intro S r hh
  unfold turnOf at hh ⊢
  split at hh
  · rename_i a' e1
    obtain ⟨b', e2, h2⟩ := put_le t x _ _ a' (h.wipe vs) e1
    rw [e2]
    simp only
    split at hh
    · rename_i S1 e3
      rw [(hc.v h2).truth S _ e3]
      simp only
      split at hh
      · rename_i w S2 e4
        rw [he.v h2 S1 _ e4]; exact hh
      · cases hh
    · rename_i S1 e3
      rw [(hc.v h2).truth S _ e3]; exact hh
    · cases hh
  · cases hh
theorem turnD_le {t : P} {vs : List Nat} {a b : Rho} {c k v c' k' v' : Dn} (h : LeR a b) (hc : DLe c c') (hk : DLe k k') (hv : DLe v v') (x : W) : MLe (turnD t vs a c k v x) (turnD t vs b c' k' v' x) := by
  intro S r hh
  unfold turnD at hh ⊢
  split at hh
  · rename_i a' e1
    obtain ⟨b', e2, h2⟩ := put_le t x _ _ a' (h.wipe vs) e1
    rw [e2]
    simp only
    split at hh
    · rename_i S1 e3
      rw [(hc.v h2).truth S _ e3]
      simp only
      split at hh
      · rename_i w S2 e4
        rw [hk.v h2 S1 _ e4]
        simp only
        split at hh
        · rename_i w' S3 e5
          rw [hv.v h2 S2 _ e5]; exact hh
        · cases hh
      · cases hh
    · rename_i S1 e3
      rw [(hc.v h2).truth S _ e3]; exact hh
    · cases hh
  · cases hh
theorem turn2_le {t t1 : P} {vs vs1 : List Nat} {a b : Rho} {c it1 c1 e c' it1' c1' e' : Dn} (h : LeR a b) (hc : DLe c c') (hi : DLe it1 it1') (hc1 : DLe c1 c1') (he : DLe e e') (x : W) : MLe (turn2 t vs vs1 a c t1 it1 c1 e x) (turn2 t vs vs1 b c' t1 it1' c1' e' x) := by
  intro S r hh
  unfold turn2 at hh ⊢
  split at hh
  · rename_i a' e1
    obtain ⟨b', e2, h2⟩ := put_le t x _ _ a' (h.wipe vs) e1
    rw [e2]
    simp only
    split at hh
    · rename_i S1 e3
      rw [(hc.v h2).truth S _ e3]
      simp only
      split at hh
      · rename_i xs src S2 e4
        rw [hi.it h2 S1 _ e4]
        exact comp_le (fun y => turn_le h2 hc1 he y) xs S2 r hh
      · cases hh
    · rename_i S1 e3
      rw [(hc.v h2).truth S _ e3]; exact hh
    · cases hh
  · cases hh
section
variable {gc : Nat → W} {cf cf' : Nat → List W → M W}
theorem rho_le {a b : Rho} (h : LeR a b) (i : Nat) : MLe (rhoAt i a) (rhoAt i b) := by
  intro S r hh
  unfold rhoAt at hh ⊢
  split at hh
  · rename_i w e
    rw [h.2 i w e]; exact hh
  · cases hh
theorem sortKey_le (hcf : ∀ f ws, MLe (cf f ws) (cf' f ws)) (f : Nat) : ∀ (ws : List W) (S : Sto) (ks : List W), sortKey cf f ws S = some ks → sortKey cf' f ws S = some ks
  | [], S, ks, h => h
  | w :: ws, S, ks, h => by
    simp only [sortKey] at h ⊢
    split at h
    · rename_i k S1 e1
      rw [hcf f [w] S _ e1]
      simp only
      split at h
      · rename_i hS
        rw [if_pos hS]
        split at h
        · rename_i ks1 e2
          rw [sortKey_le hcf f ws S _ e2]
          exact h
        · cases h
      · cases h
    · cases h
theorem wSortKey_le (hcf : ∀ f ws, MLe (cf f ws) (cf' f ws)) (f : Nat) (x : W) : MLe (wSortKey cf f x) (wSortKey cf' f x) := by
  intro S r h
  unfold wSortKey at h ⊢
  split at h
  · rename_i ws e1
    split at h
    · rename_i ks e2
      rw [sortKey_le hcf f ws S _ e2]
      exact h
    · cases h
  · cases h
theorem den_le (hcf : ∀ f ws, MLe (cf f ws) (cf' f ws)) : ∀ e : E, DLe (den gc cf e) (den gc cf' e) := by
  intro e
  induction e with
  | var i => exact .ofV fun h => rho_le h i
  | non => exact .ofV fun h => MLe.refl _
  | bl b => exact .ofV fun h => MLe.refl _
  | int b => exact .ofV fun h => MLe.refl _
  | str b => exact .ofV fun h => MLe.refl _
  | gcon i => exact .ofV fun h => MLe.refl _
  | gfn f => exact .ofV fun h => MLe.refl _
  | nil => exact .ofA fun h => MLe.refl _
  | cons e es h1 h2 => exact .ofA fun h => (h1.v h).bind fun w => (h2.a h).bind fun ws => MLe.refl _
  | star e es h1 h2 => exact .ofA fun h => (h1.v h).bind fun w => (MLe.refl _).bind fun us => (h2.a h).bind fun ws => MLe.refl _
  | tup es h1 => exact .ofV fun h => (h1.a h).bind fun ws => MLe.refl _
  | lst es h1 => exact .ofV fun h => (h1.a h).bind fun ws => MLe.refl _
  | dnil => exact .ofD fun h q => MLe.refl _
  | dpair k v ds h1 h2 h3 => exact .ofD fun h q => (h1.v h).bind fun x => (h2.v h).bind fun y => (MLe.refl _).bind fun _ => h3.d h _
  | dstar e ds h1 h2 => exact .ofD fun h q => (h1.v h).bind fun x => (MLe.refl _).bind fun r => (MLe.refl _).bind fun _ => h2.d h _
  | dct ds h1 => exact .ofV fun h => (h1.d h ([], [])).bind fun q => MLe.refl _
  | and a b h1 h2 => exact .ofV fun h => (h1.v h).truth.bind fun c => by cases c; exact MLe.refl _; exact h2.v h
  | or a b h1 h2 => exact .ofV fun h => (h1.v h).truth.bind fun c => by cases c; exact h2.v h; exact MLe.refl _
  | not a h1 => exact .ofV fun h => (h1.v h).truth.bind fun c => MLe.refl _
  | ifx c a b h1 h2 h3 => exact .ofV fun h => (h1.v h).truth.bind fun c => by cases c; exact h3.v h; exact h2.v h
  | cmp o a b h1 h2 => exact .ofV fun h => (h1.v h).bind fun x => (h2.v h).bind fun y => MLe.refl _
  | chain o q a b c h1 h2 h3 => exact .ofV fun h => (h1.v h).bind fun x => (h2.v h).bind fun y => (MLe.refl _).bind fun c1 => by cases c1; exact MLe.refl _; exact (h3.v h).bind fun z => MLe.refl _
  | isn a h1 => exact .ofV fun h => (h1.v h).bind fun x => MLe.refl _
  | notn a h1 => exact .ofV fun h => (h1.v h).bind fun x => MLe.refl _
  | isb a b h1 => exact .ofV fun h => (h1.v h).bind fun x => MLe.refl _
  | bin o a b h1 h2 => exact .ofV fun h => (h1.v h).bind fun x => (h2.v h).bind fun y => MLe.refl _
  | ix a i h1 h2 => exact .ofV fun h => (h1.v h).bind fun x => (h2.v h).bind fun y => MLe.refl _
  | slc a lo hi h1 h2 h3 => exact .ofV fun h => (h1.v h).bind fun x => (h2.v h).bind fun l => (h3.v h).bind fun h => MLe.refl _
  | rev a h1 => exact .ofV fun h => (h1.v h).bind fun x => MLe.refl _
  | call f es h1 => exact .ofV fun h => (h1.a h).bind fun ws => hcf f ws
  | callv i es h1 => exact .ofV fun h => (rho_le h i).bind fun x => (h1.a h).bind fun ws => by cases x <;> first | exact hcf _ ws | exact MLe.refl _
  | blt b es h1 => exact .ofV fun h => (h1.a h).bind fun ws => MLe.refl _
  | skey a f h1 => exact .ofV fun h => (h1.v h).bind fun x => wSortKey_le hcf f x
  | mth m a es h1 h2 => exact .ofV fun h => (h1.v h).bind fun x => (MLe.refl _).bind fun _ => (h2.a h).bind fun ws => MLe.refl _
  | isi k a h1 => exact .ofV fun h => (h1.v h).bind fun x => MLe.refl _
  | lc vs t it c e h1 h2 h3 => exact .ofV fun h => (h1.it h).bind fun q => (comp_le (fun y => turn_le h h2 h3 y) q.1).bind fun ws => MLe.refl _
  | lc2 vs vs1 t it c t1 it1 c1 e h1 h2 h3 h4 h5 => exact .ofV fun h => (h1.it h).bind fun q => (comp_le (fun y => turn2_le h h2 h3 h4 h5 y) q.1).bind fun ws => MLe.refl _
  | dc vs t it c k v h1 h2 h3 h4 => exact .ofV fun h => (h1.it h).bind fun q => (dcl_le (fun y => turnD_le h h2 h3 h4 y) q.1 ([], [])).bind fun r => MLe.refl _
  | iter a h1 => exact .ofI fun h => (h1.v h).bind fun x => MLe.refl _
  | rng1 a h1 => exact .ofI fun h => (h1.v h).bind fun x => MLe.refl _
  | rng2 a b h1 h2 => exact .ofI fun h => (h1.v h).bind fun x => (h2.v h).bind fun y => MLe.refl _
  | enum a h1 => exact .ofI fun h => (h1.v h).bind fun x => MLe.refl _
  | zip a b h1 h2 => exact .ofI fun h => (h1.v h).bind fun x => (h2.v h).bind fun y => MLe.refl _
  | items a h1 => exact .ofI fun h => (h1.v h).bind fun x => MLe.refl _
mutual
theorem tput_le (hcf : ∀ f ws, MLe (cf f ws) (cf' f ws)) : ∀ (t : T) (w : W) (a b a' : Rho) (S S' : Sto), LeR a b → T.put gc cf t w a S = some (a', S') → ∃ b', T.put gc cf' t w b S = some (b', S') ∧ LeR a' b'
  | .nm i, w, a, b, a', S, S', h, e => by
    simp only [T.put] at e ⊢
    cases e
    exact ⟨_, rfl, h.set i _⟩
  | .tp ps, w, a, b, a', S, S', h, e => by
    cases w with
    | tup ws => simp only [T.put] at e ⊢; exact tputs_le hcf ps ws a b a' S S' h e
    | _ => simp [T.put] at e
  | .sub o i, w, a, b, a', S, S', h, e => by
    simp only [T.put] at e ⊢
    split at e
    · rename_i ow S1 e1
      split at e
      · rename_i iw S2 e2
        split at e
        · rename_i u S3 e3
          cases e
          rw [(den_le hcf o).v h S _ e1]; simp only
          rw [(den_le hcf i).v h S1 _ e2]; simp only
          rw [e3]
          exact ⟨b, rfl, h⟩
        · cases e
      · cases e
    · cases e
  | .nil, w, a, b, a', S, S', h, e => by simp [T.put] at e
  | .cons _ _, w, a, b, a', S, S', h, e => by simp [T.put] at e
theorem tputs_le (hcf : ∀ f ws, MLe (cf f ws) (cf' f ws)) : ∀ (t : T) (ws : List W) (a b a' : Rho) (S S' : Sto), LeR a b → T.puts gc cf t ws a S = some (a', S') → ∃ b', T.puts gc cf' t ws b S = some (b', S') ∧ LeR a' b'
  | .nil, ws, a, b, a', S, S', h, e => by
    cases ws with
    | nil => simp only [T.puts] at e ⊢; cases e; exact ⟨_, rfl, h⟩
    | cons w ws => simp [T.puts] at e
  | .cons t ts, ws, a, b, a', S, S', h, e => by
    cases ws with
    | nil => simp [T.puts] at e
    | cons w ws =>
      simp only [T.puts] at e ⊢
      split at e
      · rename_i a1 S1 e1
        obtain ⟨b1, h1, h2⟩ := tput_le hcf t w a b a1 S S1 h e1
        rw [h1]
        exact tputs_le hcf ts ws a1 b1 a' S1 S' h2 e
      · cases e
  | .nm _, ws, a, b, a', S, S', h, e => by cases ws <;> simp [T.puts] at e
  | .tp _, ws, a, b, a', S, S', h, e => by cases ws <;> simp [T.puts] at e
  | .sub _ _, ws, a, b, a', S, S', h, e => by cases ws <;> simp [T.puts] at e
end
def RLe (f f' : Rho → Sto → Option (Fl × Rho × Sto)) : Prop := ∀ a b S fl a' S', LeR a b → f a S = some (fl, a', S') → ∃ b', f' b S = some (fl, b', S') ∧ LeR a' b'
theorem forL_le {src : List (Nat × Ob)} {t : P} {f f' : Rho → Sto → Option (Fl × Rho × Sto)} (hf : RLe f f') : ∀ xs : List W, RLe (forL src t f xs) (forL src t f' xs)
  | [] => by
    intro a b S fl a' S' h e
    simp only [forL] at e ⊢
    split at e
    · rename_i hs
      cases e
      rw [if_pos hs]
      exact ⟨b, rfl, h⟩
    · cases e
  | x :: xs => by
    intro a b S fl a' S' h e
    simp only [forL] at e ⊢
    split at e
    · rename_i hs
      rw [if_pos hs]
      split at e
      · rename_i a1 e1
        obtain ⟨b1, h1, h2⟩ := put_le t x a b a1 h e1
        rw [h1]
        simp only
        split at e
        · rename_i a2 S2 e2
          obtain ⟨b2, h3, h4⟩ := hf a1 b1 S _ a2 S2 h2 e2
          rw [h3]
          exact forL_le hf xs a2 b2 S2 fl a' S' h4 e
        · rename_i a2 S2 e2
          obtain ⟨b2, h3, h4⟩ := hf a1 b1 S _ a2 S2 h2 e2
          rw [h3]
          exact forL_le hf xs a2 b2 S2 fl a' S' h4 e
        · rename_i a2 S2 e2
          cases e
          obtain ⟨b2, h3, h4⟩ := hf a1 b1 S _ _ _ h2 e2
          rw [h3]
          exact ⟨b2, rfl, h4⟩
        · rename_i w a2 S2 e2
          cases e
          obtain ⟨b2, h3, h4⟩ := hf a1 b1 S _ _ _ h2 e2
          rw [h3]
          exact ⟨b2, rfl, h4⟩
        · cases e
      · cases e
    · cases e
theorem whileL_le {c c' : Rho → M Bool} {f f' : Rho → Sto → Option (Fl × Rho × Sto)} (hc : ∀ {a b}, LeR a b → MLe (c a) (c' b)) (hf : RLe f f') : ∀ n : Nat, RLe (whileL c f n) (whileL c' f' n)
  | 0 => by intro a b S fl a' S' h e; simp [whileL] at e
  | n + 1 => by
    intro a b S fl a' S' h e
    simp only [whileL] at e ⊢
    split at e
    · rename_i S1 e1
      rw [hc h S _ e1]
      simp only
      split at e
      · rename_i a2 S2 e2
        obtain ⟨b2, h3, h4⟩ := hf a b S1 _ a2 S2 h e2
        rw [h3]
        exact whileL_le hc hf n a2 b2 S2 fl a' S' h4 e
      · rename_i a2 S2 e2
        obtain ⟨b2, h3, h4⟩ := hf a b S1 _ a2 S2 h e2
        rw [h3]
        exact whileL_le hc hf n a2 b2 S2 fl a' S' h4 e
      · rename_i a2 S2 e2
        cases e
        obtain ⟨b2, h3, h4⟩ := hf a b S1 _ _ _ h e2
        rw [h3]
        exact ⟨b2, rfl, h4⟩
      · rename_i w a2 S2 e2
        cases e
        obtain ⟨b2, h3, h4⟩ := hf a b S1 _ _ _ h e2
        rw [h3]
        exact ⟨b2, rfl, h4⟩
      · cases e
    · rename_i S1 e1
      cases e
      rw [hc h S _ e1]
      exact ⟨b, rfl, h⟩
    · cases e
theorem run_le (hcf : ∀ f ws, MLe (cf f ws) (cf' f ws)) : ∀ c : C, RLe (run gc cf c) (run gc cf' c) := by
  intro c
  induction c with
  | skip => intro a b S fl a' S' h e; simp only [run] at e ⊢; cases e; exact ⟨b, rfl, h⟩
  | brk => intro a b S fl a' S' h e; simp only [run] at e ⊢; cases e; exact ⟨b, rfl, h⟩
  | cont => intro a b S fl a' S' h e; simp only [run] at e ⊢; cases e; exact ⟨b, rfl, h⟩
  | seq x y h1 h2 =>
    intro a b S fl a' S' h e
    simp only [run] at e ⊢
    split at e
    · rename_i a1 S1 e1
      obtain ⟨b1, h3, h4⟩ := h1 a b S _ a1 S1 h e1
      rw [h3]
      exact h2 a1 b1 S1 fl a' S' h4 e
    · rename_i hno
      obtain ⟨b1, h3, h4⟩ := h1 a b S fl a' S' h e
      rw [h3]
      cases fl with
      | nx => exact absurd e (hno _ _)
      | brk => exact ⟨b1, rfl, h4⟩
      | cont => exact ⟨b1, rfl, h4⟩
      | ret w => exact ⟨b1, rfl, h4⟩
  | expr x =>
    intro a b S fl a' S' h e
    simp only [run] at e ⊢
    split at e
    · rename_i w S1 e1
      cases e
      rw [(den_le hcf x).v h S _ e1]
      exact ⟨b, rfl, h⟩
    · cases e
  | asg t x =>
    intro a b S fl a' S' h e
    simp only [run] at e ⊢
    split at e
    · rename_i w S1 e1
      rw [(den_le hcf x).v h S _ e1]
      simp only
      split at e
      · rename_i a2 S2 e2
        cases e
        obtain ⟨b2, h3, h4⟩ := tput_le hcf t w a b _ S1 _ h e2
        rw [h3]
        exact ⟨b2, rfl, h4⟩
      · cases e
    · cases e
  | aug i o x =>
    intro a b S fl a' S' h e
    simp only [run] at e ⊢
    split at e
    · rename_i v hv
      rw [h.2 i v hv]
      simp only
      split at e
      · rename_i y S1 e1
        rw [(den_le hcf x).v h S _ e1]
        simp only
        split at e
        · rename_i w S2 e2
          cases e
          exact ⟨_, rfl, h.set i _⟩
        · cases e
      · cases e
    · cases e
  | ite c x y h1 h2 =>
    intro a b S fl a' S' h e
    simp only [run] at e ⊢
    split at e
    · rename_i S1 e1
      rw [((den_le hcf c).v h).truth S _ e1]
      exact h1 a b S1 fl a' S' h e
    · rename_i S1 e1
      rw [((den_le hcf c).v h).truth S _ e1]
      exact h2 a b S1 fl a' S' h e
    · cases e
  | whl c x h1 =>
    intro a b S fl a' S' h e
    simp only [run] at e ⊢
    exact whileL_le (fun h => ((den_le hcf c).v h).truth) h1 turns a b S fl a' S' h e
  | for_ t it x h1 =>
    intro a b S fl a' S' h e
    simp only [run] at e ⊢
    split at e
    · rename_i xs src S1 e1
      rw [(den_le hcf it).it h S _ e1]
      exact forL_le h1 xs a b S1 fl a' S' h e
    · cases e
  | ret x =>
    intro a b S fl a' S' h e
    simp only [run] at e ⊢
    split at e
    · rename_i w S1 e1
      cases e
      rw [(den_le hcf x).v h S _ e1]
      exact ⟨b, rfl, h⟩
    · cases e
end
end TS

set_option Elab.async false
set_option linter.all false
set_option maxRecDepth 100000
set_option maxHeartbeats 2000000
/-! A33: a slot that no statement writes stays. -/
namespace TS
open PySem
def P.wr (i : Nat) : P → Bool
  | .nm j => i == j
  | .tp p => p.wr i
  | .nil => false
  | .cons p q => p.wr i || q.wr i
def T.wr (i : Nat) : T → Bool
  | .nm j => i == j
  | .tp p => p.wr i
  | .nil => false
  | .cons p q => p.wr i || q.wr i
  | .sub _ _ => false
def C.wr (i : Nat) : C → Bool
  | .asg t _ => t.wr i
  | .aug j _ _ => i == j
  | .seq a b => a.wr i || b.wr i
  | .ite _ a b => a.wr i || b.wr i
  | .whl _ b => b.wr i
  | .for_ t _ b => t.wr i || b.wr i
  | _ => false
mutual
theorem put_keep {i : Nat} : ∀ (t : P) (w : W) (a a' : Rho), t.wr i = false → P.put t w a = some a' → a'[i]? = a[i]?
  | .nm j, w, a, a', h, e => by
    simp only [P.put] at e
    cases e
    have hj : ¬ i = j := by simpa [P.wr] using h
    exact List.getElem?_set_ne (fun x => hj x.symm)
  | .tp ps, w, a, a', h, e => by
    cases w with
    | tup ws => simp only [P.put] at e; exact puts_keep ps ws a a' h e
    | _ => simp [P.put] at e
  | .nil, w, a, a', h, e => by simp [P.put] at e
  | .cons _ _, w, a, a', h, e => by simp [P.put] at e
theorem puts_keep {i : Nat} : ∀ (t : P) (ws : List W) (a a' : Rho), t.wr i = false → P.puts t ws a = some a' → a'[i]? = a[i]?
  | .nil, ws, a, a', h, e => by
    cases ws with
    | nil => simp only [P.puts] at e; cases e; rfl
    | cons w ws => simp [P.puts] at e
  | .cons t ts, ws, a, a', h, e => by
    cases ws with
    | nil => simp [P.puts] at e
    | cons w ws =>
      simp only [P.puts] at e
      have h : (t.wr i || ts.wr i) = false := h
      rw [Bool.or_eq_false_iff] at h
      split at e
      · rename_i a1 e1
        rw [puts_keep ts ws a1 a' h.2 e, put_keep t w a a1 h.1 e1]
      · cases e
  | .nm _, ws, a, a', h, e => by cases ws <;> simp [P.puts] at e
  | .tp _, ws, a, a', h, e => by cases ws <;> simp [P.puts] at e
end
section
variable {gc : Nat → W} {cf : Nat → List W → M W}
mutual
theorem tput_keep {i : Nat} : ∀ (t : T) (w : W) (a a' : Rho) (S S' : Sto), t.wr i = false → T.put gc cf t w a S = some (a', S') → a'[i]? = a[i]?
  | .nm j, w, a, a', S, S', h, e => by
    simp only [T.put] at e
    cases e
    have hj : ¬ i = j := by simpa [T.wr] using h
    exact List.getElem?_set_ne (fun x => hj x.symm)
  | .tp ps, w, a, a', S, S', h, e => by
    cases w with
    | tup ws => simp only [T.put] at e; exact tputs_keep ps ws a a' S S' h e
    | _ => simp [T.put] at e
  | .sub o k, w, a, a', S, S', h, e => by
    simp only [T.put] at e
    split at e
    · split at e
      · split at e
        · cases e; rfl
        · cases e
      · cases e
    · cases e
  | .nil, w, a, a', S, S', h, e => by simp [T.put] at e
  | .cons _ _, w, a, a', S, S', h, e => by simp [T.put] at e
theorem tputs_keep {i : Nat} : ∀ (t : T) (ws : List W) (a a' : Rho) (S S' : Sto), t.wr i = false → T.puts gc cf t ws a S = some (a', S') → a'[i]? = a[i]?
  | .nil, ws, a, a', S, S', h, e => by
    cases ws with
    | nil => simp only [T.puts] at e; cases e; rfl
    | cons w ws => simp [T.puts] at e
  | .cons t ts, ws, a, a', S, S', h, e => by
    cases ws with
    | nil => simp [T.puts] at e
    | cons w ws =>
      simp only [T.puts] at e
      have h : (t.wr i || ts.wr i) = false := h
      rw [Bool.or_eq_false_iff] at h
      split at e
      · rename_i a1 S1 e1
        rw [tputs_keep ts ws a1 a' S1 S' h.2 e, tput_keep t w a a1 S S1 h.1 e1]
      · cases e
  | .nm _, ws, a, a', S, S', h, e => by cases ws <;> simp [T.puts] at e
  | .tp _, ws, a, a', S, S', h, e => by cases ws <;> simp [T.puts] at e
  | .sub _ _, ws, a, a', S, S', h, e => by cases ws <;> simp [T.puts] at e
end
def RKe (i : Nat) (f : Rho → Sto → Option (Fl × Rho × Sto)) : Prop := ∀ a S fl a' S', f a S = some (fl, a', S') → a'[i]? = a[i]?
theorem forL_keep {i : Nat} {src : List (Nat × Ob)} {t : P} {f : Rho → Sto → Option (Fl × Rho × Sto)} (ht : t.wr i = false) (hf : RKe i f) : ∀ xs : List W, RKe i (forL src t f xs)
  | [] => by
    intro a S fl a' S' e
    simp only [forL] at e
    split at e
    · cases e; rfl
    · cases e
  | x :: xs => by
    intro a S fl a' S' e
    simp only [forL] at e
    split at e
    · split at e
      · rename_i a1 e1
        have k1 := put_keep t x a a1 ht e1
        split at e
        · rename_i a2 S2 e2
          rw [forL_keep ht hf xs a2 S2 fl a' S' e, hf a1 S _ a2 S2 e2, k1]
        · rename_i a2 S2 e2
          rw [forL_keep ht hf xs a2 S2 fl a' S' e, hf a1 S _ a2 S2 e2, k1]
        · rename_i a2 S2 e2
          cases e
          rw [hf a1 S _ _ _ e2, k1]
        · rename_i w a2 S2 e2
          cases e
          rw [hf a1 S _ _ _ e2, k1]
        · cases e
      · cases e
    · cases e
theorem whileL_keep {i : Nat} {c : Rho → M Bool} {f : Rho → Sto → Option (Fl × Rho × Sto)} (hf : RKe i f) : ∀ n : Nat, RKe i (whileL c f n)
  | 0 => by intro a S fl a' S' e; simp [whileL] at e
  | n + 1 => by
    intro a S fl a' S' e
    simp only [whileL] at e
    split at e
    · rename_i S1 e1
      split at e
      · rename_i a2 S2 e2
        rw [whileL_keep hf n a2 S2 fl a' S' e, hf a S1 _ a2 S2 e2]
      · rename_i a2 S2 e2
        rw [whileL_keep hf n a2 S2 fl a' S' e, hf a S1 _ a2 S2 e2]
      · rename_i a2 S2 e2
        cases e
        exact hf a S1 _ _ _ e2
      · rename_i w a2 S2 e2
        cases e
        exact hf a S1 _ _ _ e2
      · cases e
    · cases e; rfl
    · cases e
theorem run_keep {i : Nat} : ∀ c : C, c.wr i = false → RKe i (run gc cf c) := by
  intro c
  induction c with
  | skip => intro hw a S fl a' S' e; simp only [run] at e; cases e; rfl
  | brk => intro hw a S fl a' S' e; simp only [run] at e; cases e; rfl
  | cont => intro hw a S fl a' S' e; simp only [run] at e; cases e; rfl
  | seq x y h1 h2 =>
    intro hw a S fl a' S' e
    have hw : (x.wr i || y.wr i) = false := hw
    rw [Bool.or_eq_false_iff] at hw
    simp only [run] at e
    split at e
    · rename_i a1 S1 e1
      rw [h2 hw.2 a1 S1 fl a' S' e, h1 hw.1 a S _ a1 S1 e1]
    · exact h1 hw.1 a S fl a' S' e
  | expr x =>
    intro hw a S fl a' S' e
    simp only [run] at e
    split at e
    · cases e; rfl
    · cases e
  | asg t x =>
    intro hw a S fl a' S' e
    simp only [run] at e
    split at e
    · rename_i w S1 e1
      split at e
      · rename_i a2 S2 e2
        cases e
        exact tput_keep t w a _ S1 _ hw e2
      · cases e
    · cases e
  | aug j o x =>
    intro hw a S fl a' S' e
    have hj : ¬ i = j := by simpa [C.wr] using hw
    simp only [run] at e
    split at e
    · split at e
      · split at e
        · cases e
          exact List.getElem?_set_ne (fun x => hj x.symm)
        · cases e
      · cases e
    · cases e
  | ite c x y h1 h2 =>
    intro hw a S fl a' S' e
    have hw : (x.wr i || y.wr i) = false := hw
    rw [Bool.or_eq_false_iff] at hw
    simp only [run] at e
    split at e
    · exact h1 hw.1 a _ fl a' S' e
    · exact h2 hw.2 a _ fl a' S' e
    · cases e
  | whl c x h1 =>
    intro hw a S fl a' S' e
    simp only [run] at e
    exact whileL_keep (h1 hw) turns a S fl a' S' e
  | for_ t it x h1 =>
    intro hw a S fl a' S' e
    have hw : (t.wr i || x.wr i) = false := hw
    rw [Bool.or_eq_false_iff] at hw
    simp only [run] at e
    split at e
    · exact forL_keep hw.1 (h1 hw.2) _ a _ fl a' S' e
    · cases e
  | ret x =>
    intro hw a S fl a' S' e
    simp only [run] at e
    split at e
    · cases e; rfl
    · cases e
end
end TS

set_option Elab.async false
set_option linter.all false
set_option maxRecDepth 100000
set_option maxHeartbeats 0
namespace L_k11
open PySem PySem.Spec PyProof.Rows L2 TS
def top (i : Nat) : Stmt := PySem.Challenge.pw_threeshelves_k11_whole_fewest_moves.main.body.getD i (.Pass ⟨0, 0, 0, 0⟩)
def n_own_done : List Str := ["places", "command", "here", "there", "stage", "work"]
def d_own_done : Def := { ps := 2, rest := false, slots := 6, keep := false, body :=
  (.seq (.asg (.tp (.cons (.nm 2) (.cons (.nm 3) (.cons (.nm 4) (.cons (.nm 5) .nil))))) (.var 0))
  (.seq (.ite (.cmp .eq (.ix (.var 1) (.int 0)) (.str "write"))
  (.ret (.tup (.cons (.var 2) (.cons (.var 3) (.cons (.var 4) (.cons (.ix (.var 1) (.int 2)) .nil))))))
  .skip)
  (.seq (.ite (.cmp .eq (.ix (.var 1) (.int 0)) (.str "add"))
  (.ret (.tup (.cons (.var 2) (.cons (.var 3) (.cons (.var 5) (.cons (.var 5) .nil))))))
  .skip)
  (.seq (.ite (.cmp .eq (.ix (.var 1) (.int 0)) (.str "unstage"))
  (.ret (.tup (.cons (.var 2) (.cons (.var 3) (.cons (.ix (.var 2) (.int (-1))) (.cons (.var 5) .nil))))))
  .skip)
  (.ret (.tup (.cons (.var 2) (.cons (.var 3) (.cons (.var 4) (.cons (.var 4) .nil)))))))))) }
def n_fewest_moves : List Str := ["places", "wish", "last", "seen", "steps", "later", "own", "word", "new"]
def d_fewest_moves : Def := { ps := 2, rest := false, slots := 9, keep := false, body :=
  (.seq (.asg (.nm 2) (.lst (.cons (.tup (.cons (.tup (.cons (.ix (.var 0) (.int 0)) .nil)) (.cons (.tup (.cons .non .nil)) (.cons (.ix (.var 0) (.int 1)) (.cons (.ix (.var 0) (.int 2)) .nil))))) .nil)))
  (.seq (.asg (.tp (.cons (.nm 3) (.cons (.nm 4) .nil))) (.tup (.cons (.dct (.dpair (.ix (.var 2) (.int 0)) (.int 0) .dnil)) (.cons (.int 0) .nil))))
  (.seq (.whl (.cmp .ne (.var 2) (.lst .nil))
  (.seq (.asg (.tp (.cons (.nm 5) (.cons (.nm 4) .nil))) (.tup (.cons (.lst .nil) (.cons (.bin .add (.var 4) (.int 1)) .nil))))
  (.seq (.for_ (.nm 6) (.iter (.var 2))
  (.for_ (.nm 7) (.iter (.tup (.cons (.str "add") (.cons (.str "unstage") (.cons (.str "restore") .nil)))))
  (.seq (.asg (.nm 8) (.call 2 (.cons (.var 6) (.cons (.tup (.cons (.var 7) (.cons (.str "") .nil))) .nil))))
  (.ite (.cmp .ni (.var 8) (.var 3))
  (.seq (.asg (.sub (.var 3) (.var 8)) (.var 4))
  (.expr (.mth .append (.var 5) (.cons (.var 8) .nil))))
  .skip))))
  (.asg (.nm 2) (.var 5)))))
  (.ret (.mth .get1 (.var 3) (.cons (.tup (.cons (.tup (.cons (.ix (.var 0) (.int 0)) .nil)) (.cons (.tup (.cons .non .nil)) (.cons (.ix (.var 1) (.int 0)) (.cons (.ix (.var 1) (.int 1)) .nil))))) .nil)))))) }
def n_law_draw : List Str := ["tape", "many", "prime", "cell", "found"]
def d_law_draw : Def := { ps := 2, rest := false, slots := 5, keep := false, body :=
  (.seq (.asg (.nm 2) (.int 2305843009213693951))
  (.seq (.ite (.cmp .lt (.ix (.var 0) (.int 2)) (.var 1))
  (.seq (.asg (.nm 3) (.int 0))
  (.seq (.ite (.cmp .gt (.blt .len (.cons (.ix (.var 0) (.int 0)) .nil)) (.int 0))
  (.asg (.nm 3) (.ix (.ix (.var 0) (.int 0)) (.bin .mod (.ix (.var 0) (.int 1)) (.blt .len (.cons (.ix (.var 0) (.int 0)) .nil)))))
  .skip)
  (.seq (.ite (.or (.cmp .ge (.ix (.var 0) (.int 1)) (.blt .len (.cons (.ix (.var 0) (.int 0)) .nil))) (.cmp .lt (.var 3) (.bin .pow (.int 10) (.int 18))))
  (.seq (.asg (.nm 3) (.bin .mod (.bin .add (.var 3) (.bin .mul (.int 1000003) (.ix (.var 0) (.int 1)))) (.var 2)))
  (.seq (.asg (.nm 3) (.bin .mod (.bin .add (.bin .add (.bin .mul (.var 3) (.var 3)) (.bin .mul (.int 1181783497276652981) (.var 3))) (.int 2049848353892358983)) (.var 2)))
  (.asg (.nm 3) (.bin .mod (.bin .add (.bin .mul (.var 3) (.var 3)) (.int 1442695040888963407)) (.var 2)))))
  .skip)
  (.seq (.asg (.sub (.var 0) (.int 1)) (.bin .add (.ix (.var 0) (.int 1)) (.int 1)))
  (.asg (.sub (.var 0) (.int 2)) (.var 3))))))
  .skip)
  (.seq (.asg (.nm 4) (.bin .mod (.ix (.var 0) (.int 2)) (.var 1)))
  (.seq (.asg (.sub (.var 0) (.int 2)) (.bin .fdiv (.ix (.var 0) (.int 2)) (.var 1)))
  (.ret (.var 4)))))) }
def n_law_like : List Str := ["one", "two", "k"]
def d_law_like : Def := { ps := 2, rest := false, slots := 3, keep := false, body :=
  (.seq (.ite (.isi { list := true, tuple := true } (.var 0))
  (.seq (.ite (.or (.cmp .ne (.isi { list := true } (.var 0)) (.isi { list := true } (.var 1))) (.cmp .ne (.isi { tuple := true } (.var 0)) (.isi { tuple := true } (.var 1))))
  (.ret (.bl false))
  .skip)
  (.seq (.ite (.cmp .ne (.blt .len (.cons (.var 0) .nil)) (.blt .len (.cons (.var 1) .nil)))
  (.ret (.bl false))
  .skip)
  (.ret (.cmp .eq (.lc [2] (.nm 2) (.rng1 (.blt .len (.cons (.var 0) .nil))) (.not (.call 1 (.cons (.ix (.var 0) (.var 2)) (.cons (.ix (.var 1) (.var 2)) .nil)))) (.var 2)) (.lst .nil)))))
  .skip)
  (.seq (.ite (.isi { list := true, tuple := true } (.var 1))
  (.ret (.bl false))
  .skip)
  (.ret (.and (.cmp .eq (.isi { bool := true } (.var 0)) (.isi { bool := true } (.var 1))) (.cmp .eq (.var 0) (.var 1)))))) }
def n_law : List Str := ["script", "tape", "parts", "turn", "last", "stage", "work", "best", "rows", "many", "later", "first", "second", "row", "told"]
def d_law : Def := { ps := 1, rest := false, slots := 15, keep := false, body :=
  (.seq (.asg (.nm 1) (.lst (.cons (.blt .list (.cons (.var 0) .nil)) (.cons (.int 0) (.cons (.int 0) .nil)))))
  (.seq (.asg (.nm 2) (.lst (.cons .non (.cons (.int 5) (.cons (.int 0) (.cons (.bin .pow (.int 10) (.int 6)) .nil))))))
  (.seq (.for_ (.nm 3) (.rng1 (.int 6))
  (.seq (.asg (.tp (.cons (.nm 4) (.cons (.nm 5) (.cons (.nm 6) .nil)))) (.tup (.cons (.ix (.var 2) (.call 0 (.cons (.var 1) (.cons (.int 4) .nil)))) (.cons (.ix (.var 2) (.call 0 (.cons (.var 1) (.cons (.int 4) .nil)))) (.cons (.ix (.var 2) (.call 0 (.cons (.var 1) (.cons (.int 4) .nil)))) .nil)))))
  (.seq (.asg (.tp (.cons (.nm 7) (.cons (.nm 8) .nil))) (.tup (.cons (.dct (.dpair (.tup (.cons (.var 5) (.cons (.var 6) .nil))) (.int 0) .dnil)) (.cons (.lst (.cons (.tup (.cons (.var 5) (.cons (.var 6) .nil))) .nil)) .nil))))
  (.seq (.for_ (.nm 9) (.rng2 (.int 1) (.int 5))
  (.seq (.asg (.nm 10) (.lst .nil))
  (.seq (.for_ (.tp (.cons (.nm 11) (.cons (.nm 12) .nil))) (.iter (.var 8))
  (.asg (.nm 10) (.bin .add (.var 10) (.lst (.cons (.tup (.cons (.var 12) (.cons (.var 12) .nil))) (.cons (.tup (.cons (.var 4) (.cons (.var 12) .nil))) (.cons (.tup (.cons (.var 11) (.cons (.var 11) .nil))) .nil)))))))
  (.seq (.asg (.nm 8) (.var 10))
  (.for_ (.nm 13) (.iter (.var 8))
  (.asg (.sub (.var 7) (.var 13)) (.blt .min2 (.cons (.var 9) (.cons (.mth .get2 (.var 7) (.cons (.var 13) (.cons (.var 9) .nil))) .nil)))))))))
  (.for_ (.nm 11) (.iter (.bin .add (.var 2) (.lst (.cons (.int 7) .nil))))
  (.for_ (.nm 12) (.iter (.var 2))
  (.seq (.asg (.nm 14) (.call 3 (.cons (.tup (.cons (.var 4) (.cons (.var 5) (.cons (.var 6) .nil)))) (.cons (.tup (.cons (.var 11) (.cons (.var 12) .nil))) .nil))))
  (.ite (.not (.call 1 (.cons (.var 14) (.cons (.mth .get1 (.var 7) (.cons (.tup (.cons (.var 11) (.cons (.var 12) .nil))) .nil)) .nil))))
  (.ret (.bl false))
  .skip))))))))
  (.ret (.and (.cmp .eq (.call 3 (.cons (.tup (.cons (.int 1) (.cons (.int 2) (.cons (.int 3) .nil)))) (.cons (.tup (.cons (.int 1) (.cons (.int 2) .nil))) .nil))) (.int 2)) (.isn (.call 3 (.cons (.tup (.cons (.int 1) (.cons (.int 2) (.cons (.int 3) .nil)))) (.cons (.tup (.cons (.int 3) (.cons (.int 1) .nil))) .nil))))))))) }
def tab : List Fd := [⟨"own_done", top 1, n_own_done, 2, d_own_done⟩,
  ⟨"fewest_moves", top 3, n_fewest_moves, 3, d_fewest_moves⟩,
  ⟨"_law_draw", top 5, n_law_draw, 0, d_law_draw⟩,
  ⟨"_law_like", top 6, n_law_like, 1, d_law_like⟩,
  ⟨"law", top 7, n_law, 4, d_law⟩]
def glob : Glob := ⟨[], [("own_done", 2), ("fewest_moves", 3), ("_law_draw", 0), ("_law_like", 1), ("law", 4)]⟩
def defs : List He.DefD := [⟨("own_done", none), "own_done", "own_done", defArgs (top 1), defBody (top 1), defScope (top 1), [], []⟩,
  ⟨("fewest_moves", none), "fewest_moves", "fewest_moves", defArgs (top 3), defBody (top 3), defScope (top 3), [], []⟩,
  ⟨("_law_draw", none), "_law_draw", "_law_draw", defArgs (top 5), defBody (top 5), defScope (top 5), [], []⟩,
  ⟨("_law_like", none), "_law_like", "_law_like", defArgs (top 6), defBody (top 6), defScope (top 6), [], []⟩,
  ⟨("law", none), "law", "law", defArgs (top 7), defBody (top 7), defScope (top 7), [], []⟩]
def facts : List He.Fa := [.glo "own_done", .glo "fewest_moves", .glo "_law_draw", .glo "_law_like", .glo "law", .free "len", .free "list", .free "tuple", .free "sorted", .free "all", .free "any", .free "max", .free "min", .free "int", .free "str", .free "bool", .free "dict", .free "set", .free "isinstance", .free "range", .free "zip", .free "enumerate"]
theorem tab_ok : ∀ e ∈ tab, e.ok glob = true := by decide +kernel
abbrev R : PySem.W.OpenRow := PySem.W.OpenLaw.row PySem.Challenge.rw_threeshelves_k11_whole_fewest_moves
abbrev hk : PySem.W.Hook := He.hookD 4 facts defs
def ob (s : PySem.W.SharedT) : He.AlD := He.obsDG 4 facts defs (HandSHeadRun.getT s)
theorem ob_eq (s : PySem.W.SharedT) : ob s = hk.obs s.abs := He.obsDG_eq (HandSHeadRun.getT_eq s)
def names : List PySem.Str := ["own_done", "fewest_moves", "_law_draw", "_law_like"]
theorem run_ok (w : World) : HandSHeadRun.RunEq R (PySem.W.view R.prog [7]) hk ob 600 names w := by
  intro os
  kernel_rfl
variable {w : World} {K : PySem.W.Frag} {h : Heap} {mg : Str → Option Value}
theorem bnd_ok (c : He.SaysD facts defs K) : ∀ e ∈ tab, ∃ fd, FunD K e.x e.x (defArgs e.st) (defBody e.st) (defScope e.st) [] [] (He.fAd K (e.x, none)) fd ∧ Binds K fd (e.N.take e.d.ps) [] := by
  intro e he
  simp only [tab, List.mem_cons, List.not_mem_nil, or_false] at he
  rcases he with rfl | rfl | rfl | rfl | rfl
  · obtain ⟨fd, f⟩ := c.def_ 0 rfl
    exact ⟨fd, f, FunD.bindsN f fun _ _ _ _ _ _ us hl => match us, hl with | [_, _], _ => rfl⟩
  · obtain ⟨fd, f⟩ := c.def_ 1 rfl
    exact ⟨fd, f, FunD.bindsN f fun _ _ _ _ _ _ us hl => match us, hl with | [_, _], _ => rfl⟩
  · obtain ⟨fd, f⟩ := c.def_ 2 rfl
    exact ⟨fd, f, FunD.bindsN f fun _ _ _ _ _ _ us hl => match us, hl with | [_, _], _ => rfl⟩
  · obtain ⟨fd, f⟩ := c.def_ 3 rfl
    exact ⟨fd, f, FunD.bindsN f fun _ _ _ _ _ _ us hl => match us, hl with | [_, _], _ => rfl⟩
  · obtain ⟨fd, f⟩ := c.def_ 4 rfl
    exact ⟨fd, f, FunD.bindsN f fun _ _ _ _ _ _ us hl => match us, hl with | [_], _ => rfl⟩
theorem facts_ok (c : He.SaysD facts defs K) (X : K.In h) (G : h.Ns mainGlobals mg) (gc : Nat → W) : Facts w K mg glob gc tab := by
  refine ⟨bnd_ok c, tab_ok, fun x g e => by simp [glob] at e, fun x f _ e => ?_, fun x hx => ?_⟩
  · have hm := PySem.mem_of_lookup e
    simp only [glob, List.mem_cons, List.not_mem_nil, or_false, Prod.mk.injEq] at hm
    rcases hm with ⟨rfl, rfl⟩ | ⟨rfl, rfl⟩ | ⟨rfl, rfl⟩ | ⟨rfl, rfl⟩ | ⟨rfl, rfl⟩
    · exact ⟨_, He.glo_ok X G (c.fact 0 rfl), rfl⟩
    · exact ⟨_, He.glo_ok X G (c.fact 1 rfl), rfl⟩
    · exact ⟨_, He.glo_ok X G (c.fact 2 rfl), rfl⟩
    · exact ⟨_, He.glo_ok X G (c.fact 3 rfl), rfl⟩
    · exact ⟨_, He.glo_ok X G (c.fact 4 rfl), rfl⟩
  · simp only [bltNames, List.mem_cons, List.not_mem_nil, or_false] at hx
    rcases hx with rfl | rfl | rfl | rfl | rfl | rfl | rfl | rfl | rfl | rfl | rfl | rfl | rfl | rfl | rfl | rfl | rfl
    · exact He.free_ok X G (c.fact 5 rfl)
    · exact He.free_ok X G (c.fact 6 rfl)
    · exact He.free_ok X G (c.fact 7 rfl)
    · exact He.free_ok X G (c.fact 8 rfl)
    · exact He.free_ok X G (c.fact 9 rfl)
    · exact He.free_ok X G (c.fact 10 rfl)
    · exact He.free_ok X G (c.fact 11 rfl)
    · exact He.free_ok X G (c.fact 12 rfl)
    · exact He.free_ok X G (c.fact 13 rfl)
    · exact He.free_ok X G (c.fact 14 rfl)
    · exact He.free_ok X G (c.fact 15 rfl)
    · exact He.free_ok X G (c.fact 16 rfl)
    · exact He.free_ok X G (c.fact 17 rfl)
    · exact He.free_ok X G (c.fact 18 rfl)
    · exact He.free_ok X G (c.fact 19 rfl)
    · exact He.free_ok X G (c.fact 20 rfl)
    · exact He.free_ok X G (c.fact 21 rfl)
/-- the law, once what its def computes is told -/
theorem close (gc : Nat → W) (hl : ∀ ns : List Int, ns.length ≤ 63 → ∃ S', callF gc (tbOf tab) 30 4 [.lst (ns.map .int)] [] = some (.bl true, S')) : PySem.Challenge.rw_threeshelves_k11_whole_fewest_moves.Holds := by
  w_on; o_law
  refine HandSHeadRun.head_any (r := PySem.W.OpenLaw.row PySem.Challenge.rw_threeshelves_k11_whole_fewest_moves) (q := PySem.W.view (PySem.W.OpenLaw.row PySem.Challenge.rw_threeshelves_k11_whole_fewest_moves).prog [7]) (H := hk) (ob := ob) (M := 600) (loose := names) (d := HandSHeadRun.topDef (PySem.W.OpenLaw.row PySem.Challenge.rw_threeshelves_k11_whole_fewest_moves).prog 7) (kwd := []) ob_eq
    (by kernel_rfl) (fun s => by kernel_rfl) run_ok (by kernel_rfl) (by kernel_rfl) (by kernel_rfl) (by rfl) (by first | assumption | decide +kernel) (by decide +kernel) ⟨rfl, rfl, rfl, rfl, rfl, by decide +kernel⟩ ?hw ?hc
  case hw => w_witness2
  case hc =>
    refine L2.walk_ofE (l := PySem.Challenge.rw_threeshelves_k11_whole_fewest_moves) (n := 63) (k := 30) (x := "script") (CX := L2.CX0) rfl (by decide) (by kernel_rfl) ⟨rfl, by decide, by decide⟩ ?F (fun _ _ _ _ z => z)
    intro w mg fa h Y G hmg0
    obtain ⟨K, KX, c⟩ := Y
    have hmg : mg ("law" : PySem.Str) = some (.ref fa) := by
      have e : (HandSHeadRun.topDef (PySem.W.OpenLaw.row PySem.Challenge.rw_threeshelves_k11_whole_fewest_moves).prog 7).name = ("law" : PySem.Str) := by kernel_rfl
      rw [← e]
      exact hmg0
    have e0 := hmg.symm.trans (He.glo_ok KX G (c.fact 4 rfl))
    cases e0
    have F := facts_ok (w := w) c KX G gc
    obtain ⟨fd, fD⟩ := c.def_ 4 rfl
    have b := FunD.bindsA (ps := ["script"]) fD fun _ _ _ _ _ _ us hl => match us, hl with | [_], _ => rfl
    refine ⟨K, fd, spD w K (faOf K tab) (callF gc (tbOf tab) 30 4), KX, fun s v => b s [v] rfl, fun H a ns hn _ hS => ?_, fun base _ _ => ?_⟩
    · obtain ⟨S', h⟩ := hl ns hn
      exact law_sp h hS
    · exact fn_ok F (tbl_ok F 29) (e := ⟨"law", top 7, n_law, 4, d_law⟩) rfl fD
end L_k11

set_option Elab.async false
set_option linter.all false
set_option maxRecDepth 100000
set_option maxHeartbeats 4000000
namespace TS
open PySem
theorem bA {α β : Type} (m : M α) (f : α → M β) (S : Sto) : (m >>= f) S = (match m S with | some (a, S') => f a S' | none => none) := rfl
theorem pA {α : Type} (a : α) (S : Sto) : (pure a : M α) S = some (a, S) := rfl
theorem rA1 {α : Type} (a : α) (S : Sto) : M.ret a S = some (a, S) := rfl
theorem atOf_mod {ns : List Int} (h : 0 < ns.length) (i : Int) : ∃ v, atOf (ns.map W.int) (i % (ns.length : Int)) = some (.int v) := by
  have h1 := Int.emod_nonneg i (show (ns.length : Int) ≠ 0 by omega)
  have h2 := Int.emod_lt_of_pos i (show (0 : Int) < (ns.length : Int) by omega)
  have h3 : (i % (ns.length : Int)).toNat < ns.length := by omega
  refine ⟨ns[(i % (ns.length : Int)).toNat], ?_⟩
  unfold atOf ixOf
  rw [List.length_map, if_pos h1, if_pos h2]
  simp only [List.getElem?_map, List.getElem?_eq_getElem h3, Option.map_some]
theorem modb (x : Int) : -bigN < x % 2305843009213693951 ∧ x % 2305843009213693951 < bigN := by
  unfold bigN
  have h1 := Int.emod_nonneg x (show (2305843009213693951 : Int) ≠ 0 by decide)
  have h2 := Int.emod_lt_of_pos x (show (0 : Int) < 2305843009213693951 by decide)
  omega
theorem at3_0 (a b c : W) : atOf [a, b, c] 0 = some a := rfl
theorem at3_1 (a b c : W) : atOf [a, b, c] 1 = some b := rfl
theorem at3_2 (a b c : W) : atOf [a, b, c] 2 = some c := rfl
theorem ix3_1 : ixOf 3 1 = some 1 := rfl
theorem ix3_2 : ixOf 3 2 = some 2 := rfl
/-- the tape's store: the cells, the tape -/
def tp (ns : List Int) (i c : Int) (rest : Sto) : Sto := .lst (ns.map .int) :: .lst [.ref 0, .int i, .int c] :: rest
section
variable {gc : Nat → W} {tb : Nat → Option Def} {n : Nat} {ns : List Int} {i c many v : Int} {rest : Sto}
theorem draw_a (hm : 0 < many) (hm2 : many < bigN) (hc : c < many) (hl : 0 < ns.length)
    (hv : atOf (ns.map W.int) (i % (ns.length : Int)) = some (.int v)) (hg1 : ¬ (ns.length : Int) ≤ i) (hg2 : ¬ v < 1000000000000000000) :
    ∃ ρ', run gc (callF gc tb n) L_k11.d_law_draw.body [some (.ref 1), some (.int many), none, none, none] (tp ns i c rest) = some (.ret (.int (v % many)), ρ', tp ns (i + 1) (v / many) rest) := by
  have hl2 : (0 : Int) < (ns.length : Int) := by omega
  refine ⟨[some (.ref 1), some (.int many), some (.int 2305843009213693951), some (.int v), some (.int (v % many))], ?_⟩
  unfold tp
  simp [L_k11.d_law_draw, run, den, bA, pA, rA1, rhoAt, T.put, truth, wCmp, wLt, wGt, wGe, wIx, dictOf, seqOf, listOf, wBlt, bLen, wBin, wMod, wFdiv, wMul, wAdd, wPow, wSub, wSet, hl, hl2, hg1, hg2, hc, hm, hm2, hv, List.length_map, at3_0, at3_1, at3_2, ix3_1, ix3_2]


def mix (v i : Int) : Int :=
  let a := (v + 1000003 * i) % 2305843009213693951
  let b := (a * a + 1181783497276652981 * a + 2049848353892358983) % 2305843009213693951
  (b * b + 1442695040888963407) % 2305843009213693951
theorem draw_b (hm : 0 < many) (hm2 : many < bigN) (hc : c < many) (hl : 0 < ns.length)
    (hv : atOf (ns.map W.int) (i % (ns.length : Int)) = some (.int v)) (hg : (ns.length : Int) ≤ i ∨ v < 1000000000000000000) :
    ∃ ρ', run gc (callF gc tb n) L_k11.d_law_draw.body [some (.ref 1), some (.int many), none, none, none] (tp ns i c rest) = some (.ret (.int (mix v i % many)), ρ', tp ns (i + 1) (mix v i / many) rest) := by
  have hl2 : (0 : Int) < (ns.length : Int) := by omega
  refine ⟨[some (.ref 1), some (.int many), some (.int 2305843009213693951), some (.int (mix v i)), some (.int (mix v i % many))], ?_⟩
  unfold tp mix
  have b1 := modb (v + 1000003 * i)
  have b2 := modb ((v + 1000003 * i) % 2305843009213693951 * ((v + 1000003 * i) % 2305843009213693951) + 1181783497276652981 * ((v + 1000003 * i) % 2305843009213693951) + 2049848353892358983)
  generalize hx1 : (v + 1000003 * i) % 2305843009213693951 = x1 at b1 b2
  generalize hx2 : (x1 * x1 + 1181783497276652981 * x1 + 2049848353892358983) % 2305843009213693951 = x2 at b2
  have c1 : -bigN < 1000003 ∧ (1000003 : Int) < bigN := by decide
  have c2 : -bigN < 1181783497276652981 ∧ (1181783497276652981 : Int) < bigN := by decide
  by_cases hg1 : (ns.length : Int) ≤ i
  · simp [L_k11.d_law_draw, run, den, bA, pA, rA1, rhoAt, T.put, truth, wCmp, wLt, wGt, wGe, wIx, dictOf, seqOf, listOf, wBlt, bLen, wBin, wMod, wFdiv, wMul, wAdd, wPow, wSub, wSet, hc, hm, hm2, List.length_map, at3_0, at3_1, at3_2, ix3_1, ix3_2, hl, hl2, hg1, hv, hx1, hx2, b1, b2, c1, c2]
  · have hg2 : v < 1000000000000000000 := by omega
    simp [L_k11.d_law_draw, run, den, bA, pA, rA1, rhoAt, T.put, truth, wCmp, wLt, wGt, wGe, wIx, dictOf, seqOf, listOf, wBlt, bLen, wBin, wMod, wFdiv, wMul, wAdd, wPow, wSub, wSet, hc, hm, hm2, List.length_map, at3_0, at3_1, at3_2, ix3_1, ix3_2, hl, hl2, hg1, hg2, hv, hx1, hx2, b1, b2, c1, c2]
theorem draw_c (hm : 0 < many) (hm2 : many < bigN) (hc : c < many) (hl : ns = []) :
    ∃ ρ', run gc (callF gc tb n) L_k11.d_law_draw.body [some (.ref 1), some (.int many), none, none, none] (tp ns i c rest) = some (.ret (.int (mix 0 i % many)), ρ', tp ns (i + 1) (mix 0 i / many) rest) := by
  subst hl
  refine ⟨[some (.ref 1), some (.int many), some (.int 2305843009213693951), some (.int (mix 0 i)), some (.int (mix 0 i % many))], ?_⟩
  unfold tp mix
  have b1 := modb (1000003 * i)
  have b2 := modb ((1000003 * i) % 2305843009213693951 * ((1000003 * i) % 2305843009213693951) + 1181783497276652981 * ((1000003 * i) % 2305843009213693951) + 2049848353892358983)
  rw [Int.zero_add]
  generalize hx1 : (1000003 * i) % 2305843009213693951 = x1 at b1 b2
  generalize hx2 : (x1 * x1 + 1181783497276652981 * x1 + 2049848353892358983) % 2305843009213693951 = x2 at b2
  have c1 : -bigN < 1000003 ∧ (1000003 : Int) < bigN := by decide
  have c2 : -bigN < 1181783497276652981 ∧ (1181783497276652981 : Int) < bigN := by decide
  by_cases hg1 : (0 : Int) ≤ i
  · simp [L_k11.d_law_draw, run, den, bA, pA, rA1, rhoAt, T.put, truth, wCmp, wLt, wGt, wGe, wIx, dictOf, seqOf, listOf, wBlt, bLen, wBin, wMod, wFdiv, wMul, wAdd, wPow, wSub, wSet, hc, hm, hm2, List.length_map, at3_0, at3_1, at3_2, ix3_1, ix3_2, hg1, hx1, hx2, b1, b2, c1, c2]
  · simp [L_k11.d_law_draw, run, den, bA, pA, rA1, rhoAt, T.put, truth, wCmp, wLt, wGt, wGe, wIx, dictOf, seqOf, listOf, wBlt, bLen, wBin, wMod, wFdiv, wMul, wAdd, wPow, wSub, wSet, hc, hm, hm2, List.length_map, at3_0, at3_1, at3_2, ix3_1, ix3_2, hg1, hx1, hx2, b1, b2, c1, c2]
theorem draw_d (hm : 0 < many) (hm2 : many < bigN) (hc : ¬ c < many) :
    ∃ ρ', run gc (callF gc tb n) L_k11.d_law_draw.body [some (.ref 1), some (.int many), none, none, none] (tp ns i c rest) = some (.ret (.int (c % many)), ρ', tp ns i (c / many) rest) := by
  refine ⟨[some (.ref 1), some (.int many), some (.int 2305843009213693951), none, some (.int (c % many))], ?_⟩
  unfold tp
  simp [L_k11.d_law_draw, run, den, bA, pA, rA1, rhoAt, T.put, truth, wCmp, wLt, wGt, wGe, wIx, dictOf, seqOf, listOf, wBlt, bLen, wBin, wMod, wFdiv, wMul, wAdd, wPow, wSub, wSet, hc, hm, hm2, List.length_map, at3_0, at3_1, at3_2, ix3_1, ix3_2]
/-- a draw: some number below many; the tape goes on -/
theorem draw_any (hm : 0 < many) (hm2 : many < bigN) : ∃ ρ' d i' c', run gc (callF gc tb n) L_k11.d_law_draw.body [some (.ref 1), some (.int many), none, none, none] (tp ns i c rest) = some (.ret (.int d), ρ', tp ns i' c' rest) ∧ 0 ≤ d ∧ d < many := by
  have hb : ∀ x : Int, 0 ≤ x % many ∧ x % many < many := fun x => ⟨Int.emod_nonneg x (by omega), Int.emod_lt_of_pos x hm⟩
  by_cases hc : c < many
  · cases ns with
    | nil =>
      obtain ⟨ρ', h⟩ := draw_c (gc := gc) (tb := tb) (n := n) (ns := []) (i := i) (rest := rest) hm hm2 hc rfl
      exact ⟨ρ', _, _, _, h, hb _⟩
    | cons a as =>
      have hl : 0 < (a :: as).length := by simp
      obtain ⟨v, hv⟩ := atOf_mod hl i
      by_cases hg : ((a :: as).length : Int) ≤ i ∨ v < 1000000000000000000
      · obtain ⟨ρ', h⟩ := draw_b (gc := gc) (tb := tb) (n := n) (rest := rest) hm hm2 hc hl hv hg
        exact ⟨ρ', _, _, _, h, hb _⟩
      · rw [not_or] at hg
        obtain ⟨ρ', h⟩ := draw_a (gc := gc) (tb := tb) (n := n) (rest := rest) hm hm2 hc hl hv hg.1 hg.2
        exact ⟨ρ', _, _, _, h, hb _⟩
  · obtain ⟨ρ', h⟩ := draw_d (gc := gc) (tb := tb) (n := n) (ns := ns) (i := i) (rest := rest) hm hm2 hc
    exact ⟨ρ', _, _, _, h, hb _⟩
end
end TS

set_option Elab.async false
set_option linter.all false
set_option maxRecDepth 100000
set_option maxHeartbeats 4000000
/-! F11: k11, the plain law: what a turn does, for every triple; the calls with the search hoisted. -/
namespace TS
open PySem
def gc0 : Nat → W := fun _ => .non
def tb11 : Nat → Option Def := tbOf L_k11.tab
def cf0 : Nat → List W → M W := callF gc0 tb11 29
def partsO : Ob := .lst [.non, .int 5, .int 0, .int 1000000]
def turnR : C := match L_k11.d_law.body with | .seq _ (.seq _ (.seq (.for_ _ _ (.seq _ r)) _)) => r | _ => .skip
def fmA : C := match L_k11.d_fewest_moves.body with | .seq a (.seq b (.seq c _)) => .seq a (.seq b c) | _ => .skip
def fmR : C := match L_k11.d_fewest_moves.body with | .seq _ (.seq _ (.seq _ r)) => r | _ => .skip
def fmB (pl : W) : Option (Rho × Sto) := match run gc0 (callF gc0 tb11 28) fmA [some pl, none, none, none, none, none, none, none, none] [] with
  | some (.nx, ρ, S) => some (ρ, S)
  | _ => none
def fmW (B : Rho × Sto) (wish : W) : Option W := match run gc0 (callF gc0 tb11 28) fmR (B.1.set 1 (some wish)) B.2 with
  | some (.ret w, _, S') => (match finish false 0 w S' with
    | some (c, []) => some c
    | _ => none)
  | _ => none
def cf1 (pl : W) (B : Rho × Sto) (f : Nat) (ws : List W) : M W := fun S =>
  if f = 3 then (match ws with
    | [p, wish] => if p = pl ∧ p.under 0 = true ∧ wish.under 0 = true ∧ S.all (fun o => o.under S.length) = true then (match fmW B wish with
      | some c => if c.under 0 = true then some (c, S) else none
      | none => none) else none
    | _ => none)
  else cf0 f ws S
def rhoT (x y z : W) : Rho := [none, none, some (.ref 0), none, some x, some y, some z, none, none, none, none, none, none, none, none]
def valsT : List W := [.non, .int 5, .int 0, .int 1000000]
def trnOk (x y z : W) : Bool := match fmB (.tup [x, y, z]) with
  | some B => (match run gc0 (cf1 (.tup [x, y, z]) B) turnR (rhoT x y z) [partsO] with
    | some (.nx, ρ, S') => decide (S'.head? = some partsO) && (S'.all (fun o => o.under S'.length) && decide (ρ.length = 15))
    | _ => false)
  | none => false
theorem callF_of {gc : Nat → W} {tb : Nat → Option Def} {n f : Nat} {ws as : List W} {S S' : Sto} {d : Def} {w : W} {ρ : Rho} {r : W × Sto} (hd : tb f = some d) (hb : d.bind ws = some as) (hr : run gc (callF gc tb n) d.body (d.rho as) S = some (.ret w, ρ, S')) (hf : finish d.keep S.length w S' = some r) : callF gc tb (n + 1) f ws S = some r := by
  rw [callF, hd]
  simp only
  rw [hb]
  simp only
  rw [hr]
  exact hf
theorem fm_call {pl wish c : W} {B : Rho × Sto} (hB : fmB pl = some B) (h : fmW B wish = some c) : cf0 3 [pl, wish] [] = some (c, []) := by
  unfold fmB at hB
  split at hB
  · rename_i ρ S e1
    cases hB
    have hle : LeR [some pl, none, none, none, none, none, none, none, none] [some pl, some wish, none, none, none, none, none, none, none] := by
      refine ⟨rfl, fun i w e => ?_⟩
      match i with
      | 0 => exact e
      | 1 => cases e
      | 2 => exact e
      | 3 => exact e
      | 4 => exact e
      | 5 => exact e
      | 6 => exact e
      | 7 => exact e
      | 8 => exact e
      | n + 9 => cases e
    obtain ⟨b', e2, l2⟩ := run_le (gc := gc0) (fun f ws => MLe.refl _) fmA _ _ [] _ _ _ hle e1
    have k1 := run_keep (i := 1) (gc := gc0) fmA rfl _ [] _ _ _ e2
    have k1 : b'[1]? = some (some wish) := k1
    have l3 : LeR (ρ.set 1 (some wish)) b' := by
      refine ⟨by rw [List.length_set]; exact l2.1, fun j w e => ?_⟩
      by_cases hj : 1 = j
      · subst hj
        have hi : 1 < ρ.length := by
          have := (List.getElem?_eq_some_iff.mp e).1
          simpa using this
        rw [List.getElem?_set_self hi] at e
        cases e
        exact k1
      · rw [List.getElem?_set_ne hj] at e
        exact l2.2 j w e
    unfold fmW at h
    split at h
    · rename_i w ρ3 S3 e3
      obtain ⟨b3, e4, _⟩ := run_le (gc := gc0) (fun f ws => MLe.refl _) fmR _ _ S _ _ _ l3 e3
      split at h
      · rename_i c' e5
        cases h
        have hbody : ∀ R S fl a' S', (∃ b2 S2, run gc0 (callF gc0 tb11 28) fmA R S = some (.nx, b2, S2) ∧ run gc0 (callF gc0 tb11 28) fmR b2 S2 = some (fl, a', S')) → run gc0 (callF gc0 tb11 28) L_k11.d_fewest_moves.body R S = some (fl, a', S') := by
          intro R S fl a' S' hh
          obtain ⟨b2, S2, q1, q2⟩ := hh
          unfold fmA L_k11.d_fewest_moves at q1
          unfold fmR L_k11.d_fewest_moves at q2
          unfold L_k11.d_fewest_moves
          simp only at q1 q2 ⊢
          rw [run] at q1
          split at q1
          · rename_i x1 X1 w1
            rw [run, w1]
            simp only
            rw [run] at q1
            split at q1
            · rename_i x2 X2 w2
              rw [run, w2]
              simp only
              rw [run, q1]
              exact q2
            · rename_i hno
              exact absurd q1 (hno _ _)
          · rename_i hno
            exact absurd q1 (hno _ _)
        exact callF_of (n := 28) (gc := gc0) (tb := tb11) (f := 3) (ws := [pl, wish]) (S := []) (d := L_k11.d_fewest_moves) (as := [pl, wish]) rfl rfl (hbody _ _ _ _ _ ⟨b', S, e2, e4⟩) e5
      · cases h
    · cases h
  · cases hB
theorem cf1_le {pl : W} {B : Rho × Sto} (hB : fmB pl = some B) (f : Nat) (ws : List W) : MLe (cf1 pl B f ws) (cf0 f ws) := by
  intro S r h
  unfold cf1 at h
  split at h
  · rename_i hf
    subst hf
    split at h
    · rename_i p wish
      split at h
      · rename_i hg
        obtain ⟨g1, g2, g3, g4⟩ := hg
        subst g1
        split at h
        · rename_i c e1
          split at h
          · rename_i g5
            cases h
            exact call_any (gc := gc0) (tb := tb11) (fun _ => rfl) (fun o ho => (List.all_eq_true.mp g4) o ho) (by simp only [unders, Bool.and_eq_true]; exact ⟨g2, g3, trivial⟩) g5 (fm_call hB e1)
          · cases h
        · cases h
      · cases h
    · cases h
  · exact h
/-- a turn on the small store -/
theorem trn_run {x y z : W} (h : trnOk x y z = true) : ∃ ρ G, run gc0 cf0 turnR (rhoT x y z) [partsO] = some (.nx, ρ, partsO :: G) ∧ (∀ o ∈ partsO :: G, o.under (partsO :: G).length = true) ∧ ρ.length = 15 := by
  unfold trnOk at h
  split at h
  · rename_i B hB
    split at h
    · rename_i ρ S' e1
      rw [Bool.and_eq_true, Bool.and_eq_true] at h
      have h1 := of_decide_eq_true h.1
      have h3 := of_decide_eq_true h.2.2
      obtain ⟨b', e2, l2⟩ := run_le (gc := gc0) (fun f ws => cf1_le hB f ws) turnR _ _ _ _ _ _ (LeR.refl _) e1
      cases S' with
      | nil => cases h1
      | cons o G =>
        cases h1
        exact ⟨b', G, e2, fun o ho => (List.all_eq_true.mp h.2.1) o ho, by rw [← l2.1]; exact h3⟩
    · cases h
  · cases h
end TS

set_option Elab.async false
set_option linter.all false
set_option maxRecDepth 100000
set_option maxHeartbeats 4000000
/-! G11: k11, the turn on the real store; the loop; the law. -/
namespace TS
open PySem
theorem shs_ints (p k : Nat) : ∀ ns : List Int, shs p k (ns.map W.int) = ns.map W.int
  | [] => rfl
  | n :: ns => by simp only [List.map_cons, shs, W.sh, shs_ints p k ns]
theorem unders_ints (n : Nat) : ∀ ns : List Int, unders n (ns.map W.int) = true
  | [] => rfl
  | a :: ns => by simp only [List.map_cons, unders, W.under, unders_ints n ns, Bool.and_self]
mutual
theorem sh_id (p k : Nat) : ∀ a : W, a.under 0 = true → W.sh p k a = a
  | .non, _ => rfl
  | .bl _, _ => rfl
  | .int _, _ => rfl
  | .str _, _ => rfl
  | .fn _, _ => rfl
  | .ref n, h => by simp [W.under] at h
  | .tup ws, h => by simp only [W.under] at h; simp only [W.sh, shs_id p k ws h]
  | .lst ws, h => by simp only [W.under] at h; simp only [W.sh, shs_id p k ws h]
  | .dct ks us, h => by
    simp only [W.under, Bool.and_eq_true] at h
    simp only [W.sh, shs_id p k ks h.1, shs_id p k us h.2]
theorem shs_id (p k : Nat) : ∀ as : List W, unders 0 as = true → shs p k as = as
  | [], _ => rfl
  | a :: as, h => by
    simp only [unders, Bool.and_eq_true] at h
    simp only [shs, sh_id p k a h.1, shs_id p k as h.2]
end
/-- the objects behind the law's own three -/
def GOk (G : Sto) : Prop := ∀ o ∈ G, o.under (3 + G.length) = true
theorem shR_none (p : Nat) (g : List Ob) (x y z : W) (hx : sW p g x = x) (hy : sW p g y = y) (hz : sW p g z = z) : shR p g (rhoT x y z) = [none, none, some (sW p g (.ref 0)), none, some x, some y, some z, none, none, none, none, none, none, none, none] := by
  simp only [shR, rhoT, List.map_cons, List.map_nil, Option.map_none, Option.map_some, hx, hy, hz]
theorem turn_real {x y z : W} (ht : trnOk x y z = true) (hx : x.under 0 = true) (hy : y.under 0 = true) (hz : z.under 0 = true) {ns : List Int} {i c : Int} {G : Sto} (hG : GOk G)
    {b : Rho} (hb : LeR [none, none, some (.ref 2), none, some x, some y, some z, none, none, none, none, none, none, none, none] b) :
    ∃ b' G', run gc0 cf0 turnR b (tp ns i c (partsO :: G)) = some (.nx, b', tp ns i c (partsO :: G')) ∧ GOk G' ∧ b'.length = 15 := by
  obtain ⟨ρ, K, e0, hK, hlen⟩ := trn_run ht
  have hgc : ∀ p g (i : Nat), sW p g (gc0 i) = gc0 i := fun _ _ _ => rfl
  have hsm : ∀ (p k : Nat) (a : W), a.under 0 = true → W.sh p k a = a := by
    intro p k a ha
    exact sh_id p k a ha
  -- behind the cells and the tape
  let g : List Ob := [.lst (ns.map .int), .lst [.ref 0, .int i, .int c]]
  have hg : gOk 0 g := by
    intro o ho
    simp only [g, List.mem_cons, List.not_mem_nil, or_false] at ho
    rcases ho with ho | ho
    · subst ho; exact unders_ints _ ns
    · subst ho; rfl
  obtain ⟨e1, _⟩ := run_sh (p := 0) (g := g) (hgc 0 g) (fun f ws => callF_sh (hgc 0 g) hg 29 f ws) turnR _ _ _ _ _ (Nat.zero_le _) e0
  rw [shR_none _ _ _ _ _ (hsm _ _ x hx) (hsm _ _ y hy) (hsm _ _ z hz)] at e1
  have s1 : shS 0 g [partsO] = tp ns i c [partsO] := rfl
  have s2 : shS 0 g (partsO :: K) = tp ns i c (partsO :: K.map (Ob.sh 0 2)) := rfl
  rw [s1, s2] at e1
  -- before the objects of the turns before
  have hG' : gOk 3 G := hG
  obtain ⟨e2, _⟩ := run_sh (p := 3) (g := G) (hgc 3 G) (fun f ws => callF_sh (hgc 3 G) hG' 29 f ws) turnR _ _ _ _ _ (by simp [tp]) e1
  have s3 : shR 3 G [none, none, some (sW 0 g (.ref 0)), none, some x, some y, some z, none, none, none, none, none, none, none, none] = [none, none, some (.ref 2), none, some x, some y, some z, none, none, none, none, none, none, none, none] := by
    simp only [shR, List.map_cons, List.map_nil, Option.map_none, Option.map_some, sW, hsm 3 G.length x hx, hsm 3 G.length y hy, hsm 3 G.length z hz]
    rfl
  have s4 : ∀ L, shS 3 G (tp ns i c (partsO :: L)) = tp ns i c (partsO :: (G ++ L.map (Ob.sh 3 G.length))) := by
    intro L
    show Ob.sh 3 G.length (.lst (ns.map .int)) :: _ = _
    simp only [Ob.sh, shs_ints]
    rfl
  rw [s3, s4, s4] at e2
  obtain ⟨b', e3, l3⟩ := run_le (gc := gc0) (fun f ws => MLe.refl _) turnR _ _ _ _ _ _ hb e2
  have s5 : G ++ ([] : Sto).map (Ob.sh 3 G.length) = G := by simp
  rw [s5] at e3
  refine ⟨b', _, e3, ?_, ?_⟩
  · intro o ho
    rw [List.length_append, List.length_map, List.length_map]
    rw [List.mem_append] at ho
    rcases ho with ho | ho
    · exact obUnder_le (by omega) o (hG o ho)
    · rw [List.mem_map] at ho
      obtain ⟨o1, h1, h2⟩ := ho
      rw [List.mem_map] at h1
      obtain ⟨o2, h3, h4⟩ := h1
      have q1 := hK o2 (List.mem_cons_of_mem _ h3)
      have q2 := obUnder_sh (p := 0) (g := g) (Nat.zero_le _) o2 q1
      have q2 : (Ob.sh 0 2 o2).under ((partsO :: K).length + 2) = true := q2
      rw [h4] at q2
      have q3 := obUnder_sh (p := 3) (g := G) (n₀ := (partsO :: K).length + 2) (by simp) o1 q2
      rw [h2] at q3
      simp only [List.length_cons] at q3
      have : K.length + 1 + 2 + G.length = 3 + (G.length + K.length) := by omega
      rwa [this] at q3
  · rw [← l3.1]
    simp only [shR, List.length_map]
    exact hlen
end TS

set_option Elab.async false
set_option linter.all false
set_option maxRecDepth 100000
set_option maxHeartbeats 4000000
/-! H11: k11, the draws of a turn, the loop, the law. -/
namespace TS
open PySem
theorem finish_tape {ns : List Int} {i c d : Int} {i' c' : Int} {G : Sto} (hG : GOk G) : finish false (tp ns i c (partsO :: G)).length (.int d) (tp ns i' c' (partsO :: G)) = some (.int d, tp ns i' c' (partsO :: G)) := by
  have hl : (tp ns i c (partsO :: G)).length = (tp ns i' c' (partsO :: G)).length := rfl
  unfold finish
  rw [if_neg (by decide), hl]
  have hf : W.frz (tp ns i' c' (partsO :: G)).length (tp ns i' c' (partsO :: G)) (.int d) = some (.int d) := rfl
  rw [hf]
  simp only
  rw [List.take_length]
  have hu : underAll (tp ns i' c' (partsO :: G)).length (tp ns i' c' (partsO :: G)) = true := by
    unfold underAll
    rw [List.all_eq_true]
    intro o ho
    have hn : (tp ns i' c' (partsO :: G)).length = 3 + G.length := by simp [tp]; omega
    rw [hn]
    simp only [tp, List.mem_cons] at ho
    rcases ho with ho | ho | ho | ho
    · subst ho; exact unders_ints _ ns
    · subst ho
      show (decide (0 < 3 + G.length) && _) = true
      rw [decide_eq_true (by omega)]; rfl
    · subst ho; rfl
    · exact hG o ho
  rw [if_pos ⟨rfl, hu⟩]
theorem draw_call {ns : List Int} {i c : Int} {G : Sto} (hG : GOk G) : ∃ d i' c', cf0 0 [.ref 1, .int 4] (tp ns i c (partsO :: G)) = some (.int d, tp ns i' c' (partsO :: G)) ∧ 0 ≤ d ∧ d < 4 := by
  obtain ⟨ρ', d, i', c', h, h1, h2⟩ := draw_any (gc := gc0) (tb := tb11) (n := 28) (ns := ns) (i := i) (c := c) (many := 4) (rest := partsO :: G) (by decide) (by decide)
  exact ⟨d, i', c', callF_of (n := 28) (gc := gc0) (tb := tb11) (f := 0) (d := L_k11.d_law_draw) (as := [.ref 1, .int 4]) rfl rfl h (finish_tape hG), h1, h2⟩
theorem pick {ns : List Int} {i c d : Int} {G : Sto} (h1 : 0 ≤ d) (h2 : d < 4) : ∃ x, x ∈ valsT ∧ wIx (.ref 2) (.int d) (tp ns i c (partsO :: G)) = some (x, tp ns i c (partsO :: G)) := by
  have : d = 0 ∨ d = 1 ∨ d = 2 ∨ d = 3 := by omega
  rcases this with h | h | h | h
  · subst h; exact ⟨.non, by simp [valsT], rfl⟩
  · subst h; exact ⟨.int 5, by simp [valsT], rfl⟩
  · subst h; exact ⟨.int 0, by simp [valsT], rfl⟩
  · subst h; exact ⟨.int 1000000, by simp [valsT], rfl⟩
def drawS : C := match L_k11.d_law.body with | .seq _ (.seq _ (.seq (.for_ _ _ (.seq a _)) _)) => a | _ => .skip
structure Inv (ns : List Int) (b : Rho) (S : Sto) : Prop where
  len : b.length = 15
  s1 : b[1]? = some (some (.ref 1))
  s2 : b[2]? = some (some (.ref 2))
  st : ∃ i c G, S = tp ns i c (partsO :: G) ∧ GOk G
theorem draws {ns : List Int} {b : Rho} {S : Sto} (h : Inv ns b S) : ∃ x y z S', x ∈ valsT ∧ y ∈ valsT ∧ z ∈ valsT ∧ run gc0 cf0 drawS b S = some (.nx, ((b.set 4 (some x)).set 5 (some y)).set 6 (some z), S') ∧ ∃ i c G, S' = tp ns i c (partsO :: G) ∧ GOk G := by
  obtain ⟨hl, h1, h2, i, c, G, hS, hG⟩ := h
  subst hS
  obtain ⟨d1, i1, c1, e1, l1, u1⟩ := draw_call (ns := ns) (i := i) (c := c) hG
  obtain ⟨x, hx, p1⟩ := pick (ns := ns) (i := i1) (c := c1) (G := G) l1 u1
  obtain ⟨d2, i2, c2, e2, l2, u2⟩ := draw_call (ns := ns) (i := i1) (c := c1) hG
  obtain ⟨y, hy, p2⟩ := pick (ns := ns) (i := i2) (c := c2) (G := G) l2 u2
  obtain ⟨d3, i3, c3, e3, l3, u3⟩ := draw_call (ns := ns) (i := i2) (c := c2) hG
  obtain ⟨z, hz, p3⟩ := pick (ns := ns) (i := i3) (c := c3) (G := G) l3 u3
  refine ⟨x, y, z, tp ns i3 c3 (partsO :: G), hx, hy, hz, ?_, i3, c3, G, rfl, hG⟩
  unfold drawS L_k11.d_law
  simp only
  rw [run]
  simp [den, bA, pA, rA1, rhoAt, h1, h2, e1, e2, e3, p1, p2, p3, T.put, T.puts, M.fits, M.grd, lineN]
def turnB : C := .seq drawS turnR
theorem vals_under {x : W} (h : x ∈ valsT) : x.under 0 = true := by
  simp only [valsT, List.mem_cons, List.not_mem_nil, or_false] at h
  rcases h with h | h | h | h <;> subst h <;> rfl
theorem le_start {b : Rho} {x y z : W} (hl : b.length = 15) (h2 : b[2]? = some (some (.ref 2))) : LeR [none, none, some (.ref 2), none, some x, some y, some z, none, none, none, none, none, none, none, none] (((b.set 4 (some x)).set 5 (some y)).set 6 (some z)) := by
  refine ⟨by simp [hl], fun j w e => ?_⟩
  match j with
  | 0 => cases e
  | 1 => cases e
  | 2 => cases e; rw [List.getElem?_set_ne (by decide), List.getElem?_set_ne (by decide), List.getElem?_set_ne (by decide)]; exact h2
  | 3 => cases e
  | 4 => cases e; rw [List.getElem?_set_ne (by decide), List.getElem?_set_ne (by decide), List.getElem?_set_self (by omega)]
  | 5 => cases e; rw [List.getElem?_set_ne (by decide), List.getElem?_set_self (by simp [hl])]
  | 6 => cases e; rw [List.getElem?_set_self (by simp [hl])]
  | 7 => cases e
  | 8 => cases e
  | 9 => cases e
  | 10 => cases e
  | 11 => cases e
  | 12 => cases e
  | 13 => cases e
  | 14 => cases e
  | n + 15 => cases e
theorem turn_inv (hall : ∀ x ∈ valsT, ∀ y ∈ valsT, ∀ z ∈ valsT, trnOk x y z = true) {ns : List Int} {b : Rho} {S : Sto} (h : Inv ns b S) : ∃ b' S', run gc0 cf0 turnB b S = some (.nx, b', S') ∧ Inv ns b' S' := by
  obtain ⟨x, y, z, S1, hx, hy, hz, e1, i, c, G, hS, hG⟩ := draws h
  subst hS
  obtain ⟨b', G', e2, hG', hl'⟩ := turn_real (hall x hx y hy z hz) (vals_under hx) (vals_under hy) (vals_under hz) (ns := ns) (i := i) (c := c) hG (le_start (x := x) (y := y) (z := z) h.len h.s2)
  have k1 := run_keep (i := 1) turnR rfl _ _ _ _ _ e2
  have k2 := run_keep (i := 2) turnR rfl _ _ _ _ _ e2
  refine ⟨b', _, ?_, hl', ?_, ?_, i, c, G', rfl, hG'⟩
  · unfold turnB
    rw [run, e1]
    exact e2
  · rw [k1, List.getElem?_set_ne (by decide), List.getElem?_set_ne (by decide), List.getElem?_set_ne (by decide)]; exact h.s1
  · rw [k2, List.getElem?_set_ne (by decide), List.getElem?_set_ne (by decide), List.getElem?_set_ne (by decide)]; exact h.s2
theorem loop_inv (hall : ∀ x ∈ valsT, ∀ y ∈ valsT, ∀ z ∈ valsT, trnOk x y z = true) {ns : List Int} : ∀ (xs : List W) (b : Rho) (S : Sto), Inv ns b S → ∃ b' S', forL [] (.nm 3) (fun ρ S => run gc0 cf0 turnB ρ S) xs b S = some (.nx, b', S') ∧ Inv ns b' S'
  | [], b, S, h => ⟨b, S, by simp [forL, stands], h⟩
  | x :: xs, b, S, h => by
    have h1 : Inv ns (b.set 3 (some x)) S := ⟨by rw [List.length_set]; exact h.len, by rw [List.getElem?_set_ne (by decide)]; exact h.s1, by rw [List.getElem?_set_ne (by decide)]; exact h.s2, h.st⟩
    obtain ⟨b1, S1, e1, h2⟩ := turn_inv hall h1
    obtain ⟨b2, S2, e2, h3⟩ := loop_inv hall xs b1 S1 h2
    refine ⟨b2, S2, ?_, h3⟩
    rw [forL]
    rw [if_pos (by simp [stands])]
    simp only [P.put]
    rw [e1]
    exact e2
theorem end1 : cf0 3 [.tup [.int 1, .int 2, .int 3], .tup [.int 1, .int 2]] [] = some (.int 2, []) := by decide +kernel
theorem end2 : cf0 3 [.tup [.int 1, .int 2, .int 3], .tup [.int 3, .int 1]] [] = some (.non, []) := by decide +kernel
def lawEnd : C := match L_k11.d_law.body with | .seq _ (.seq _ (.seq _ r)) => r | _ => .skip
theorem eqv_22 : W.eqv (.int 2) (.int 2) = true := by decide +kernel
theorem asData_int (S : Sto) (d : Int) : asData S (.int d) = some (.int d) := rfl
theorem end_run {ns : List Int} {b : Rho} {S : Sto} (h : Inv ns b S) : run gc0 cf0 lawEnd b S = some (.ret (.bl true), b, S) := by
  obtain ⟨hl, h1, h2, i, c, G, hS, hG⟩ := h
  subst hS
  have hall : ∀ o ∈ tp ns i c (partsO :: G), o.under (tp ns i c (partsO :: G)).length = true := by
    have hn : (tp ns i c (partsO :: G)).length = 3 + G.length := by simp [tp]; omega
    rw [hn]
    intro o ho
    simp only [tp, List.mem_cons] at ho
    rcases ho with ho | ho | ho | ho
    · subst ho; exact unders_ints _ ns
    · subst ho
      show (decide (0 < 3 + G.length) && _) = true
      rw [decide_eq_true (by omega)]; rfl
    · subst ho; rfl
    · exact hG o ho
  have c1 := call_any (gc := gc0) (tb := tb11) (n := 29) (f := 3) (fun _ => rfl) hall rfl rfl end1
  have c2 := call_any (gc := gc0) (tb := tb11) (n := 29) (f := 3) (fun _ => rfl) hall rfl rfl end2
  have c1 : cf0 3 [.tup [.int 1, .int 2, .int 3], .tup [.int 1, .int 2]] (tp ns i c (partsO :: G)) = some (.int 2, tp ns i c (partsO :: G)) := c1
  have c2 : cf0 3 [.tup [.int 1, .int 2, .int 3], .tup [.int 3, .int 1]] (tp ns i c (partsO :: G)) = some (.non, tp ns i c (partsO :: G)) := c2
  unfold lawEnd L_k11.d_law
  simp only
  rw [run]
  simp [den, bA, pA, rA1, M.fits, M.grd, lineN, c1, c2, truth, wCmp, wEq, asData_int, eqv_22]
end TS

set_option Elab.async false
set_option linter.all false
set_option maxRecDepth 100000
set_option maxHeartbeats 4000000
/-! I11: k11, the sixty-four triples. -/
namespace TS
open PySem
theorem t11_00 : (valsT.all fun z => trnOk .non .non z) = true := by decide +kernel
theorem t11_01 : (valsT.all fun z => trnOk .non (.int 5) z) = true := by decide +kernel
theorem t11_02 : (valsT.all fun z => trnOk .non (.int 0) z) = true := by decide +kernel
theorem t11_03 : (valsT.all fun z => trnOk .non (.int 1000000) z) = true := by decide +kernel
theorem t11_10 : (valsT.all fun z => trnOk (.int 5) .non z) = true := by decide +kernel
theorem t11_11 : (valsT.all fun z => trnOk (.int 5) (.int 5) z) = true := by decide +kernel
theorem t11_12 : (valsT.all fun z => trnOk (.int 5) (.int 0) z) = true := by decide +kernel
theorem t11_13 : (valsT.all fun z => trnOk (.int 5) (.int 1000000) z) = true := by decide +kernel
theorem t11_20 : (valsT.all fun z => trnOk (.int 0) .non z) = true := by decide +kernel
theorem t11_21 : (valsT.all fun z => trnOk (.int 0) (.int 5) z) = true := by decide +kernel
theorem t11_22 : (valsT.all fun z => trnOk (.int 0) (.int 0) z) = true := by decide +kernel
theorem t11_23 : (valsT.all fun z => trnOk (.int 0) (.int 1000000) z) = true := by decide +kernel
theorem t11_30 : (valsT.all fun z => trnOk (.int 1000000) .non z) = true := by decide +kernel
theorem t11_31 : (valsT.all fun z => trnOk (.int 1000000) (.int 5) z) = true := by decide +kernel
theorem t11_32 : (valsT.all fun z => trnOk (.int 1000000) (.int 0) z) = true := by decide +kernel
theorem t11_33 : (valsT.all fun z => trnOk (.int 1000000) (.int 1000000) z) = true := by decide +kernel
theorem all11 : ∀ x ∈ valsT, ∀ y ∈ valsT, ∀ z ∈ valsT, trnOk x y z = true := by
  intro x hx y hy z hz
  have hx : x = .non ∨ x = .int 5 ∨ x = .int 0 ∨ x = .int 1000000 := by simpa [valsT] using hx
  have hy : y = .non ∨ y = .int 5 ∨ y = .int 0 ∨ y = .int 1000000 := by simpa [valsT] using hy
  rcases hx with hx | hx | hx | hx <;> rcases hy with hy | hy | hy | hy <;> subst hx <;> subst hy
  · exact (List.all_eq_true.mp t11_00) z hz
  · exact (List.all_eq_true.mp t11_01) z hz
  · exact (List.all_eq_true.mp t11_02) z hz
  · exact (List.all_eq_true.mp t11_03) z hz
  · exact (List.all_eq_true.mp t11_10) z hz
  · exact (List.all_eq_true.mp t11_11) z hz
  · exact (List.all_eq_true.mp t11_12) z hz
  · exact (List.all_eq_true.mp t11_13) z hz
  · exact (List.all_eq_true.mp t11_20) z hz
  · exact (List.all_eq_true.mp t11_21) z hz
  · exact (List.all_eq_true.mp t11_22) z hz
  · exact (List.all_eq_true.mp t11_23) z hz
  · exact (List.all_eq_true.mp t11_30) z hz
  · exact (List.all_eq_true.mp t11_31) z hz
  · exact (List.all_eq_true.mp t11_32) z hz
  · exact (List.all_eq_true.mp t11_33) z hz
end TS

set_option Elab.async false
set_option linter.all false
set_option maxRecDepth 100000
set_option maxHeartbeats 4000000
/-! J11: k11, the law. -/
namespace TS
open PySem
theorem bList_lst (ws : List W) (S : Sto) : bList [.lst ws] S = some (.ref S.length, S ++ [.lst ws]) := rfl
theorem start11 (ns : List Int) (hn : ns.length ≤ 63) : ∃ b, run gc0 cf0 (.seq (.asg (.nm 1) (.lst (.cons (.blt .list (.cons (.var 0) .nil)) (.cons (.int 0) (.cons (.int 0) .nil))))) (.asg (.nm 2) (.lst (.cons .non (.cons (.int 5) (.cons (.int 0) (.cons (.bin .pow (.int 10) (.int 6)) .nil))))))) (L_k11.d_law.rho [.lst (ns.map .int)]) [] = some (.nx, b, tp ns 0 0 [partsO]) ∧ Inv ns b (tp ns 0 0 [partsO]) := by
  refine ⟨[some (.lst (ns.map .int)), some (.ref 1), some (.ref 2), none, none, none, none, none, none, none, none, none, none, none, none], ?_, rfl, rfl, rfl, 0, 0, [], rfl, fun o ho => by cases ho⟩
  have h1 : ns.length ≤ 16777216 := by omega
  simp [run, den, bA, pA, rA1, rhoAt, T.put, Def.rho, L_k11.d_law, wBlt, M.fits, M.grd, lineN, M.new, bList_lst, seqOf, dictOf, listOf, tp, partsO, wBin, wPow, List.length_map, h1]
theorem law11 (ns : List Int) (hn : ns.length ≤ 63) : ∃ S', callF gc0 (tbOf L_k11.tab) 30 4 [.lst (ns.map .int)] [] = some (.bl true, S') := by
  obtain ⟨b, e1, h1⟩ := start11 ns hn
  obtain ⟨b2, S2, e2, h2⟩ := loop_inv all11 [.int 0, .int 1, .int 2, .int 3, .int 4, .int 5] b _ h1
  have e3 := end_run h2
  refine ⟨[], callF_of (n := 29) (gc := gc0) (tb := tbOf L_k11.tab) (f := 4) (d := L_k11.d_law) (as := [.lst (ns.map .int)]) (w := .bl true) (ρ := b2) (S' := S2) rfl rfl ?_ ?_⟩
  · show run gc0 cf0 L_k11.d_law.body _ _ = _
    generalize L_k11.d_law.rho [.lst (ns.map .int)] = b0 at e1 ⊢
    unfold L_k11.d_law
    simp only
    rw [run] at e1
    split at e1
    · rename_i x1 X1 w1
      rw [run, w1]
      simp only
      rw [run, e1]
      simp only
      rw [run]
      have hf : run gc0 cf0 (.for_ (.nm 3) (.rng1 (.int 6)) turnB) b (tp ns 0 0 [partsO]) = some (.nx, b2, S2) := by
        rw [run]
        exact e2
      unfold turnB drawS turnR L_k11.d_law at hf
      simp only at hf
      rw [hf]
      exact e3
    · rename_i hno
      exact absurd e1 (hno _ _)
  · rfl
end TS

theorem PySem.Challenge.cw_threeshelves_k11_whole_fewest_moves_holds : PySem.Challenge.rw_threeshelves_k11_whole_fewest_moves.Holds := by
  exact L_k11.close TS.gc0 fun ns hn => TS.law11 ns hn
