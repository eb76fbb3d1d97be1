import PyProof.Rows.All
import Wide.All
import OpenK.AllK
import Wide.FinOn
import HandS.ForMost
import HandS.Nested
import HandS.HeadHook4
import HandS.Codes
import HandS.Head0
import HandS.Head1
import HandS.Head2
import KE.KStateDown
import HandS.Flow
import HandS.Star
import HandS.Deep
import HandS.Walk
import HandS.More
import HandS.DictEq
import HandS.IsInst
import KE.LtData
import KE.SortData
import HandS.Conv
import HandS.WordsDict
import HandS.Small
import HandS.DictComp
import KE.GoesEnum
import KE.GoesMore
import KE.GoesZip
import HandS.ExcInit
import HandS.TryOnly
import HandS.Zip
import PyProof.DictUpdate
import PyProof.EqKinds
import KE.KNest
import HandS.HeadWalk
import PySem.Challenge.RW_settledby_k93_whole_twins_and_copies_of
set_option Elab.async false
set_option linter.all false
set_option maxRecDepth 100000
set_option maxHeartbeats 4000000
/-! RP0: the virtual machine's values, objects, heap (a tree). -/
namespace RP
open PySem

/-! ### the language -/
inductive Cs where
  | non | bl (b : Bool) | int (i : Int) | str (s : Str) | fn (i : Nat)
inductive Ty1 where
  | int | str | bool | list | tuple | dict | own (c : Nat)
inductive Bi where
  | len | list | tuple | all | any | sum | sorted | abs | int | dict
inductive Bm where
  | append | extend | pop | index | split | get
mutual
inductive E where
  | nm (i : Nat)
  | cst (c : Cs)
  | con (n : Nat)
  | tup (es : List E)
  | lst (es : List E)
  | star (e : E)
  | bin (o : Operator) (a b : E)
  | un (o : UnaryOp) (a : E)
  | cmp (o : CmpOp) (a b : E)
  | chn (o1 o2 : CmpOp) (a b c : E)
  | bo (isAnd : Bool) (es : List E)
  | nt (a : E)
  | ite (c a b : E)
  | idx (a i : E)
  | slc (a : E) (lo hi : Option E)
  | call (f : Nat) (es : List E)
  | callv (i : Nat) (es : List E)
  | mk (c : Nat) (es : List E)
  | me (o : E) (m : Str) (es : List E)
  | bi (b : Bi) (es : List E)
  | bm (m : Bm) (o : E) (es : List E)
  | fld (o : E) (f : Str)
  | lc (elt : E) (t : T) (it : I) (ifs : List E) (own : List Nat)
  | dc (k v : E) (t : T) (it : I) (own : List Nat)
  | dct (es : List (E × E))
  | dup (d : E) (es : List (E × E))
  | isi (a : E) (tys : List Ty1)
  | lam (l : Lm)
inductive T where
  | nm (i : Nat) | tup (ts : List T) | idx (o i : E) | fld (o : E) (f : Str)
inductive I where
  | e (a : E) | ez (a : E) | rng (es : List E) | enm (a : E) | zp (a b : E) | zp3 (a b c : E)
inductive S where
  | asg (t : T) (e : E)
  | asgz (i : Nat) (a b : E)
  | par (ts : List Nat) (es : List E)
  | ex (e : E)
  | ret (e : E)
  | iff (c : E) (a b : List S)
  | fo (t : T) (it : I) (b : List S)
  | wh (c : E) (b : List S)
  | pass
  | rais (c : Nat) (es : List E)
  | ndef (i : Nat) (l : Lm)
  | del (o i : E)
  | tryb (e : E) (b1 : Bool) (c : Nat) (b2 : Bool)
/-- a lambda or inner def: parameters, slots, what it captures (the maker's slots; its own come right behind the parameters), its body -/
inductive Lm where
  | mk (np ns : Nat) (caps : List Nat) (body : List S)
end
def Lm.caps : Lm → List Nat
  | .mk _ _ c _ => c
/-- a def: its slots, its parameters, its body -/
structure Df where
  name : Str
  np : Nat
  ns : Nat
  body : List S
/-- a class: its methods (name, def), its ancestors among the own classes (itself too) -/
structure Cl where
  meths : List (Str × Nat)
  ups : List Nat
  exc : Bool
  flds : List Str
structure Pg where
  defs : List Df
  clss : List Cl

/-- a key of a dict -/
abbrev Key := Sum Int Str
/-- a virtual value: ref n is the n-th virtual object, fn i the i-th def of the module, pend k a local function not handed on yet -/
inductive W where
  | non | bl (b : Bool) | int (i : Int) | str (s : Str) | ref (n : Nat) | fn (i : Nat) | pend (l : Lm) | zipv (n : Nat)

/-- a virtual object -/
inductive O where
  | lst (xs : List W)
  | tup (xs : List W)
  | rls (xs : List W)
  | dct (kvs : List (Key × W))
  | ins (c : Nat) (fs : List (Str × W))
  | wdc (kvs : List (Str × W))
  | clo (l : Lm) (caps : List W)
  | dead

/-- a heap as a tree: the root is 0, an odd n stands left at n / 2, an even one right at n / 2 - 1 -/
inductive Tr where
  | nil
  | nd (v : Option O) (l r : Tr)
def Tr.get : Tr → Nat → Option O
  | .nil, _ => none
  | .nd v l r, i => match i with
    | 0 => v
    | j + 1 => match j % 2 with
      | 0 => l.get (j / 2)
      | _ => r.get (j / 2)
def Tr.put : Nat → Tr → Nat → O → Tr
  | 0, t, _, _ => t
  | k + 1, .nil, i, o => match i with
    | 0 => .nd (some o) .nil .nil
    | j + 1 => match j % 2 with
      | 0 => (match Tr.put k .nil (j / 2) o with
        | .nil => .nil
        | .nd a b c => .nd none (.nd a b c) .nil)
      | _ => (match Tr.put k .nil (j / 2) o with
        | .nil => .nil
        | .nd a b c => .nd none .nil (.nd a b c))
  | k + 1, .nd v l r, i, o => match i with
    | 0 => .nd (some o) l r
    | j + 1 => match j % 2 with
      | 0 => (match Tr.put k l (j / 2) o with
        | .nil => .nd v .nil r
        | .nd a b c => .nd v (.nd a b c) r)
      | _ => (match Tr.put k r (j / 2) o with
        | .nil => .nd v l .nil
        | .nd a b c => .nd v l (.nd a b c))
theorem Tr.get_put : ∀ (k : Nat) (t : Tr) (i j : Nat) (o : O), i < k → (Tr.put k t i o).get j = if j = i then some o else t.get j
  | 0, _, _, _, _, h => absurd h (Nat.not_lt_zero _)
  | k + 1, .nil, i, j, o, h => by
    cases i with
    | zero =>
      cases j with
      | zero => rfl
      | succ j =>
        show (match j % 2 with | 0 => Tr.get .nil (j / 2) | _ => Tr.get .nil (j / 2)) = _
        rw [if_neg (Nat.succ_ne_zero j)]
        split <;> rfl
    | succ i =>
      have hk : i / 2 < k := by omega
      have ih := fun m => Tr.get_put k .nil (i / 2) m o hk
      have hn : ∀ m, Tr.get .nil m = none := fun _ => rfl
      have e0 := ih (i / 2)
      rw [if_pos rfl] at e0
      by_cases hi : i % 2 = 0
      · have e : Tr.put (k + 1) .nil (i + 1) o = (match Tr.put k .nil (i / 2) o with | .nil => .nil | .nd a b c => .nd none (.nd a b c) .nil) := by
          show (match i % 2 with | 0 => _ | _ => _) = _
          rw [hi] <;> rfl
        rw [e]
        cases q : Tr.put k .nil (i / 2) o with
        | nil => rw [q] at e0; cases e0
        | nd a b c =>
          rw [q] at ih
          cases j with
          | zero => rfl
          | succ j =>
            show (match j % 2 with | 0 => Tr.get (.nd a b c) (j / 2) | _ => Tr.get .nil (j / 2)) = _
            by_cases hj : j % 2 = 0
            · rw [hj]
              show Tr.get (.nd a b c) (j / 2) = _
              rw [ih]
              by_cases z : j = i
              · rw [z, if_pos rfl, if_pos rfl]
              · rw [if_neg (by omega), if_neg (by omega)]
                rfl
            · have hj1 : j % 2 = 1 := by omega
              rw [hj1, if_neg (by omega)]
              rfl
      · have hi1 : i % 2 = 1 := by omega
        have e : Tr.put (k + 1) .nil (i + 1) o = (match Tr.put k .nil (i / 2) o with | .nil => .nil | .nd a b c => .nd none .nil (.nd a b c)) := by
          show (match i % 2 with | 0 => _ | _ => _) = _
          rw [hi1] <;> rfl
        rw [e]
        cases q : Tr.put k .nil (i / 2) o with
        | nil => rw [q] at e0; cases e0
        | nd a b c =>
          rw [q] at ih
          cases j with
          | zero => rfl
          | succ j =>
            show (match j % 2 with | 0 => Tr.get .nil (j / 2) | _ => Tr.get (.nd a b c) (j / 2)) = _
            by_cases hj : j % 2 = 0
            · rw [hj, if_neg (by omega)]
              rfl
            · have hj1 : j % 2 = 1 := by omega
              rw [hj1]
              show Tr.get (.nd a b c) (j / 2) = _
              rw [ih]
              by_cases z : j = i
              · rw [z, if_pos rfl, if_pos rfl]
              · rw [if_neg (by omega), if_neg (by omega)]
                rfl
  | k + 1, .nd v l r, i, j, o, h => by
    cases i with
    | zero =>
      cases j with
      | zero => rfl
      | succ j => rw [if_neg (Nat.succ_ne_zero j)]; rfl
    | succ i =>
      have hk : i / 2 < k := by omega
      by_cases hi : i % 2 = 0
      · have ih := fun m => Tr.get_put k l (i / 2) m o hk
        have e0 := ih (i / 2)
        rw [if_pos rfl] at e0
        have e : Tr.put (k + 1) (.nd v l r) (i + 1) o = (match Tr.put k l (i / 2) o with | .nil => .nd v .nil r | .nd a b c => .nd v (.nd a b c) r) := by
          show (match i % 2 with | 0 => _ | _ => _) = _
          rw [hi] <;> rfl
        rw [e]
        cases q : Tr.put k l (i / 2) o with
        | nil => rw [q] at e0; cases e0
        | nd a b c =>
          rw [q] at ih
          cases j with
          | zero => rfl
          | succ j =>
            show (match j % 2 with | 0 => Tr.get (.nd a b c) (j / 2) | _ => Tr.get r (j / 2)) = if j + 1 = i + 1 then some o else (match j % 2 with | 0 => Tr.get l (j / 2) | _ => Tr.get r (j / 2))
            by_cases hj : j % 2 = 0
            · rw [hj]
              show Tr.get (.nd a b c) (j / 2) = if j + 1 = i + 1 then some o else Tr.get l (j / 2)
              rw [ih]
              by_cases z : j = i
              · rw [z, if_pos rfl, if_pos rfl]
              · rw [if_neg (by omega), if_neg (by omega)]
            · have hj1 : j % 2 = 1 := by omega
              rw [hj1, if_neg (by omega)]
              rfl
      · have hi1 : i % 2 = 1 := by omega
        have ih := fun m => Tr.get_put k r (i / 2) m o hk
        have e0 := ih (i / 2)
        rw [if_pos rfl] at e0
        have e : Tr.put (k + 1) (.nd v l r) (i + 1) o = (match Tr.put k r (i / 2) o with | .nil => .nd v l .nil | .nd a b c => .nd v l (.nd a b c)) := by
          show (match i % 2 with | 0 => _ | _ => _) = _
          rw [hi1] <;> rfl
        rw [e]
        cases q : Tr.put k r (i / 2) o with
        | nil => rw [q] at e0; cases e0
        | nd a b c =>
          rw [q] at ih
          cases j with
          | zero => rfl
          | succ j =>
            show (match j % 2 with | 0 => Tr.get l (j / 2) | _ => Tr.get (.nd a b c) (j / 2)) = if j + 1 = i + 1 then some o else (match j % 2 with | 0 => Tr.get l (j / 2) | _ => Tr.get r (j / 2))
            by_cases hj : j % 2 = 0
            · rw [hj, if_neg (by omega)]
              rfl
            · have hj1 : j % 2 = 1 := by omega
              rw [hj1]
              show Tr.get (.nd a b c) (j / 2) = if j + 1 = i + 1 then some o else Tr.get r (j / 2)
              rw [ih]
              by_cases z : j = i
              · rw [z, if_pos rfl, if_pos rfl]
              · rw [if_neg (by omega), if_neg (by omega)]

/-- a virtual heap: so many objects; the zip that is made and not gone through yet -/
structure Hv where
  n : Nat
  t : Tr
  z : Option (Nat × (W × Bool) × (W × Bool)) := none
def Hv.get (h : Hv) (i : Nat) : Option O := match Nat.blt i h.n with
  | true => h.t.get i
  | false => none
def Hv.set (h : Hv) (i : Nat) (o : O) : Hv := ⟨h.n, h.t.put (i + 1) i o, h.z⟩
def Hv.push (h : Hv) (o : O) : Hv := ⟨h.n + 1, h.t.put (h.n + 1) h.n o, h.z⟩
def Hv.setz (h : Hv) (z : Option (Nat × (W × Bool) × (W × Bool))) : Hv := ⟨h.n, h.t, z⟩
theorem Hv.get_none {h : Hv} {i : Nat} (hi : h.n ≤ i) : h.get i = none := by
  unfold Hv.get
  have : Nat.blt i h.n = false := by
    cases q : Nat.blt i h.n with
    | false => rfl
    | true => exact absurd (Nat.le_of_ble_eq_true q) (by omega)
  rw [this]
theorem Hv.get_lt {h : Hv} {i : Nat} {o : O} (e : h.get i = some o) : i < h.n := by
  by_cases hi : h.n ≤ i
  · rw [Hv.get_none hi] at e; cases e
  · omega
theorem Hv.get_eq {h : Hv} {i : Nat} (hi : i < h.n) : h.get i = h.t.get i := by
  unfold Hv.get
  have : Nat.blt i h.n = true := Nat.ble_eq_true_of_le hi
  rw [this]
theorem Hv.get_set {h : Hv} {i j : Nat} {o : O} (hi : i < h.n) : (h.set i o).get j = if j = i then some o else h.get j := by
  by_cases hj : j < h.n
  · rw [Hv.get_eq (h := h.set i o) hj, Hv.get_eq hj]
    exact Tr.get_put _ _ _ _ _ (Nat.lt_succ_self i)
  · rw [Hv.get_none (h := h.set i o) (by show h.n ≤ j; omega), if_neg (by omega), Hv.get_none (by omega)]
theorem Hv.get_push {h : Hv} {j : Nat} {o : O} : (h.push o).get j = if j = h.n then some o else h.get j := by
  by_cases hj : j < h.n + 1
  · rw [Hv.get_eq (h := h.push o) hj]
    refine (Tr.get_put _ _ _ _ _ (Nat.lt_succ_self h.n)).trans ?_
    by_cases z : j = h.n
    · rw [if_pos z, if_pos z]
    · rw [if_neg z, if_neg z, Hv.get_eq (by omega)]
  · rw [Hv.get_none (h := h.push o) (by show h.n + 1 ≤ j; omega), if_neg (by omega), Hv.get_none (by omega)]
theorem Hv.get_setz {h : Hv} {j : Nat} {z : Option (Nat × (W × Bool) × (W × Bool))} : (h.setz z).get j = h.get j := rfl
theorem Hv.set_z {h : Hv} {i : Nat} {o : O} : (h.set i o).z = h.z := rfl
theorem Hv.push_z {h : Hv} {o : O} : (h.push o).z = h.z := rfl
theorem Hv.push_n {h : Hv} {o : O} : (h.push o).n = h.n + 1 := rfl
theorem Hv.set_n {h : Hv} {i : Nat} {o : O} : (h.set i o).n = h.n := rfl
end RP


set_option Elab.async false
set_option linter.all false
set_option maxRecDepth 100000
set_option maxHeartbeats 4000000
/-! RP1: the inner language and its machine. -/
namespace RP
open PySem

/-! ### outcomes -/
inductive Res (α : Type) where
  | ok (a : α) (h : Hv)
  | ex (c : Nat) (fs : List (Str × W)) (h : Hv)
  | no
def Res.bind {α β : Type} (r : Res α) (f : α → Hv → Res β) : Res β := match r with
  | .ok a h => f a h
  | .ex c fs h => .ex c fs h
  | .no => .no
/-- no exception leaves a comprehension -/
def Res.nox {α : Type} (r : Res α) : Res α := match r with
  | .ok a h => .ok a h
  | .ex .. => .no
  | .no => .no
abbrev Env := List (Option W)
inductive Out where
  | nx (e : Env) | rt (w : W) | bk (e : Env) | ct (e : Env)

/-! ### values -/
def isNon : W → Bool
  | .non => true
  | _ => false
def wOfCs : Cs → W
  | .non => .non
  | .bl b => .bl b
  | .int i => .int i
  | .str s => .str s
  | .fn i => .fn i

def seqOf (h : Hv) : W → Option (List W)
  | .ref n => (match h.get n with
    | some (.lst xs) => some xs
    | some (.rls xs) => some xs
    | some (.tup xs) => some xs
    | _ => none)
  | _ => none
def dctOf (h : Hv) : W → Option (List (Key × W))
  | .ref n => (match h.get n with
    | some (.dct kvs) => some kvs
    | _ => none)
  | _ => none
def keyOf : W → Option Key
  | .int i => some (.inl i)
  | .str s => some (.inr s)
  | _ => none
def wOfKey : Key → W
  | .inl i => .int i
  | .inr s => .str s
def lookK : List (Key × W) → Key → Option W
  | [], _ => none
  | (a, w) :: r, k => if a = k then some w else lookK r k
def putK : List (Key × W) → Key → W → List (Key × W)
  | [], k, w => [(k, w)]
  | (a, v) :: r, k, w => if a = k then (a, w) :: r else (a, v) :: putK r k w
def dropK : List (Key × W) → Key → List (Key × W)
  | [], _ => []
  | (a, v) :: r, k => if a = k then r else (a, v) :: dropK r k
def lookF : List (Str × W) → Str → Option W
  | [], _ => none
  | (a, w) :: r, k => if a = k then some w else lookF r k
def putFd : List (Str × W) → Str → W → List (Str × W)
  | [], k, w => [(k, w)]
  | (a, v) :: r, k, w => if a = k then (a, w) :: r else (a, v) :: putFd r k w
def truth (h : Hv) : W → Option Bool
  | .non => some false
  | .bl b => some b
  | .int i => some (i != 0)
  | .str s => if s.length ≤ sizeLine then some ((s.length : Int) != 0) else none
  | .ref n => (match h.get n with
    | some (.lst xs) => some (!xs.isEmpty)
    | some (.rls xs) => some (!xs.isEmpty)
    | some (.tup xs) => some (!xs.isEmpty)
    | some (.dct kvs) => some (!kvs.isEmpty)
    | _ => none)
  | _ => none
/-- a value as data, so many levels deep -/
def rd (h : Hv) : Nat → W → Option PyData
  | 0, _ => none
  | k + 1, w => match w with
    | .non => some .none
    | .bl b => some (.bool b)
    | .int i => some (.int i)
    | .str s => some (.str s)
    | .ref n => (match h.get n with
      | some (.lst xs) => (xs.mapM (rd h k)).map .list
      | some (.rls xs) => (xs.mapM (rd h k)).map .list
      | some (.tup xs) => (xs.mapM (rd h k)).map .tuple
      | _ => none)
    | _ => none
def rdD (h : Hv) (w : W) : Option PyData := match rd h 62 w with
  | some d => if SeqAt.shaped d then some d else none
  | none => none
def eqP (h : Hv) (a b : W) : Option Bool := match rdD h a, rdD h b with
  | some d, some e => some (PyData.eqv d e)
  | _, _ => none
/-- equality of dicts: each entry of one is met by an equal one of other -/
def eqKs (h : Hv) (ls : List (Key × W)) : List (Key × W) → Option Bool
  | [] => some true
  | (k, w) :: r => (match lookK ls k with
    | none => some false
    | some v => (match eqP h w v, eqKs h ls r with
      | some e, some b => some (e && b)
      | _, _ => none))
def eqW (h : Hv) (a b : W) : Option Bool := match dctOf h a, dctOf h b with
  | some ks, some ls => if ks.length = ls.length then eqKs h ls ks else some false
  | none, none => eqP h a b
  | _, _ => none
def flatW : W → Bool
  | .non => true
  | .bl _ => true
  | .int _ => true
  | .str _ => true
  | _ => false
def leafEq : W → W → Bool
  | .non, .non => true
  | .bl a, .bl b => a == b
  | .bl a, .int b => (if a then 1 else 0) == b
  | .int a, .bl b => a == (if b then 1 else 0)
  | .int a, .int b => a == b
  | .str a, .str b => a == b
  | _, _ => false
def inW (h : Hv) (a b : W) : Option Bool := match a, b with
  | .str x, .str y => some (!(Builtin.Str.occurrences y x 0 y.length 1).isEmpty)
  | _, .ref n => (match h.get n with
    | some (.dct kvs) => (match keyOf a with
      | some k => some (lookK kvs k).isSome
      | none => none)
    | some (.wdc kvs) => (match a with
      | .str s => some (lookF kvs s).isSome
      | _ => none)
    | some (.clo ..) => none
    | some (.tup xs) => if flatW a && xs.all flatW then some (xs.any fun y => leafEq y a) else none
    | _ => (match rdD h a, rdD h b with
      | some d, some (.list ds) => some (ds.any fun z => PyData.eqv z d)
      | _, _ => none))
  | _, _ => none
/-- order of texts, of lists of texts -/
def ltStrs : List Str → List Str → Bool
  | [], [] => false
  | [], _ :: _ => true
  | _ :: _, [] => false
  | a :: r, b :: t => if a = b then ltStrs r t else decide (a.cps.toList < b.cps.toList)
def strsOf : List W → Option (List Str)
  | [] => some []
  | .str s :: r => (strsOf r).map (s :: ·)
  | _ :: _ => none
def isLst (h : Hv) : W → Bool
  | .ref n => (match h.get n with
    | some (.lst _) => true
    | some (.rls _) => true
    | _ => false)
  | _ => false
def ltW (h : Hv) (a b : W) : Option Bool := match a, b with
  | .int i, .int j => some (decide (i < j))
  | .str x, .str y => some (decide (x.cps.toList < y.cps.toList))
  | a, b => if isLst h a && isLst h b then (match (seqOf h a).bind strsOf, (seqOf h b).bind strsOf with
      | some x, some y => some (ltStrs x y)
      | _, _ => none) else none
def cmpW (h : Hv) (o : CmpOp) (a b : W) : Option Bool := match o with
  | .Eq => eqW h a b
  | .NotEq => (match dctOf h a, dctOf h b with
    | none, none => (eqP h a b).map (!·)
    | _, _ => none)
  | .Lt => ltW h a b
  | .Gt => (match a, b with
    | .int i, .int j => some (decide (j < i))
    | _, _ => none)
  | .LtE => (match a, b with
    | .int i, .int j => some (decide (i ≤ j))
    | _, _ => none)
  | .GtE => (match a, b with
    | .int i, .int j => some (decide (j ≤ i))
    | _, _ => none)
  | .Is => (match b with
    | .non => some (isNon a)
    | _ => none)
  | .IsNot => (match b with
    | .non => some (!isNon a)
    | _ => none)
  | .In => inW h a b
  | .NotIn => (inW h a b).map (!·)
def seqAdd (h : Hv) (a b : W) : Res W := match a, b with
  | .ref n, .ref m => (match h.get n, h.get m with
    | some (.lst xs), some (.lst ys) => if xs.length + ys.length ≤ 16777216 then .ok (.ref h.n) (h.push (.lst (xs ++ ys))) else .no
    | some (.tup xs), some (.tup ys) => if xs.length + ys.length ≤ 16777216 then (match xs, ys with
      | [], _ => .no
      | _ :: _, [] => .ok (.ref n) h
      | x :: xs, y :: ys => .ok (.ref h.n) (h.push (.tup ((x :: xs) ++ (y :: ys))))) else .no
    | _, _ => .no)
  | _, _ => .no
def binW (h : Hv) (o : Operator) (a b : W) : Res W := match o, a, b with
  | .Add, .int i, .int j => .ok (.int (i + j)) h
  | .Add, .str x, .str y => if x.length + y.length ≤ 16777216 then .ok (.str (x ++ y)) h else .no
  | .Add, a, b => seqAdd h a b
  | .Sub, .int i, .int j => .ok (.int (i - j)) h
  | .Mult, .int i, .int j => if (-(2 ^ 64) < i ∧ i < 2 ^ 64) ∨ (-(2 ^ 64) < j ∧ j < 2 ^ 64) then .ok (.int (i * j)) h else .no
  | .Mult, .ref n, .int k => (match h.get n with
    | some (.lst xs) => if -(2 ^ 63) ≤ k ∧ k < 2 ^ 63 ∧ xs.length * k.toNat ≤ 16777216 then .ok (.ref h.n) (h.push (.lst (List.replicate k.toNat xs).flatten)) else .no
    | _ => .no)
  | .FloorDiv, .int i, .int j => if j ≠ 0 ∧ j.natAbs < 1073741824 then .ok (.int (i.fdiv j)) h else .no
  | .Mod, .int i, .int j => if j ≠ 0 then .ok (.int (i.fmod j)) h else .no
  | .Pow, .int i, .int j => if 0 ≤ j ∧ j ≤ 1000000 ∧ i.natAbs < 2 ^ 64 then .ok (.int (i ^ j.toNat)) h else .no
  | .LShift, .int i, .int j => if 0 ≤ j ∧ j ≤ 1000000 ∧ i.natAbs < 2 ^ 64 then .ok (.int (i * 2 ^ j.toNat)) h else .no
  | .RShift, .int i, .int j => if 0 ≤ j then .ok (.int (i / 2 ^ j.toNat)) h else .no
  | .BitAnd, .int i, .int j => .ok (.int (Builtin.bitAnd i j)) h
  | .BitOr, .int i, .int j => .ok (.int (Builtin.bitOr i j)) h
  | _, _, _ => .no
def unW (o : UnaryOp) (a : W) : Option W := match o, a with
  | .USub, .int i => some (.int (-i))
  | .Invert, .int i => some (.int (Builtin.bitNot i))
  | _, _ => none
/-- the place of an index -/
def ixP (n : Nat) (i : Int) : Option Nat := if 0 ≤ i then (if i < n then some i.toNat else none) else if -(n : Int) ≤ i then some (i + n).toNat else none
def strOfW : W → Option Str
  | .str s => some s
  | _ => none
def seqIx (xs : List W) : W → Option W
  | .int k => (match ixP xs.length k with
    | some j => xs[j]?
    | none => none)
  | _ => none
def refIx (h : Hv) (n : Nat) (i : W) : Option W := match h.get n with
  | some (.dct kvs) => (match keyOf i with
    | some k => lookK kvs k
    | none => none)
  | some (.wdc kvs) => (match strOfW i with
    | some s => lookF kvs s
    | none => none)
  | _ => (match seqOf h (.ref n) with
    | some xs => seqIx xs i
    | none => none)
def idxW (h : Hv) (a i : W) : Option W := match a with
  | .str s => (match i with
    | .int k => if s.length ≤ 16777216 then (match ixP s.cps.toList.length k with
      | some j => (s.cps.toList[j]?).map fun c => .str ⟨#[c]⟩
      | none => none) else none
    | _ => none)
  | .ref n => refIx h n i
  | _ => none
def cutP (n d : Nat) : Option Int → Nat
  | none => d
  | some v => if v < 0 then (v + (n : Int)).toNat else min v.toNat n
def cutW (xs : List W) (lo hi : Option Int) : List W := (xs.drop (cutP xs.length 0 lo)).take (cutP xs.length xs.length hi - cutP xs.length 0 lo)
def slcW (h : Hv) (a : W) (lo hi : Option Int) : Res W := match a with
  | .ref n => (match h.get n with
    | some (.lst xs) => .ok (.ref h.n) (h.push (.lst (cutW xs lo hi)))
    | some (.tup xs) => if cutP xs.length 0 lo = 0 ∧ cutP xs.length xs.length hi = xs.length then .no else .ok (.ref h.n) (h.push (.tup (cutW xs lo hi)))
    | _ => .no)
  | _ => .no
def blsOf : List W → Option (List Bool)
  | [] => some []
  | .bl b :: r => (blsOf r).map (b :: ·)
  | _ :: _ => none
def intsOf : List W → Option (List Int)
  | [] => some []
  | .int b :: r => (intsOf r).map (b :: ·)
  | _ :: _ => none
/-- sorting by keys -/
def insG {κ β : Type} (lt : κ → κ → Bool) (x : κ × β) : List (κ × β) → List (κ × β)
  | [] => [x]
  | y :: r => if lt x.1 y.1 then x :: y :: r else y :: insG lt x r
def isortG {κ β : Type} (lt : κ → κ → Bool) : List (κ × β) → List (κ × β)
  | [] => []
  | x :: r => insG lt x (isortG lt r)
def strictG {κ β : Type} (lt : κ → κ → Bool) : List (κ × β) → Bool
  | [] => true
  | x :: r => (match r with
    | [] => true
    | y :: _ => lt x.1 y.1) && strictG lt r
def ltS (a b : Str) : Bool := decide (a.cps.toList < b.cps.toList)
def rowsOf (h : Hv) : List W → Option (List (List Str × W))
  | [] => some []
  | w :: r => if isLst h w then (match (seqOf h w).bind strsOf, rowsOf h r with
    | some x, some l => some ((x, w) :: l)
    | _, _ => none) else none
def sortedW (h : Hv) (a : W) : Option (List W) := match dctOf h a with
  | some kvs => (match strsOf (kvs.map fun kv => wOfKey kv.1) with
    | some l => if strictG ltS (isortG ltS (l.map fun s => (s, W.str s))) && decide (l.length < 64) then some ((isortG ltS (l.map fun s => (s, W.str s))).map (·.2)) else none
    | none => none)
  | none => if isLst h a then (match seqOf h a with
    | some xs => (match strsOf xs with
      | some l => if strictG ltS (isortG ltS (l.map fun s => (s, W.str s))) then some ((isortG ltS (l.map fun s => (s, W.str s))).map (·.2)) else none
      | none => (match rowsOf h xs with
        | some l => if strictG ltStrs (isortG ltStrs l) then some ((isortG ltStrs l).map (·.2)) else none
        | none => none))
    | none => none) else none
def biW1 (h : Hv) (b : Bi) (w : W) : Res W := match b with
  | .len => (match w with
    | .str s => if s.length ≤ 16777216 then .ok (.int s.length) h else .no
    | w => (match seqOf h w with
      | some xs => .ok (.int xs.length) h
      | none => (match dctOf h w with
        | some kvs => .ok (.int kvs.length) h
        | none => .no)))
  | .list => (match w with
    | .ref n => (match h.get n with
      | some (.wdc kvs) => .ok (.ref h.n) (h.push (.lst (kvs.map fun kv => .str kv.1)))
      | _ => (match seqOf h (.ref n) with
        | some xs => .ok (.ref h.n) (h.push (.lst xs))
        | none => .no))
    | _ => .no)
  | .tuple => (match w with
    | .ref n => (match h.get n with
      | some (.tup _) => .ok w h
      | some (.lst xs) => .ok (.ref h.n) (h.push (.tup xs))
      | _ => .no)
    | _ => .no)
  | .all => if isLst h w then (match (seqOf h w).bind blsOf with
    | some bs => .ok (.bl (bs.all id)) h
    | none => .no) else .no
  | .any => if isLst h w then (match (seqOf h w).bind blsOf with
    | some bs => .ok (.bl (bs.any id)) h
    | none => .no) else .no
  | .sum => if isLst h w then (match (seqOf h w).bind intsOf with
    | some bs => .ok (.int bs.sum) h
    | none => .no) else .no
  | .sorted => (match sortedW h w with
    | some xs => .ok (.ref h.n) (h.push (.lst xs))
    | none => .no)
  | .abs => (match w with
    | .int i => .ok (.int (if i < 0 then -i else i)) h
    | _ => .no)
  | .int => (match w with
    | .int i => .ok (.int i) h
    | _ => .no)
  | .dict => (match dctOf h w with
    | some kvs => .ok (.ref h.n) (h.push (.dct kvs))
    | none => .no)
def biW (h : Hv) (b : Bi) (vs : List W) : Res W := match vs with
  | [w] => biW1 h b w
  | _ => .no
def lstOf (h : Hv) : W → Option (Nat × List W)
  | .ref n => (match h.get n with
    | some (.lst xs) => some (n, xs)
    | _ => none)
  | _ => none
def intOf : W → Option Int
  | .int i => some i
  | _ => none
def popAt (h : Hv) (n : Nat) (xs : List W) (i : Int) : Res W := if -(2 ^ 63) ≤ i ∧ i < 2 ^ 63 then (match ixP xs.length i with
  | some k => (match xs[k]? with
    | some w => .ok w (h.set n (.lst (xs.eraseIdx k)))
    | none => .no)
  | none => .no) else .no
def bmW (h : Hv) (m : Bm) (o : W) (vs : List W) : Res W := match m with
  | .append => (match lstOf h o, vs with
    | some (n, xs), [w] => if xs.length < 16777216 then .ok .non (h.set n (.lst (xs ++ [w]))) else .no
    | _, _ => .no)
  | .extend => (match lstOf h o, vs with
    | some (n, xs), [w] => (match lstOf h w with
      | some (_, ys) => if xs.length + ys.length ≤ 16777216 then .ok .non (h.set n (.lst (xs ++ ys))) else .no
      | none => .no)
    | _, _ => .no)
  | .pop => (match lstOf h o with
    | some (n, xs) => (match vs with
      | [] => (match xs[xs.length - 1]? with
        | some w => .ok w (h.set n (.lst xs.dropLast))
        | none => .no)
      | [w] => (match intOf w with
        | some i => popAt h n xs i
        | none => .no)
      | _ => .no)
    | none => .no)
  | .index => (match vs with
    | [w] => (match rdD h w, rdD h o with
      | some d, some (.list ds) => (match ds.findIdx? fun z => PyData.eqv z d with
        | some j => .ok (.int j) h
        | none => .no)
      | _, _ => .no)
    | _ => .no)
  | .split => (match strOfW o, vs with
    | some s, [] => if s.length + 2 ≤ 16777216 then .ok (.ref h.n) (h.push (.lst ((PySem.Txt.words s).map .str))) else .no
    | _, _ => .no)
  | .get => (match dctOf h o with
    | some kvs => (match vs with
      | [i] => (match keyOf i with
        | some k => .ok ((lookK kvs k).getD .non) h
        | none => .no)
      | [i, w] => (match keyOf i with
        | some k => .ok ((lookK kvs k).getD w) h
        | none => .no)
      | _ => .no)
    | none => .no)
/-- the kind of what a method is asked of -/
def bmOk (h : Hv) (m : Bm) (o : W) : Bool := match m with
  | .split => (strOfW o).isSome
  | .get => (dctOf h o).isSome
  | _ => isLst h o
def setIdxW (h : Hv) (o i w : W) : Option Hv := match lstOf h o with
  | some (n, xs) => (match intOf i with
    | some k => (match ixP xs.length k with
      | some j => some (h.set n (.lst (xs.set j w)))
      | none => none)
    | none => none)
  | none => (match o with
    | .ref n => (match dctOf h o with
      | some kvs => (match keyOf i with
        | some k => if kvs.length < 16777216 then some (h.set n (.dct (putK kvs k w))) else none
        | none => none)
      | none => none)
    | _ => none)
def isiW (p : Pg) (h : Hv) (w : W) : Ty1 → Option Bool
  | .int => some (match w with
    | .int _ => true
    | .bl _ => true
    | _ => false)
  | .str => some (match w with
    | .str _ => true
    | _ => false)
  | .bool => some (match w with
    | .bl _ => true
    | _ => false)
  | .list => some (match w with
    | .ref n => (match h.get n with
      | some (.lst _) => true
      | some (.rls _) => true
      | _ => false)
    | _ => false)
  | .tuple => some (match w with
    | .ref n => (match h.get n with
      | some (.tup _) => true
      | _ => false)
    | _ => false)
  | .dict => some (match w with
    | .ref n => (match h.get n with
      | some (.dct _) => true
      | _ => false)
    | _ => false)
  | .own c => some (match w with
    | .ref n => (match h.get n with
      | some (.ins d _) => d == c
      | _ => false)
    | _ => false)
def setEnv : Env → Nat → Option W → Env
  | [], _, _ => []
  | _ :: r, 0, w => w :: r
  | x :: r, i + 1, w => x :: setEnv r i w
/-- no local function is seen within a comprehension -/
def dropPend : Env → Env
  | [] => []
  | some (.pend _) :: r => none :: dropPend r
  | some (.zipv _) :: r => none :: dropPend r
  | x :: r => x :: dropPend r
def wipeE (env : Env) : List Nat → Env
  | [] => env
  | i :: r => setEnv (wipeE env r) i none
end RP

set_option Elab.async false
set_option linter.all false
set_option maxRecDepth 100000
set_option maxHeartbeats 4000000
/-! RP2: the machine. -/
namespace RP
open PySem

/-! ### walks -/
inductive ItV where
  | seq (w : W) (k : Bool) | rng (lo : Int) (n : Nat) | enm (w : W) (k : Bool) | zp (a : W) (ka : Bool) (b : W) (kb : Bool) | zp3 (a : W) (ka : Bool) (b : W) (kb : Bool) (c : W) (kc : Bool) | sg (s : Str)
/-- the i-th turn: an item and the heap behind it, or the end -/
inductive Nx where
  | item (w : W) (h : Hv) | stop | bad
/-- the items of a sequence that is a list (or else a tuple) -/
def seqK (h : Hv) (w : W) (k : Bool) : Option (List W) := if isLst h w = k then seqOf h w else none
def nxt (it : ItV) (i : Nat) (h : Hv) : Nx := match it with
  | .seq w k => (match seqK h w k with
    | some xs => (match xs[i]? with
      | some x => .item x h
      | none => .stop)
    | none => .bad)
  | .rng lo n => if i < n then .item (.int (lo + i)) h else .stop
  | .enm w k => (match seqK h w k with
    | some xs => (match xs[i]? with
      | some x => .item (.ref h.n) (h.push (.tup [.int i, x]))
      | none => .stop)
    | none => .bad)
  | .zp a ka b kb => (match seqK h a ka, seqK h b kb with
    | some xs, some ys => if i ≤ xs.length ∧ i ≤ ys.length then (match xs[i]?, ys[i]? with
      | some x, some y => .item (.ref h.n) (h.push (.tup [x, y]))
      | _, _ => .stop) else .bad
    | _, _ => .bad)
  | .zp3 a ka b kb c kc => (match seqK h a ka, seqK h b kb, seqK h c kc with
    | some xs, some ys, some zs => if i ≤ xs.length ∧ i ≤ ys.length ∧ i ≤ zs.length then (match xs[i]?, ys[i]?, zs[i]? with
      | some x, some y, some z => .item (.ref h.n) (h.push (.tup [x, y, z]))
      | _, _, _ => .stop) else .bad
    | _, _, _ => .bad)
  | .sg s => (match s.cps[i]? with
    | some c => .item (.str ⟨#[c]⟩) h
    | none => .stop)
/-- a for: k bounds the turns -/
def forL (it : ItV) (body : W → Env → Hv → Res Out) : Nat → Nat → Env → Hv → Res Out
  | 0, _, _, _ => .no
  | k + 1, i, env, h => match nxt it i h with
    | .bad => .no
    | .stop => .ok (.nx env) h
    | .item w h => (body w env h).bind fun o h => match o with
      | .nx env => forL it body k (i + 1) env h
      | .ct env => forL it body k (i + 1) env h
      | .bk env => .ok (.nx env) h
      | .rt w => .ok (.rt w) h
/-- a comprehension's list: acc is what is made so far, reversed not -/
def lcL (it : ItV) (turn : W → Hv → Res (Option W)) : Nat → Nat → List W → Hv → Res (List W)
  | 0, _, _, _ => .no
  | k + 1, i, acc, h => match nxt it i h with
    | .bad => .no
    | .stop => .ok acc h
    | .item w h => (turn w h).bind fun o h => match o with
      | some v => if acc.length < 16777216 then lcL it turn k (i + 1) (acc ++ [v]) h else .no
      | none => lcL it turn k (i + 1) acc h
def dcL (it : ItV) (turn : W → Hv → Res (Key × W)) : Nat → Nat → List (Key × W) → Hv → Res (List (Key × W))
  | 0, _, _, _ => .no
  | k + 1, i, acc, h => match nxt it i h with
    | .bad => .no
    | .stop => .ok acc h
    | .item w h => (turn w h).bind fun o h => if acc.length < 16777216 then dcL it turn k (i + 1) (putK acc o.1 o.2) h else .no
def whL (test : Env → Hv → Res Bool) (body : Env → Hv → Res Out) : Nat → Env → Hv → Res Out
  | 0, _, _ => .no
  | k + 1, env, h => (test env h).bind fun b h => match b with
    | false => .ok (.nx env) h
    | true => (body env h).bind fun o h => match o with
      | .nx env => whL test body k env h
      | .ct env => whL test body k env h
      | .bk env => .ok (.nx env) h
      | .rt w => .ok (.rt w) h
/-- how many turns a walk has at most -/
def turns (it : ItV) (h : Hv) : Nat := match it with
  | .seq w _ => (match seqOf h w with
    | some xs => xs.length + 1
    | none => 0)
  | .rng _ n => n + 1
  | .enm w _ => (match seqOf h w with
    | some xs => xs.length + 1
    | none => 0)
  | .zp a _ _ _ => (match seqOf h a with
    | some xs => xs.length + 1
    | none => 0)
  | .zp3 a _ _ _ _ _ => (match seqOf h a with
    | some xs => xs.length + 1
    | none => 0)
  | .sg s => s.cps.size + 1

/-! ### calls -/
structure Orc where
  fn : Nat → List W → Hv → Res W
  lm : Lm → List W → List W → Hv → Res W
def clean : W → Bool
  | .pend _ => false
  | .zipv _ => false
  | _ => true
def capsOf (env : Env) : List Nat → Option (List W)
  | [] => some []
  | j :: r => match env[j]? with
    | some (some w) => if clean w then (capsOf env r).map (w :: ·) else none
    | _ => none
/-- the arguments handed on: a local function becomes an object while the call lasts, one at most -/
def publish (env : Env) : List W → Hv → Option (List W × Option Nat × Hv)
  | [], h => some ([], none, h)
  | w :: r, h => match w with
    | .pend l => if r.all clean then (match capsOf env l.caps with
      | some cs => some (.ref h.n :: r, some h.n, h.push (.clo l cs))
      | none => none) else none
    | w => if clean w then (match publish env r h with
      | some (ws, n, h') => some (w :: ws, n, h')
      | none => none) else none
def killR (n : Option Nat) (r : Res W) : Res W := match n with
  | none => r
  | some n => (match r with
    | .ok w h => (match h.get n with
      | some (.clo ..) => .ok w (h.set n .dead)
      | _ => .no)
    | .ex c fs h => (match h.get n with
      | some (.clo ..) => .ex c fs (h.set n .dead)
      | _ => .no)
    | .no => .no)
/-- a local function stands again behind its call -/
def wakeR (n : Nat) (l : Lm) (cs : List W) : Res W → Res W
  | .ok w h => .ok w (h.set n (.clo l cs))
  | .ex c fs h => .ex c fs (h.set n (.clo l cs))
  | .no => .no
def methOf (p : Pg) (c : Nat) (m : Str) : Option Nat := match p.clss[c]? with
  | some cl => (cl.meths.find? fun q => q.1 == m).map (·.2)
  | none => none
/-- the class is one of plain instances -/
def insCl (p : Pg) (c : Nat) : Bool := match p.clss[c]? with
  | some cl => !cl.exc
  | none => false
/-- whether isinstance of this value is served -/
def isiOk (p : Pg) (h : Hv) : W → Bool
  | .non => true
  | .bl _ => true
  | .int _ => true
  | .str _ => true
  | .ref n => (match h.get n with
    | some (.lst _) => true
    | some (.rls _) => true
    | some (.tup _) => true
    | some (.dct _) => true
    | some (.ins d _) => insCl p d
    | _ => false)
  | _ => false
def methI (p : Pg) (c : Nat) (m : Str) : Option Nat := if insCl p c then methOf p c m else none
def fldOf (p : Pg) (c : Nat) (f : Str) : Bool := insCl p c && match p.clss[c]? with
  | some cl => cl.flds.any fun g => g == f
  | none => false
def initS : Str := "__init__"
def exUp (p : Pg) (c d : Nat) : Bool := match p.clss[c]? with
  | some cl => cl.ups.any fun u => u == d
  | none => false
/-- the __init__ of a class of exceptions -/
def excI (p : Pg) (c : Nat) : Option Nat := match p.clss[c]? with
  | some cl => if cl.exc then methOf p c initS else none
  | none => none
/-- whether a clause takes an exception -/
def exQ (p : Pg) (d c : Nat) : Option Bool := match excI p d, p.clss[c]? with
  | some _, some cl => if cl.exc then some (exUp p d c) else none
  | _, _ => none
/-- targets -/
def bindT : List (Option W → Option W) → Unit := fun _ => ()

/-- a comparison: an own instance's == is its method's -/
def insOf (h : Hv) : W → Option Nat
  | .ref n => (match h.get n with
    | some (.ins c _) => some c
    | _ => none)
  | _ => none
def eqS : Str := "__eq__"
/-- what an own == is asked about -/
def eqOther (h : Hv) (c : Nat) : W → Bool
  | .int _ => true
  | .non => true
  | .ref n => (match h.get n with
    | some (.ins d _) => d == c
    | _ => false)
  | _ => false
def cmpE (p : Pg) (K : Orc) (h : Hv) (o : CmpOp) (x y : W) : Res W := match insOf h x with
  | some c => (match o, methI p c eqS with
    | .Eq, some f => if eqOther h c y then (K.fn f [x, y] h).bind fun w h => (match w with
      | .bl b => .ok (.bl b) h
      | _ => .no) else .no
    | _, _ => .no)
  | none => (match insOf h y with
    | some c => (match o, methI p c eqS, x with
      | .Eq, some f, .int _ => (K.fn f [y, x] h).bind fun w h => (match w with
        | .bl b => .ok (.bl b) h
        | _ => .no)
      | .Eq, some f, .non => (K.fn f [y, x] h).bind fun w h => (match w with
        | .bl b => .ok (.bl b) h
        | _ => .no)
      | _, _, _ => .no)
    | none => (match cmpW h o x y with
      | some b => .ok (.bl b) h
      | none => .no))
/-- the zip that a name holds -/
def zipAt (env : Env) : E → Option Nat
  | .nm i => (match env[i]? with
    | some (some (.zipv m)) => some m
    | _ => none)
  | _ => none
mutual
def evE (p : Pg) (K : Orc) : Nat → E → Env → Hv → Res W
  | 0, _, _, _ => .no
  | n + 1, e, env, h => match e with
    | .nm i => (match env[i]? with
      | some (some w) => if clean w then .ok w h else .no
      | _ => .no)
    | .cst c => .ok (wOfCs c) h
    | .con m => .ok (.ref m) h
    | .tup es => (evEs p K n es env h).bind fun ws h => if ws.length ≤ 16777216 then .ok (.ref h.n) (h.push (.tup ws)) else .no
    | .lst es => (evEs p K n es env h).bind fun ws h => if ws.length ≤ 16777216 then .ok (.ref h.n) (h.push (.lst ws)) else .no
    | .star _ => .no
    | .bin o a b => (evE p K n a env h).bind fun x h => (evE p K n b env h).bind fun y h => binW h o x y
    | .un o a => (evE p K n a env h).bind fun x h => match unW o x with
      | some w => .ok w h
      | none => .no
    | .cmp o a b => (evE p K n a env h).bind fun x h => (evE p K n b env h).bind fun y h => cmpE p K h o x y
    | .chn o1 o2 a b c => (evE p K n a env h).bind fun x h => (evE p K n b env h).bind fun y h => (cmpE p K h o1 x y).bind fun z h => match z with
      | .bl true => (evE p K n c env h).bind fun z h => cmpE p K h o2 y z
      | .bl false => .ok (.bl false) h
      | _ => .no
    | .bo isAnd es => evBo p K n isAnd es env h
    | .nt a => (evE p K n a env h).bind fun x h => match truth h x with
      | some b => .ok (.bl (!b)) h
      | none => .no
    | .ite c a b => (evT p K n c env h).bind fun t h => match t with
      | true => evE p K n a env h
      | false => evE p K n b env h
    | .idx a i => (evE p K n a env h).bind fun x h => (evE p K n i env h).bind fun y h => match idxW h x y with
      | some w => .ok w h
      | none => .no
    | .slc a lo hi => (evE p K n a env h).bind fun x h => (evO p K n lo env h).bind fun l h => (evO p K n hi env h).bind fun u h => slcW h x l u
    | .call f es => (evAs p K n es env h).bind fun ws h => (match publish env ws h with
      | some (ws, ns, h) => killR ns (K.fn f ws h)
      | none => .no)
    | .callv i es => (match env[i]? with
      | some (some (.ref m)) => (match h.get m with
        | some (.clo ..) => (evEs p K n es env h).bind fun ws h => (match h.get m with
          | some (.clo k cs) => wakeR m k cs (K.lm k cs ws (h.set m .dead))
          | _ => .no)
        | _ => .no)
      | _ => .no)
    | .mk c es => (match methI p c initS with
      | some f => (evEs p K n es env h).bind fun ws h => (K.fn f (.ref h.n :: ws) (h.push (.ins c []))).bind fun r h' => match r with
        | .non => .ok (.ref h.n) h'
        | _ => .no
      | none => .no)
    | .me o m es => (evE p K n o env h).bind fun x h => (match x with
      | .ref q => (match h.get q with
        | some (.ins c fs) => (match methI p c m, lookF fs m with
          | some f, none => (evEs p K n es env h).bind fun ws h => K.fn f (x :: ws) h
          | _, _ => .no)
        | _ => .no)
      | _ => .no)
    | .bi b es => (evEs p K n es env h).bind fun ws h => biW h b ws
    | .bm m o es => (evE p K n o env h).bind fun x h => if bmOk h m x then (evEs p K n es env h).bind fun ws h => bmW h m x ws else .no
    | .fld o f => (evE p K n o env h).bind fun x h => (match x with
      | .ref q => (match h.get q with
        | some (.ins c fs) => if fldOf p c f then (match lookF fs f with
          | some w => .ok w h
          | none => .no) else .no
        | _ => .no)
      | _ => .no)
    | .lc elt t it ifs own => (evI p K n it env h).bind fun iv h => (lcL iv (fun w h => ((asgT p K n t w (wipeE (dropPend env) own) h).bind fun env' h =>
        (evIfs p K n ifs env' h).bind fun b h => match b with
          | true => (evE p K n elt env' h).bind fun v h => .ok (some v) h
          | false => .ok none h).nox) (turns iv h) 0 [] h).bind fun ws h => .ok (.ref h.n) (h.push (.lst ws))
    | .dc ke ve t it own => (evI p K n it env h).bind fun iv h => (dcL iv (fun w h => ((asgT p K n t w (wipeE (dropPend env) own) h).bind fun env' h =>
        (evE p K n ke env' h).bind fun a h => (match keyOf a with
          | some k => (evE p K n ve env' h).bind fun v h => .ok (k, v) h
          | none => .no)).nox) (turns iv h) 0 [] h).bind fun kvs h => .ok (.ref h.n) (h.push (.dct kvs))
    | .dct es => (evKs p K n es [] env h).bind fun kvs h => .ok (.ref h.n) (h.push (.dct kvs))
    | .dup d es => (evE p K n d env h).bind fun x h => (match dctOf h x with
      | some kvs => if kvs.length < 16777216 then (evKs p K n es kvs env h).bind fun kvs h => .ok (.ref h.n) (h.push (.dct kvs)) else .no
      | none => .no)
    | .isi a tys => (evE p K n a env h).bind fun x h => if isiOk p h x then .ok (.bl (tys.any fun t => match isiW p h x t with
        | some b => b
        | none => false)) h else .no
    | .lam l => (match l.caps with
      | [] => .ok (.ref h.n) (h.push (.clo l []))
      | _ :: _ => .no)
/-- items: stars spread -/
def evEs (p : Pg) (K : Orc) : Nat → List E → Env → Hv → Res (List W)
  | 0, _, _, _ => .no
  | n + 1, es, env, h => match es with
    | [] => .ok [] h
    | .star e :: r => (evE p K n e env h).bind fun x h => (match seqOf h x with
      | some xs => (evEs p K n r env h).bind fun ws h => .ok (xs ++ ws) h
      | none => .no)
    | e :: r => (evE p K n e env h).bind fun x h => (evEs p K n r env h).bind fun ws h => .ok (x :: ws) h
/-- arguments: local functions too -/
def evAs (p : Pg) (K : Orc) : Nat → List E → Env → Hv → Res (List W)
  | 0, _, _, _ => .no
  | n + 1, es, env, h => match es with
    | [] => .ok [] h
    | e :: r => (evA p K n e env h).bind fun x h => (evAs p K n r env h).bind fun ws h => .ok (x :: ws) h
def evA (p : Pg) (K : Orc) : Nat → E → Env → Hv → Res W
  | 0, _, _, _ => .no
  | n + 1, e, env, h => match e with
    | .nm i => (match env[i]? with
      | some (some w) => .ok w h
      | _ => .no)
    | .lam l => (match l.caps with
      | [] => .ok (.ref h.n) (h.push (.clo l []))
      | _ :: _ => .ok (.pend l) h)
    | e => evE p K n e env h
def evBo (p : Pg) (K : Orc) : Nat → Bool → List E → Env → Hv → Res W
  | 0, _, _, _, _ => .no
  | n + 1, isAnd, es, env, h => match es with
    | [] => .no
    | [e] => evE p K n e env h
    | e :: r => (evE p K n e env h).bind fun x h => match truth h x with
      | some b => if b = isAnd then evBo p K n isAnd r env h else .ok x h
      | none => .no
/-- tests -/
def evT (p : Pg) (K : Orc) : Nat → E → Env → Hv → Res Bool
  | 0, _, _, _ => .no
  | n + 1, e, env, h => match e with
    | .bo isAnd es => evTs p K n isAnd es env h
    | .nt a => (evT p K n a env h).bind fun b h => .ok (!b) h
    | .ite .. => .no
    | e => (evE p K n e env h).bind fun x h => match truth h x with
      | some b => .ok b h
      | none => .no
def evTs (p : Pg) (K : Orc) : Nat → Bool → List E → Env → Hv → Res Bool
  | 0, _, _, _, _ => .no
  | n + 1, isAnd, es, env, h => match es with
    | [] => .no
    | [e] => evT p K n e env h
    | e :: r => (evT p K n e env h).bind fun b h => if b = isAnd then evTs p K n isAnd r env h else .ok b h
def evIfs (p : Pg) (K : Orc) : Nat → List E → Env → Hv → Res Bool
  | 0, _, _, _ => .no
  | n + 1, es, env, h => match es with
    | [] => .ok true h
    | [e] => evT p K n e env h
    | _ => .no
def evO (p : Pg) (K : Orc) : Nat → Option E → Env → Hv → Res (Option Int)
  | 0, _, _, _ => .no
  | n + 1, e, env, h => match e with
    | none => .ok none h
    | some e => (evE p K n e env h).bind fun x h => match x with
      | .int i => .ok (some i) h
      | _ => .no
def evKs (p : Pg) (K : Orc) : Nat → List (E × E) → List (Key × W) → Env → Hv → Res (List (Key × W))
  | 0, _, _, _, _ => .no
  | n + 1, es, kvs, env, h => match es with
    | [] => .ok kvs h
    | (a, b) :: r => (evE p K n a env h).bind fun x h => (evE p K n b env h).bind fun y h => match keyOf x with
      | some k => evKs p K n r (putK kvs k y) env h
      | none => .no
def evI (p : Pg) (K : Orc) : Nat → I → Env → Hv → Res ItV
  | 0, _, _, _ => .no
  | n + 1, it, env, h => match it with
    | .e a => (evE p K n a env h).bind fun x h => (match x with
      | .str s => .ok (.sg s) h
      | x => (match seqOf h x with
        | some _ => .ok (.seq x (isLst h x)) h
        | none => .no))
    | .ez a => (match zipAt env a with
      | some m => (match h.z with
        | some (m', x, y) => if m = m' ∧ isLst h x.1 = x.2 ∧ isLst h y.1 = y.2 then (match seqOf h x.1, seqOf h y.1 with
          | some _, some _ => .ok (.zp x.1 x.2 y.1 y.2) (h.setz none)
          | _, _ => .no) else .no
        | none => .no)
      | none => (evE p K n a env h).bind fun x h => (match x with
        | .str s => .ok (.sg s) h
        | x => (match seqOf h x with
          | some _ => .ok (.seq x (isLst h x)) h
          | none => .no)))
    | .rng es => (evEs p K n es env h).bind fun ws h => (match ws with
      | [.int j] => if -(2 ^ 62) ≤ j ∧ j < 2 ^ 62 then .ok (.rng 0 j.toNat) h else .no
      | [.int i, .int j] => if -(2 ^ 62) ≤ i ∧ i < 2 ^ 62 ∧ -(2 ^ 62) ≤ j ∧ j < 2 ^ 62 then .ok (.rng i (j - i).toNat) h else .no
      | _ => .no)
    | .enm a => (evE p K n a env h).bind fun x h => (match seqOf h x with
      | some _ => .ok (.enm x (isLst h x)) h
      | none => .no)
    | .zp a b => (evE p K n a env h).bind fun x h => (evE p K n b env h).bind fun y h => (match seqOf h x, seqOf h y with
      | some _, some _ => .ok (.zp x (isLst h x) y (isLst h y)) h
      | _, _ => .no)
    | .zp3 a b c => (evE p K n a env h).bind fun x h => (evE p K n b env h).bind fun y h => (evE p K n c env h).bind fun z h => (match seqOf h x, seqOf h y, seqOf h z with
      | some _, some _, some _ => .ok (.zp3 x (isLst h x) y (isLst h y) z (isLst h z)) h
      | _, _, _ => .no)
/-- a value to a target -/
def asgT (p : Pg) (K : Orc) : Nat → T → W → Env → Hv → Res Env
  | 0, _, _, _, _ => .no
  | n + 1, t, w, env, h => match t with
    | .nm i => if i < env.length then .ok (setEnv env i (some w)) h else .no
    | .tup ts => (match w with
      | .ref m => (match h.get m with
        | some (.tup xs) => if xs.length = ts.length then asgTs p K n ts xs env h else .no
        | _ => .no)
      | _ => .no)
    | .idx o i => (evE p K n o env h).bind fun x h => (evE p K n i env h).bind fun y h => if clean w then (match setIdxW h x y w with
      | some h => .ok env h
      | none => .no) else .no
    | .fld o f => (evE p K n o env h).bind fun x h => if clean w then (match x with
      | .ref m => (match h.get m with
        | some (.ins c fs) => if fs.length < 1000 ∧ fldOf p c f = true then .ok env (h.set m (.ins c (putFd fs f w))) else .no
        | _ => .no)
      | _ => .no) else .no
def asgTs (p : Pg) (K : Orc) : Nat → List T → List W → Env → Hv → Res Env
  | 0, _, _, _, _ => .no
  | n + 1, ts, ws, env, h => match ts, ws with
    | [], [] => .ok env h
    | t :: ts, w :: ws => (asgT p K n t w env h).bind fun env h => asgTs p K n ts ws env h
    | _, _ => .no
end
mutual
def evS (p : Pg) (K : Orc) : Nat → S → Env → Hv → Res Out
  | 0, _, _, _ => .no
  | n + 1, s, env, h => match s with
    | .asg t e => (evE p K n e env h).bind fun w h => (asgT p K n t w env h).bind fun env h => .ok (.nx env) h
    | .asgz i a b => (evE p K n a env h).bind fun x h => (evE p K n b env h).bind fun y h => (match seqOf h x, seqOf h y, h.z with
      | some _, some _, none => if i < env.length then .ok (.nx (setEnv env i (some (.zipv h.n)))) ((h.push .dead).setz (some (h.n, (x, isLst h x), (y, isLst h y)))) else .no
      | _, _, _ => .no)
    | .par ts es => (evEs p K n es env h).bind fun ws h => (asgTs p K n (ts.map .nm) ws env h).bind fun env h => .ok (.nx env) h
    | .ex e => (evE p K n e env h).bind fun _ h => .ok (.nx env) h
    | .ret e => (evE p K n e env h).bind fun w h => .ok (.rt w) h
    | .iff c a b => (evT p K n c env h).bind fun t h => match t with
      | true => evSs p K n a env h
      | false => evSs p K n b env h
    | .fo t it b => (evI p K n it env h).bind fun iv h => forL iv (fun w env h => (asgT p K n t w env h).bind fun env h => evSs p K n b env h) (turns iv h) 0 env h
    | .wh c b => whL (fun env h => evT p K n c env h) (fun env h => evSs p K n b env h) 1000000 env h
    | .pass => .ok (.nx env) h
    | .rais c es => (match excI p c with
      | some _ => (evEs p K n es env h).bind fun ws h => (match ws with
        | [w] => .ex c [("", w)] h
        | _ => .no)
      | none => .no)
    | .ndef i l => if i < env.length then .ok (.nx (setEnv env i (some (.pend l)))) h else .no
    | .del o i => (evE p K n o env h).bind fun x h => (evE p K n i env h).bind fun y h => (match x with
      | .ref m => (match h.get m, keyOf y with
        | some (.dct kvs), some k => (match lookK kvs k with
          | some _ => .ok (.nx env) (h.set m (.dct (dropK kvs k)))
          | none => .no)
        | _, _ => .no)
      | _ => .no)
    | .tryb e b1 c b2 => (match evE p K n e env h with
      | .ok _ h => .ok (.rt (.bl b1)) h
      | .ex d fs h => (match exQ p d c with
        | some true => .ok (.rt (.bl b2)) h
        | some false => .ex d fs h
        | none => .no)
      | .no => .no)
def evSs (p : Pg) (K : Orc) : Nat → List S → Env → Hv → Res Out
  | 0, _, _, _ => .no
  | n + 1, ss, env, h => match ss with
    | [] => .ok (.nx env) h
    | s :: r => (evS p K n s env h).bind fun o h => match o with
      | .nx env => evSs p K n r env h
      | o => .ok o h
end
def fin : Res Out → Res W
  | .ok o h => (match o with
    | .nx _ => .ok .non h
    | .rt w => .ok w h
    | _ => .no)
  | .ex c fs h => .ex c fs h
  | .no => .no
def startE (ns : Nat) (ws : List W) : Env := ws.map some ++ List.replicate (ns - ws.length) none
/-- calls down to a depth -/
def orc (p : Pg) : Nat → Orc
  | 0 => ⟨fun _ _ _ => .no, fun _ _ _ _ => .no⟩
  | d + 1 => ⟨fun f ws h => (match p.defs[f]? with
      | some df => if ws.length = df.np ∧ ws.all clean then fin (evSs p (orc p d) 1000 df.body (startE df.ns ws) h) else .no
      | none => .no),
    fun l cs ws h => (match l with
      | .mk np ns caps body => if ws.length = np ∧ ws.all clean ∧ cs.length = caps.length then fin (evSs p (orc p d) 1000 body (startE ns (ws ++ cs)) h) else .no)⟩
end RP

set_option Elab.async false
set_option linter.all false
set_option maxRecDepth 100000
set_option maxHeartbeats 4000000
/-! RP3: from the row's syntax to the inner language. -/
namespace RP
open PySem

inductive Gk where
  | fn (i : Nat) | cls (c : Nat) | con (n : Nat) | str (s : Str)
structure Cc where
  N : List Str
  sc : Scope
  gl : List (Str × Gk)
  lam : Bool := false
  asg : Str → Bool := fun _ => true
  nm : List (Nat × Nat × Str) := []
/-- the name of the inner function at a place -/
def nmOf (l : List (Nat × Nat × Str)) (i j : Nat) : Str := match l.find? fun t => t.1 == i && t.2.1 == j with
  | some t => t.2.2
  | none => ""
def ixOf (N : List Str) (x : Str) : Option Nat := N.findIdx? fun y => y == x
def isVis : Option NameKind → Bool
  | some .local => true
  | some .cell => true
  | some .free => true
  | _ => false
def isLoc : Option NameKind → Bool
  | some .local => true
  | some .cell => true
  | _ => false
def isCF : Option NameKind → Bool
  | some .cell => true
  | some .free => true
  | _ => false
def isGl : Option NameKind → Bool
  | some .globalImplicit => true
  | _ => false
def Cc.slot (C : Cc) (x : Str) : Option Nat := if isVis (C.sc.names.lookup x) && !(x == ("__debug__" : Str)) && !(x == ("__classdict__" : Str)) then ixOf C.N x else none
def Cc.tslot (C : Cc) (x : Str) : Option Nat := if C.asg x && isLoc (C.sc.names.lookup x) then ixOf C.N x else none
def Cc.glob (C : Cc) (x : Str) : Option Gk := if isGl (C.sc.names.lookup x) && !(x == ("__debug__" : Str)) then C.gl.lookup x else none
/-- a built-in's name -/
def Cc.blt (C : Cc) (x : Str) : Bool := isGl (C.sc.names.lookup x) && (C.gl.lookup x).isNone
/-- within a comprehension -/
def Cc.inner (C : Cc) (scope : Scope) : Cc := { C with sc := L2.relS scope C.sc, lam := false, asg := fun x => isLoc (scope.names.lookup x) }
mutual
def tsl : T → List Nat
  | .nm i => [i]
  | .tup ts => tsls ts
  | _ => []
def tsls : List T → List Nat
  | [] => []
  | t :: r => tsl t ++ tsls r
end
def relSc (scope sc : Scope) : Scope := L2.relS scope sc
def ownOf (N : List Str) (scope : Scope) : List (Str × Nat) := scope.names.filterMap fun y => match y.2 with
  | .local => (ixOf N y.1).map fun i => (y.1, i)
  | .cell => (ixOf N y.1).map fun i => (y.1, i)
  | _ => none
def tyN (x : Str) : Option Ty1 := if x == ("int" : Str) then some .int else if x == ("str" : Str) then some .str else if x == ("bool" : Str) then some .bool else if x == ("list" : Str) then some .list else if x == ("tuple" : Str) then some .tuple else if x == ("dict" : Str) then some .dict else none
def tyG (C : Cc) (x : Str) : Option Ty1 := match C.glob x with
  | some (.cls c) => some (.own c)
  | _ => none
def tyOf (C : Cc) : Expr → Option Ty1
  | .Name x _ => if C.blt x then tyN x else tyG C x
  | _ => none
def tysOf (C : Cc) : Expr → Option (List Ty1)
  | .Tuple es _ _ => es.mapM (tyOf C)
  | e => (tyOf C e).map fun t => [t]
def biOf (x : Str) : Option Bi := if x == ("len" : Str) then some .len else if x == ("list" : Str) then some .list else if x == ("tuple" : Str) then some .tuple else if x == ("all" : Str) then some .all else if x == ("any" : Str) then some .any
  else if x == ("sum" : Str) then some .sum else if x == ("sorted" : Str) then some .sorted else if x == ("abs" : Str) then some .abs else if x == ("int" : Str) then some .int else if x == ("dict" : Str) then some .dict else none
def bmOf (x : Str) : Option Bm := if x == ("append" : Str) then some .append else if x == ("extend" : Str) then some .extend else if x == ("pop" : Str) then some .pop else if x == ("index" : Str) then some .index else if x == ("split" : Str) then some .split else if x == ("get" : Str) then some .get else none
def simpleOp : Expr → Bool
  | .Set .. => false
  | _ => true
def noStar : Expr → Bool
  | .Starred .. => false
  | _ => true
def call0 : Expr → Bool
  | .Call (.Name _ _) [] [] _ => true
  | _ => false
def isIfExp : Expr → Bool
  | .IfExp .. => true
  | _ => false
def isTup : Expr → Bool
  | .Tuple .. => true
  | _ => false
def isComp : Expr → Bool
  | .ListComp .. => true
  | .SetComp .. => true
  | .DictComp .. => true
  | _ => false
def argNames (a : Arguments) : Option (List Str) := match a with
  | ⟨[], as, none, [], [], none, []⟩ => some (as.map (·.arg))
  | _ => none
def seqM {α : Type} : List (Option α) → Option (List α)
  | [] => some []
  | some a :: r => (seqM r).map (a :: ·)
  | none :: _ => none

/-! ### the names of a body: those of comprehensions -/
mutual
def cnE : Nat → Expr → List Str
  | 0, _ => []
  | n + 1, e => match e with
    | .BoolOp _ vs _ => cnEs n vs
    | .BinOp a _ b _ => cnE n a ++ cnE n b
    | .UnaryOp _ a _ => cnE n a
    | .IfExp a b c _ => cnE n a ++ (cnE n b ++ cnE n c)
    | .Dict ks vs _ => cnEs n (ks.filterMap id) ++ cnEs n vs
    | .ListComp e gs sc _ => sc.names.filterMap (fun y => match y.2 with | .local => some y.1 | .cell => some y.1 | _ => none) ++ (cnE n e ++ cnGs n gs)
    | .DictComp k v gs sc _ => sc.names.filterMap (fun y => match y.2 with | .local => some y.1 | .cell => some y.1 | _ => none) ++ (cnE n k ++ (cnE n v ++ cnGs n gs))
    | .Compare a _ cs _ => cnE n a ++ cnEs n cs
    | .Call f as ks _ => cnE n f ++ cnEs n as
    | .Attribute a _ _ => cnE n a
    | .Subscript a b _ => cnE n a ++ cnE n b
    | .Starred a _ => cnE n a
    | .List es _ => cnEs n es
    | .Tuple es _ _ => cnEs n es
    | .Slice a b c _ => cnO n a ++ cnO n b
    | _ => []
def cnO : Nat → Option Expr → List Str
  | 0, _ => []
  | n + 1, e => match e with
    | some e => cnE n e
    | none => []
def cnEs : Nat → List Expr → List Str
  | 0, _ => []
  | n + 1, es => match es with
    | [] => []
    | e :: r => cnE n e ++ cnEs n r
def cnGs : Nat → List Comprehension → List Str
  | 0, _ => []
  | n + 1, gs => match gs with
    | [] => []
    | ⟨t, i, fs, _⟩ :: r => cnE n i ++ (cnEs n fs ++ cnGs n r)
end
mutual
def cnS : Nat → Stmt → List Str
  | 0, _ => []
  | n + 1, s => match s with
    | .Return (some e) _ => cnE n e
    | .Delete es _ => cnEs n es
    | .Assign ts e _ => cnEs n ts ++ cnE n e
    | .For t i b _ _ => cnE n i ++ cnSs n b
    | .While c b _ _ => cnE n c ++ cnSs n b
    | .If c a b _ => cnE n c ++ (cnSs n a ++ cnSs n b)
    | .Raise (some e) _ _ => cnE n e
    | .Try b hs _ _ _ => cnSs n b ++ cnHs n hs
    | .Expr e _ => cnE n e
    | _ => []
def cnSs : Nat → List Stmt → List Str
  | 0, _ => []
  | n + 1, ss => match ss with
    | [] => []
    | s :: r => cnS n s ++ cnSs n r
def cnHs : Nat → List ExceptHandler → List Str
  | 0, _ => []
  | n + 1, hs => match hs with
    | [] => []
    | .ExceptHandler _ _ b _ :: r => cnSs n b ++ cnHs n r
end
/-- the slots: parameters, captured names, the scope's own, then those of comprehensions -/
def freesOf (sc : Scope) : List Str := sc.names.filterMap fun y => match y.2 with
  | .free => some y.1
  | _ => none
def slotsOf (ps : List Str) (sc : Scope) (more : List Str) : List Str :=
  (ps ++ (freesOf sc ++ (sc.names.filterMap (fun y => match y.2 with | .local => some y.1 | .cell => some y.1 | _ => none) ++ more))).eraseDups
/-- an inner function's scope: plain parameters, behind them what it captures, no cells of its own -/
def inB (C : Cc) (a : Arguments) (ps N : List Str) (scope : Scope) : Bool :=
  NdefX.nscB N ps (freesOf scope) scope && NdefX.ndefB C.sc scope (freesOf scope) && (freesOf scope).all (fun y => isCF (C.sc.names.lookup y)) && a.args.all fun x => x.annotation.isNone

mutual
def cE : Nat → Cc → Expr → Option E
  | 0, _, _ => none
  | n + 1, C, e => match e with
    | .Name x _ => (match C.slot x with
      | some i => some (.nm i)
      | none => (match C.glob x with
        | some (.fn i) => some (.cst (.fn i))
        | some (.con m) => some (.con m)
        | some (.str s) => some (.cst (.str s))
        | _ => none))
    | .Constant c _ _ => (match c with
      | .none => some (.cst .non)
      | .bool b => some (.cst (.bl b))
      | .int i => some (.cst (.int i))
      | .str s => some (.cst (.str s))
      | _ => none)
    | .Tuple es _ _ => (cEs n C es).map .tup
    | .List es _ => (cEs n C es).map .lst
    | .BinOp a o b _ => (match cE n C a, cE n C b with
      | some x, some y => some (.bin o x y)
      | _, _ => none)
    | .UnaryOp o a _ => (match o with
      | .Not => (cE n C a).map .nt
      | o => (cE n C a).map (.un o))
    | .BoolOp o es _ => (match o with
      | .And => (cEs n C es).map (.bo true)
      | .Or => (cEs n C es).map (.bo false))
    | .Compare a os cs _ => (match os, cs with
      | [o], [b] => if simpleOp b then (match cE n C a, cE n C b with
        | some x, some y => some (.cmp o x y)
        | _, _ => none) else none
      | [o1, o2], [b, c] => if simpleOp b && simpleOp c then (match cE n C a, cE n C b, cE n C c with
        | some x, some y, some z => some (.chn o1 o2 x y z)
        | _, _, _ => none) else none
      | _, _ => none)
    | .IfExp c a b _ => (match cE n C c, cE n C a, cE n C b with
      | some x, some y, some z => some (.ite x y z)
      | _, _, _ => none)
    | .Subscript a i _ => (match i with
      | .Slice lo hi none _ => (match cE n C a, cO n C lo, cO n C hi with
        | some x, some l, some u => some (.slc x l u)
        | _, _, _ => none)
      | .Slice .. => none
      | i => (match cE n C a, cE n C i with
        | some x, some y => some (.idx x y)
        | _, _ => none))
    | .Attribute a f _ => if call0 a then none else (cE n C a).map fun x => .fld x f
    | .Call f as ks pos => (match ks with
      | [] => (match f with
        | .Name x _ => (match C.slot x with
          | some i => (cAs n C as).map (.callv i)
          | none => (match C.glob x with
            | some (.fn i) => (cAs n C as).map (.call i)
            | some (.cls c) => (cAs n C as).map (.mk c)
            | some _ => none
            | none => if C.blt x then (if x == ("isinstance" : Str) then (match as with
              | [a, t] => (match cE n C a, tysOf C t with
                | some y, some ts => if decide (ts.length ≤ 1000) then some (.isi y ts) else none
                | _, _ => none)
              | _ => none) else (match biOf x with
                | some b => (cAs n C as).map (.bi b)
                | none => none)) else none))
        | .Attribute o m apos => if call0 o then none else (match bmOf m with
          | some b => if apos.endLine == pos.line && decide (as.length < 20) then (match cE n C o, cAs n C as with
            | some y, some zs => some (.bm b y zs)
            | _, _ => none) else none
          | none => if apos.endLine == pos.line && decide (as.length < 20) then (match cE n C o, cAs n C as with
            | some y, some zs => some (.me y m zs)
            | _, _ => none) else none)
        | _ => none)
      | _ => none)
    | .ListComp elt gs scope _ => (match gs with
      | [⟨t, i, fs, 0⟩] => if L2.blkC C.N C.sc scope (ownOf C.N scope) && simpleOp i then
          (match cI n C t i, cE n (C.inner scope) elt, cT n (C.inner scope) t, cEs n (C.inner scope) fs with
          | some it, some x, some t, some fs => if (tsl t).all fun i => decide (i ∈ (ownOf C.N scope).map (·.2)) then some (.lc x t it fs ((ownOf C.N scope).map (·.2))) else none
          | _, _, _, _ => none) else none
      | _ => none)
    | .DictComp k v gs scope _ => (match gs with
      | [⟨t, i, [], 0⟩] => if L2.blkC C.N C.sc scope (ownOf C.N scope) && simpleOp i then
          (match cI n C t i, cE n (C.inner scope) k, cE n (C.inner scope) v, cT n (C.inner scope) t with
          | some it, some x, some y, some t => if (tsl t).all fun i => decide (i ∈ (ownOf C.N scope).map (·.2)) then some (.dc x y t it ((ownOf C.N scope).map (·.2))) else none
          | _, _, _, _ => none) else none
      | _ => none)
    | .Dict ks vs _ => if !decide (ks.length ≤ 15) then none else (match ks with
      | [none, some k] => (match vs with
        | [d, v] => (match cE n C d, cE n C k, cE n C v with
          | some x, some y, some z => some (.dup x [(y, z)])
          | _, _, _ => none)
        | _ => none)
      | ks => (cKs n C ks vs).map .dct)
    | .Lambda a body scope pos => if !C.lam || !(nmOf C.nm pos.line pos.col == ("<lambda>" : Str)) then none else (match argNames a with
      | some ps => if inB C a ps (slotsOf ps scope (cnE 100 body)) scope then (match cE n { N := slotsOf ps scope (cnE 100 body), sc := scope, gl := C.gl } body, seqM ((freesOf scope).map C.slot) with
        | some x, some cs => some (.lam (.mk ps.length (slotsOf ps scope (cnE 100 body)).length cs [.ret x]))
        | _, _ => none) else none
      | none => none)
    | _ => none
def cO : Nat → Cc → Option Expr → Option (Option E)
  | 0, _, _ => none
  | n + 1, C, e => match e with
    | none => some none
    | some e => (cE n C e).map some
/-- items, stars too -/
def cEs : Nat → Cc → List Expr → Option (List E)
  | 0, _, _ => none
  | n + 1, C, es => match es with
    | [] => some []
    | .Starred e _ :: r => (match cE n C e, cEs n C r with
      | some x, some xs => some (.star x :: xs)
      | _, _ => none)
    | e :: r => (match cE n C e, cEs n C r with
      | some x, some xs => some (x :: xs)
      | _, _ => none)
/-- arguments: no star -/
def cAs : Nat → Cc → List Expr → Option (List E)
  | 0, _, _ => none
  | n + 1, C, es => match es with
    | [] => some []
    | e :: r => if noStar e then (match cE n C e, cAs n C r with
      | some x, some xs => some (x :: xs)
      | _, _ => none) else none
def cKs : Nat → Cc → List (Option Expr) → List Expr → Option (List (E × E))
  | 0, _, _, _ => none
  | n + 1, C, ks, vs => match ks, vs with
    | [], [] => some []
    | some k :: ks, v :: vs => (match cE n C k, cE n C v, cKs n C ks vs with
      | some x, some y, some r => some ((x, y) :: r)
      | _, _, _ => none)
    | _, _ => none
def cI : Nat → Cc → Expr → Expr → Option I
  | 0, _, _, _ => none
  | n + 1, C, t, e => match e with
    | .Call (.Name x p) as [] pos => if C.blt x then
        (if x == ("range" : Str) then (match as with
          | [a] => (cE n C a).map fun x => .rng [x]
          | [a, b] => (match cE n C a, cE n C b with
            | some x, some y => some (.rng [x, y])
            | _, _ => none)
          | _ => none)
        else if x == ("enumerate" : Str) then (match as with
          | [a] => if isTup t then (cE n C a).map .enm else none
          | _ => none)
        else if x == ("zip" : Str) then (if isTup t then (match as with
          | [a, b] => (match cE n C a, cE n C b with
            | some x, some y => some (.zp x y)
            | _, _ => none)
          | [a, b, c] => (match cE n C a, cE n C b, cE n C c with
            | some x, some y, some z => some (.zp3 x y z)
            | _, _, _ => none)
          | _ => none) else none)
        else (cE n C (.Call (.Name x p) as [] pos)).map .e) else (cE n C (.Call (.Name x p) as [] pos)).map .e
    | e => if isTup t then (cE n C e).map .ez else (cE n C e).map .e
def cT : Nat → Cc → Expr → Option T
  | 0, _, _ => none
  | n + 1, C, e => match e with
    | .Name x _ => (C.tslot x).map .nm
    | .Tuple es _ _ => (cTs n C es).map .tup
    | .Subscript o i _ => (match i with
      | .Slice .. => none
      | i => (match cE n C o, cE n C i with
        | some x, some y => some (.idx x y)
        | _, _ => none))
    | .Attribute o f _ => (cE n C o).map fun x => .fld x f
    | _ => none
def cTs : Nat → Cc → List Expr → Option (List T)
  | 0, _, _ => none
  | n + 1, C, es => match es with
    | [] => some []
    | e :: r => (match cT n C e, cTs n C r with
      | some x, some xs => some (x :: xs)
      | _, _ => none)
end
/-- a plain local name on a line -/
def swF (C : Cc) (line : Nat) : Expr → Option Str
  | .Name id pos => if C.sc.names.lookup id == some .local && pos.line == line then some id else none
  | _ => none
/-- plain local names on one line, unlike, stored from the right -/
def swapNames (C : Cc) (ts vs : List Expr) : Option (List Str) :=
  if !(ts.length == 2 || ts.length == 3) || vs.length != ts.length then none
  else if vs.any (fun e => !noStar e) then none
  else
    let line := (ts.head?.map (·.pos.line)).getD 0
    let names := ts.filterMap (swF C line)
    if names.length != ts.length || names.eraseDups.length != names.length then none
    else if vs.all (foldedForSure 8) then none
    else some names
/-- the new value of a comprehension is stored within it -/
def swapC (C : Cc) (scope : Scope) (vp : Pos) : Expr → Bool
  | .Name y q => (C.sc.names.lookup y == some .local) && q.line == vp.line && !(scope.names.any fun (n, k) => n == y && (k == .local || k == .cell))
  | _ => false
def swapBad (vs : List Expr) : Bool := vs.all (constantsAlone 8)
mutual
def cS : Nat → Cc → Stmt → Option S
  | 0, _, _ => none
  | n + 1, C, s => match s with
    | .Assign ts e pos => (match ts with
      | [t] => (match t, e with
        | .Tuple es _ _, .Tuple vs _ _ => (match swapNames C es vs with
          | some names => if swapBad vs then none else (match seqM (names.map C.tslot), cEs n C vs with
            | some is, some xs => some (.par is xs)
            | _, _ => none)
          | none => (match cT n C t, cE n C e with
            | some t, some x => some (.asg t x)
            | _, _ => none))
        | .Name y _, .Call (.Name x _) [a, b] [] _ => if C.blt x && x == ("zip" : Str) then (match C.tslot y, cE n C a, cE n C b with
            | some i, some x, some y => some (.asgz i x y)
            | _, _, _ => none)
          else (match cT n C t, cE n C e with
            | some t, some x => some (.asg t x)
            | _, _ => none)
        | t, e => (match cT n C t, cE n C e with
          | some t, some x => some (.asg t x)
          | _, _ => none))
      | _ => none)
    | .Expr e _ => if isComp e then none else (match e with
      | .Constant (.str _) _ _ => some .pass
      | e => (cE n C e).map .ex)
    | .Return e _ => (match e with
      | none => some (.ret (.cst .non))
      | some e => (cE n C e).map .ret)
    | .If c a b _ => if isIfExp c then none else (match cE n C c, cSs n C a, cSs n C b with
      | some x, some y, some z => some (.iff x y z)
      | _, _, _ => none)
    | .For t i b [] _ => if simpleOp i then (match cT n C t, cI n C t i, cSs n C b with
      | some x, some y, some z => some (.fo x y z)
      | _, _, _ => none) else none
    | .While c b [] _ => if isIfExp c then none else (match cE n C c, cSs n C b with
      | some x, some y => some (.wh x y)
      | _, _ => none)
    | .Pass _ => some .pass
    | .Raise (some (.Call (.Name x _) [a] [] _)) none _ => if !noStar a then none else (match C.glob x with
      | some (.cls c) => (cE n C a).map fun y => .rais c [y]
      | _ => none)
    | .FunctionDef x a body [] none [] scope none y pos => if !(x == y) || !C.lam || !(nmOf C.nm pos.line pos.col == x) then none else (match argNames a, C.tslot x with
      | some ps, some i => if inB C a ps (slotsOf ps scope (cnSs 100 body)) scope then (match cSs n { N := slotsOf ps scope (cnSs 100 body), sc := scope, gl := C.gl } body, seqM ((freesOf scope).map C.slot) with
        | some b, some cs => some (.ndef i (.mk ps.length (slotsOf ps scope (cnSs 100 body)).length cs b))
        | _, _ => none) else none
      | _, _ => none)
    | .Delete [.Subscript o i _] _ => (match cE n C o, cE n C i with
      | some x, some y => some (.del x y)
      | _, _ => none)
    | .Try [.Expr e q, .Return (some (.Constant (.bool b1) _ _)) _] [.ExceptHandler (some (.Name x _)) none [.Return (some (.Constant (.bool b2) _ _)) _] _] [] [] _ => if isComp e then none else (match C.glob x, cE n C e with
      | some (.cls c), some y => some (.tryb y b1 c b2)
      | _, _ => none)
    | _ => none
def cSs : Nat → Cc → List Stmt → Option (List S)
  | 0, _, _ => none
  | n + 1, C, ss => match ss with
    | [] => some []
    | s :: r => (match cS n C s, cSs n C r with
      | some x, some xs => some (x :: xs)
      | _, _ => none)
end

/-! ### the whole -/
mutual
def fdE : Nat → Expr → List Str
  | 0, _ => []
  | n + 1, e => match e with
    | .Attribute _ f _ => [f]
    | .Tuple es _ _ => fdEs n es
    | _ => []
def fdEs : Nat → List Expr → List Str
  | 0, _ => []
  | n + 1, es => match es with
    | [] => []
    | e :: r => fdE n e ++ fdEs n r
end
mutual
def fdS : Nat → Stmt → List Str
  | 0, _ => []
  | n + 1, s => match s with
    | .Assign ts _ _ => fdEs n ts
    | .For _ _ b _ _ => fdSs n b
    | .While _ b _ _ => fdSs n b
    | .If _ a b _ => fdSs n a ++ fdSs n b
    | _ => []
def fdSs : Nat → List Stmt → List Str
  | 0, _ => []
  | n + 1, ss => match ss with
    | [] => []
    | s :: r => fdS n s ++ fdSs n r
end
/-- a def of the text: where it stands -/
structure Dd where
  name : Str
  cls : Option Nat
  args : Arguments
  body : List Stmt
  scope : Scope
def ddOf (cls : Option Nat) : Stmt → Option Dd
  | .FunctionDef x a b _ _ _ sc _ _ _ => some ⟨x, cls, a, b, sc⟩
  | _ => none
/-- the classes of the top, in order -/
def clsOf : List Stmt → List (Str × List Expr × List Stmt)
  | [] => []
  | .ClassDef x bs _ body _ _ _ _ _ _ _ :: r => (x, bs, body) :: clsOf r
  | _ :: r => clsOf r
def ddsOf (ss : List Stmt) : List Dd :=
  ss.filterMap (ddOf none) ++ ((clsOf ss).zipIdx.map fun q => q.1.2.2.filterMap (ddOf (some q.2))).flatten
def glOf (ss : List Stmt) (cons : List (Str × Gk)) : List (Str × Gk) :=
  ((ss.filterMap (ddOf none)).zipIdx.map fun q => (q.1.name, Gk.fn q.2)) ++ ((clsOf ss).zipIdx.map fun q => (q.1.1, Gk.cls q.2)) ++ cons
def nameE : Expr → Option Str
  | .Name x _ => some x
  | _ => none
/-- the ancestors of the i-th class among the own ones -/
def upsOf (cs : List (Str × List Expr × List Stmt)) : Nat → Nat → List Nat
  | 0, _ => []
  | k + 1, i => i :: (match cs[i]? with
    | some (_, bs, _) => (bs.filterMap nameE).flatMap fun x => match cs.findIdx? fun c => c.1 == x with
      | some j => upsOf cs k j
      | none => []
    | none => [])
/-- the i-th class is one of exceptions: one of its ancestors has a base that isn't own -/
def excOf (cs : List (Str × List Expr × List Stmt)) (i : Nat) : Bool := (upsOf cs 5 i).any fun j => match cs[j]? with
  | some (_, bs, _) => bs.any fun b => match nameE b with
    | some x => (cs.findIdx? fun c => c.1 == x).isNone
    | none => true
  | none => true
def pgOf (ss : List Stmt) (cons : List (Str × Gk)) (mk : List Str) (nm : List (Nat × Nat × Str)) : Option Pg :=
  let dds := ddsOf ss
  let gl := glOf ss cons
  let cs := clsOf ss
  match seqM (dds.map fun d => match argNames d.args with
    | some ps => (match cSs 200 { N := slotsOf ps d.scope (cnSs 100 d.body), sc := d.scope, gl := gl, lam := mk.contains d.name, nm := nm } d.body with
      | some b => some (Df.mk d.name ps.length (slotsOf ps d.scope (cnSs 100 d.body)).length b)
      | none => some (Df.mk d.name ps.length 0 [.ret (.star (.cst .non))]))
    | none => some (Df.mk d.name 0 0 [.ret (.star (.cst .non))])) with
  | some defs => some ⟨defs, cs.zipIdx.map fun q => ⟨dds.zipIdx.filterMap fun r => if r.1.cls == some q.2 then some (r.1.name, r.2) else none, upsOf cs 5 q.2, excOf cs q.2, (dds.filterMap fun d => if d.cls == some q.2 then some (fdSs 100 d.body) else none).flatten.eraseDups⟩⟩
  | none => none
end RP

set_option Elab.async false
set_option linter.all false
set_option maxRecDepth 100000
set_option maxHeartbeats 400000
/-! RP61: a row; the tests over the head's part of the heap. -/
namespace RP
open PySem PySem.Spec PyProof.Rows L2 LamX NdefX He

/-- built-in names that are used -/
def bnames : List Str := ["len", "list", "tuple", "all", "any", "sum", "sorted", "abs", "int", "dict", "str", "bool", "isinstance", "range", "enumerate", "zip"]
/-- a row: its top, its constants, the defs that make local functions, the local functions' names by place, the names of the written containers -/
structure Rw where
  ss : List Stmt
  cons : List (Str × Gk)
  mks : List Str
  nm : List (Nat × Nat × Str)
  cn : List Str
section
variable (R : Rw)
abbrev Rw.dds : List Dd := ddsOf R.ss
abbrev Rw.gl : List (Str × Gk) := glOf R.ss R.cons
abbrev Rw.cls : List (Str × List Expr × List Stmt) := clsOf R.ss
def Rw.cname (c : Nat) : Str := match R.cls[c]? with
  | some q => q.1
  | none => ""
def Rw.at_ (d : Dd) : Defn := match d.cls with
  | none => (d.name, none)
  | some c => (R.cname c, some d.name)
def Rw.qual (d : Dd) : Str := match d.cls with
  | none => d.name
  | some c => R.cname c ++ "." ++ d.name
def Rw.dD (d : Dd) : DefD := ⟨R.at_ d, d.name, R.qual d, d.args, d.body, d.scope, [], []⟩
def Rw.fn : List DefD := R.dds.map R.dD
def Rw.F (K : PySem.W.Frag) (i : Nat) : Addr := match R.dds[i]? with
  | some d => fAd K (R.at_ d)
  | none => 0
def Rw.C (K : PySem.W.Frag) (c : Nat) : Addr := ga K (R.cname c)
def Rw.mkd : List Dd := R.dds.filter fun d => R.mks.contains d.name
def Rw.tf : List Defn := R.mkd.map R.at_
def Rw.nmq (d : Dd) (i j : Nat) : Str := (R.qual d ++ ".<locals>.") ++ nmOf R.nm i j
def Rw.Ts (K : PySem.W.Frag) : List NTab := R.mkd.map fun d => ((He.cT K (R.at_ d)).2, R.nmq d)
def Rw.con (K : PySem.W.Frag) : List Addr := R.cn.map (ga K)
/-- the compiler's context of a def -/
def Rw.cc (d : Dd) (ps : List Str) : Cc := { N := slotsOf ps d.scope (cnSs 100 d.body), sc := d.scope, gl := R.gl, lam := R.mks.contains d.name, nm := R.nm }
def Rw.df (d : Dd) : Df := match argNames d.args with
  | some ps => (match cSs 200 (R.cc d ps) d.body with
    | some b => Df.mk d.name ps.length (slotsOf ps d.scope (cnSs 100 d.body)).length b
    | none => Df.mk d.name ps.length 0 [.ret (.star (.cst .non))])
  | none => Df.mk d.name 0 0 [.ret (.star (.cst .non))]
def Rw.clss : List Cl := R.cls.zipIdx.map fun q => ⟨R.dds.zipIdx.filterMap fun r => if r.1.cls == some q.2 then some (r.1.name, r.2) else none, upsOf R.cls 5 q.2, excOf R.cls q.2, (R.dds.filterMap fun d => if d.cls == some q.2 then some (fdSs 100 d.body) else none).flatten.eraseDups⟩
def Rw.p : Pg := ⟨R.dds.map R.df, R.clss⟩
/-- .. its classes alone -/
def Rw.p0 : Pg := ⟨[], R.clss⟩
end
/-! ### the tests -/
def glB (R : Rw) (K : PySem.W.Frag) (q : Str × Gk) : Bool := match q.2 with
  | .fn i => eqO (PySem.W.nsIn K mainGlobals q.1) (some (some (.ref (R.F K i)))) && PySem.W.keepIn K (.ref (R.F K i))
  | .cls c => eqO (PySem.W.nsIn K mainGlobals q.1) (some (some (.ref (R.C K c)))) && decide (c < R.clss.length)
  | .con n => (match (R.con K)[n]? with
    | some a => eqO (PySem.W.nsIn K mainGlobals q.1) (some (some (.ref a)))
    | none => false)
  | .str s => (match PySem.W.nsIn K mainGlobals q.1 with
    | some (some u) => relB (.str s) u
    | _ => false)
def bltB (R : Rw) (K : PySem.W.Frag) (x : Str) : Bool := (R.gl.lookup x).isSome || eqO (PySem.W.nsIn K mainGlobals x) (some none)
/-- a class of plain instances -/
def insB (R : Rw) (K : PySem.W.Frag) (c : Nat) (cl : Cl) : Bool := cl.exc || ((PySem.W.plainGet K (R.C K c) Str.empty && (PySem.W.hasDictIn K (R.C K c) && (PySem.W.plainOver K (R.C K c) && eqO (PySem.W.findIn K (.ref (R.C K c)) "__setattr__") (some (some (.builtin "object.__setattr__")))))) &&
  ((cl.flds.all fun f => eqO (PySem.W.findIn K (.ref (R.C K c)) f) (some none)) &&
  ((cl.meths.all fun q => eqO (PySem.W.findIn K (.ref (R.C K c)) q.1) (some (some (.ref (R.F K q.2)))) && (PySem.W.isFn K (.ref (R.F K q.2)) && (PySem.W.keepIn K (.ref (R.F K q.2)) && (!(q.1 == initS) || (PySem.W.makesIn K (R.C K c) && PySem.W.keepIn K (.ref (R.C K c))))))) &&
  (eqO (PySem.W.findIn K (.ref (R.C K c)) "__class__") (some (some (.builtin "object.__class__"))) && (decide (PySem.W.mroIn K (R.C K c) (.type "object") = some true) &&
  ((["int", "str", "bool", "list", "tuple", "dict"].all fun b => decide (PySem.W.kitOne K (.ref (R.C K c)) (.type b) = some false)) && (((List.range R.clss.length).all fun d => decide (PySem.W.kitOne K (.ref (R.C K c)) (.ref (R.C K d)) = some (c == d))) &&
  (["int", "NoneType"].all fun T => decide (PySem.W.subIn K (.ref (R.C K c)) (.type T) = some false)))))))))
def isiB (R : Rw) (K : PySem.W.Frag) (c : Nat) : Bool := ["NoneType", "bool", "int", "str", "list", "tuple", "dict"].all fun a => decide (PySem.W.kitOne K (.type a) (.ref (R.C K c)) = some false)
def keepShape : List Stmt → Option (Str × Str × Str)
  | [.Assign [.Attribute (.Name self _) f _] (.Name p _) _] => some (self, p, f)
  | _ => none
def oexB (K : PySem.W.Frag) (C : Addr) : Bool := (match K.lookup C with
  | some ⟨.type t, _, .cls cd, sl⟩ => (match cd.mro, sl.toList with
    | .ref C' :: bm, [_, _, _, _, some (.builtin n), _] => t == "type" && (C' == C && (n == "ValueError.__new__" && (!cd.hasDel && (cd.hasDict && HandSPX.refsVE bm))))
    | _, _ => false)
  | _ => false) && (eqO (PySem.W.findIn K (.ref C) "__setattr__") (some (some (.builtin "object.__setattr__"))) && (decide (PySem.W.subIn K (.ref C) (.type "BaseException") = some true) && (decide (PySem.W.typeIn K (.ref C) = some (.type "type")) && PySem.W.keepIn K (.ref C))))
/-- a class of exceptions with an __init__ of its own -/
def xcB (R : Rw) (K : PySem.W.Frag) (c : Nat) : Bool := match excI R.p0 c with
  | none => true
  | some i => (match R.dds[i]? with
    | some d => (match keepShape d.body, argNames d.args with
      | some x, some ps => decide (ps = [x.1, x.2.1]) && (C8.scC [x.1, x.2.1] [x.1, x.2.1] d.scope && (eqO (PySem.W.findIn K (.ref (R.C K c)) "__init__") (some (some (.ref (R.F K i)))) && (decide (PySem.W.typeIn K (.ref (R.F K i)) = some (.type "function")) &&
        (eqO (PySem.W.findIn K (.ref (R.C K c)) x.2.2) (some none) && (([x.1, x.2.1].all fun x => !(x == ("__debug__" : Str)) && !(x == ("__classdict__" : Str))) && oexB K (R.C K c))))))
      | _, _ => false)
    | none => false)
def exmB (R : Rw) (K : PySem.W.Frag) (d c : Nat) : Bool := match exQ R.p0 d c with
  | some b => decide (PySem.W.exmOne K (.ref (R.C K d)) (.ref (R.C K c)) = some b)
  | none => true
/-- all of it -/
def factsB (R : Rw) (K : PySem.W.Frag) : Bool := (R.gl.all (glB R K)) && ((bnames.all (bltB R K)) && ((R.clss.zipIdx.all fun q => insB R K q.2 q.1) && (((List.range R.clss.length).all (isiB R K)) && (((List.range R.clss.length).all (xcB R K)) && (((List.range R.clss.length).all fun d => (List.range R.clss.length).all fun c => exmB R K d c) &&
  (eqO (PySem.W.specialIn K (.builtin "object.__class__") "__get__") (some (some (.builtin "getset_descriptor.__get__"))) && (decide (PySem.W.takesIn K (.builtin "object.__class__") = some true) && decide ((R.tf.map fun p => (He.cT K p).2).Nodup))))))))
/-- the defs' scopes -/
def scopesB (R : Rw) : Bool := R.dds.all fun d => match argNames d.args with
  | some ps => C8.scC (slotsOf ps d.scope (cnSs 100 d.body)) ps d.scope
  | none => true
/-- one text alone -/
def oneB : Data → Bool
  | .seq its _ => (match its.toList with
    | [.str _ _] => true
    | _ => false)
  | _ => false
/-- functions, classes, code objects, dicts, tuples of one text -/
def kindB : Obj → Bool
  | ⟨.type t, _, d, _⟩ => t == "function" || (t == "type" || (t == "code" || (t == "dict" || (t == "tuple" && oneB d))))
  | _ => false
def asR (n : Nat) (g : Addr → Option Obj) : List Addr := (List.range' mainGlobals n).filter fun a => match g a with
  | some o => kindB o
  | none => false
/-- the part of the heap that is looked at -/
def frR (n : Nat) (g : Addr → Option Obj) : PySem.W.Frag := frT g (asR n g)
def obsR (n : Nat) (fn : List DefD) (ts : List He.Tab) (tf : List Defn) (ex : PySem.W.Frag → Bool) (g : Addr → Option Obj) : AlX := (obsT [] fn ts (frR n g), ex (frR n g) && tabsB g tf (frR n g))
end RP

set_option Elab.async false
set_option linter.all false
set_option maxRecDepth 100000
set_option maxHeartbeats 0
/-! RP62: the row k93. -/
namespace RP
open PySem PySem.Spec PyProof.Rows L2 LamX NdefX

abbrev kRow : PySem.W.OpenRow := PySem.W.OpenLaw.row PySem.Challenge.rw_settledby_k93_whole_twins_and_copies_of
abbrev kBody : List Stmt := PySem.Challenge.pw_settledby_k93_whole_twins_and_copies_of.main.body
def kCons : List (Str × Gk) := [("LETTERS", .str "abcdefghijklmnopqrstuvwxyz"), ("SIGNS", .str "abcdefghijklmnopqrstuvwxyz"), ("NEVER", .con 0), ("PARTS", .con 1)]
def kPairs : List (Str × Str) := [("given", "number"), ("name", "name"), ("pair", "term term"), ("first", "term"), ("second", "term"),
    ("fun", "name formula term"), ("use", "term term"), ("left", "formula term"), ("right", "formula term"),
    ("cases", "term name term name term"), ("from", "formula term"), ("twice", "term"), ("split", "term")]
def kMks : List Str := ["grafted", "answers_tree", "split_tree", "split_if", "from_answer", "proof_by", "_law_stays_right"]
def kLams : List (Nat × Nat × Str) := [(319, 34, "<lambda>"), (346, 35, "<lambda>"), (349, 75, "<lambda>"), (350, 78, "<lambda>"), (357, 37, "<lambda>"), (358, 29, "<lambda>"), (367, 36, "<lambda>"), (368, 33, "<lambda>"), (373, 30, "<lambda>"), (374, 34, "<lambda>"), (387, 37, "<lambda>"), (389, 30, "<lambda>"), (390, 29, "<lambda>"), (409, 4, "told"), (454, 37, "<lambda>"), (456, 4, "told"), (823, 12, "<lambda>"), (824, 16, "<lambda>"), (825, 16, "<lambda>"), (826, 16, "<lambda>"), (827, 16, "<lambda>"),
  (828, 16, "<lambda>"), (829, 16, "<lambda>"), (830, 16, "<lambda>"), (831, 16, "<lambda>"), (832, 16, "<lambda>"), (833, 16, "<lambda>"), (834, 16, "<lambda>"), (835, 16, "<lambda>"), (839, 31, "<lambda>")]
def k93 : Rw := ⟨kBody, kCons, kMks, kLams, ["NEVER", "PARTS"]⟩
/-! ### the head -/
def kEx (K : PySem.W.Frag) : Bool := factsB k93 K && (He.tupB K "NEVER" [.str "never"] && He.valsB K (He.ga K "PARTS") (kPairs.map fun q => (q.1, He.Dv.str q.2)))
def kTabs : List He.Tab := [(fun K => He.ga K "PARTS", kPairs.map (·.1))]
def kLi : Nat := kBody.length - 1
def kLoose : List Str := (PySem.Challenge.pw_settledby_k93_whole_twins_and_copies_of.main.scope.names.map (·.1)).filter fun x => !(x == ("law" : Str))
abbrev kN : Nat := 2000
noncomputable abbrev kEnd (w : World) (os : OsState) : Option PySem.W.SharedT := HandSHeadRun.endF (HandSHeadRun.stepQ (HandSHeadRun.denQ HandSHeadRun.tabQ) kRow.prog w) 30000 kRow.prog w os
end RP

set_option Elab.async false
set_option linter.all false
set_option maxRecDepth 100000
set_option maxHeartbeats 4000000
/-! RP64: the machine once more, laid out for the kernel: each piece of code is made once to a function of its own. -/
namespace RP.Fx
open PySem RP

structure CE where
  run : Orc → Env → Hv → Res W
structure CEs where
  run : Orc → Env → Hv → Res (List W)
structure CB where
  run : Orc → Env → Hv → Res Bool
structure CO where
  run : Orc → Env → Hv → Res (Option Int)
structure CKs where
  run : Orc → List (Key × W) → Env → Hv → Res (List (Key × W))
structure CI where
  run : Orc → Env → Hv → Res ItV
structure CT where
  run : Orc → W → Env → Hv → Res Env
structure CTs where
  run : Orc → List W → Env → Hv → Res Env
structure CS where
  run : Orc → Env → Hv → Res Out
structure Fm where
  e : E → CE
  es : List E → CEs
  as : List E → CEs
  a : E → CE
  bo : Bool → List E → CE
  t : E → CB
  ts : Bool → List E → CB
  ifs : List E → CB
  o : Option E → CO
  ks : List (E × E) → CKs
  i : I → CI
  tg : T → CT
  tgs : List T → CTs
def no0 : Fm := ⟨fun _ => ⟨fun _ _ _ => .no⟩, fun _ => ⟨fun _ _ _ => .no⟩, fun _ => ⟨fun _ _ _ => .no⟩, fun _ => ⟨fun _ _ _ => .no⟩, fun _ _ => ⟨fun _ _ _ => .no⟩, fun _ => ⟨fun _ _ _ => .no⟩, fun _ _ => ⟨fun _ _ _ => .no⟩, fun _ => ⟨fun _ _ _ => .no⟩,
  fun _ => ⟨fun _ _ _ => .no⟩, fun _ => ⟨fun _ _ _ _ => .no⟩, fun _ => ⟨fun _ _ _ => .no⟩, fun _ => ⟨fun _ _ _ _ => .no⟩, fun _ => ⟨fun _ _ _ _ => .no⟩⟩

def kNo (_ : Orc) (_ : Env) (_ : Hv) : Res W := .no
def kNm (i : Nat) (_ : Orc) (env : Env) (h : Hv) : Res W := match env[i]? with
  | some (some w) => if clean w then .ok w h else .no
  | _ => .no
def kCst (w : W) (_ : Orc) (_ : Env) (h : Hv) : Res W := .ok w h
def kCon (m : Nat) (_ : Orc) (_ : Env) (h : Hv) : Res W := .ok (.ref m) h
def kTup (c : CEs) (K : Orc) (env : Env) (h : Hv) : Res W := (c.run K env h).bind fun ws h => if ws.length ≤ 16777216 then .ok (.ref h.n) (h.push (.tup ws)) else .no
def kLst (c : CEs) (K : Orc) (env : Env) (h : Hv) : Res W := (c.run K env h).bind fun ws h => if ws.length ≤ 16777216 then .ok (.ref h.n) (h.push (.lst ws)) else .no
def kBin (o : Operator) (a b : CE) (K : Orc) (env : Env) (h : Hv) : Res W := (a.run K env h).bind fun x h => (b.run K env h).bind fun y h => binW h o x y
def kUn (o : UnaryOp) (a : CE) (K : Orc) (env : Env) (h : Hv) : Res W := (a.run K env h).bind fun x h => match unW o x with
  | some w => .ok w h
  | none => .no
def kCmp (p : Pg) (o : CmpOp) (a b : CE) (K : Orc) (env : Env) (h : Hv) : Res W := (a.run K env h).bind fun x h => (b.run K env h).bind fun y h => cmpE p K h o x y
def kChn (p : Pg) (o1 o2 : CmpOp) (a b c : CE) (K : Orc) (env : Env) (h : Hv) : Res W := (a.run K env h).bind fun x h => (b.run K env h).bind fun y h => (cmpE p K h o1 x y).bind fun z h => match z with
  | .bl true => (c.run K env h).bind fun z h => cmpE p K h o2 y z
  | .bl false => .ok (.bl false) h
  | _ => .no
def kNt (a : CE) (K : Orc) (env : Env) (h : Hv) : Res W := (a.run K env h).bind fun x h => match truth h x with
  | some b => .ok (.bl (!b)) h
  | none => .no
def kIte (c : CB) (a b : CE) (K : Orc) (env : Env) (h : Hv) : Res W := (c.run K env h).bind fun t h => match t with
  | true => a.run K env h
  | false => b.run K env h
def kIdx (a i : CE) (K : Orc) (env : Env) (h : Hv) : Res W := (a.run K env h).bind fun x h => (i.run K env h).bind fun y h => match idxW h x y with
  | some w => .ok w h
  | none => .no
def kSlc (a : CE) (lo hi : CO) (K : Orc) (env : Env) (h : Hv) : Res W := (a.run K env h).bind fun x h => (lo.run K env h).bind fun l h => (hi.run K env h).bind fun u h => slcW h x l u
def kCall (f : Nat) (es : CEs) (K : Orc) (env : Env) (h : Hv) : Res W := (es.run K env h).bind fun ws h => (match publish env ws h with
  | some (ws, ns, h) => killR ns (K.fn f ws h)
  | none => .no)
def kCallv (i : Nat) (es : CEs) (K : Orc) (env : Env) (h : Hv) : Res W := (match env[i]? with
  | some (some (.ref m)) => (match h.get m with
    | some (.clo ..) => (es.run K env h).bind fun ws h => (match h.get m with
      | some (.clo k cs) => wakeR m k cs (K.lm k cs ws (h.set m .dead))
      | _ => .no)
    | _ => .no)
  | _ => .no)
def kMk (p : Pg) (c : Nat) (es : CEs) (K : Orc) (env : Env) (h : Hv) : Res W := (match methI p c initS with
  | some f => (es.run K env h).bind fun ws h => (K.fn f (.ref h.n :: ws) (h.push (.ins c []))).bind fun r h' => match r with
    | .non => .ok (.ref h.n) h'
    | _ => .no
  | none => .no)
def kMe (p : Pg) (o : CE) (m : Str) (es : CEs) (K : Orc) (env : Env) (h : Hv) : Res W := (o.run K env h).bind fun x h => (match x with
  | .ref q => (match h.get q with
    | some (.ins c fs) => (match methI p c m, lookF fs m with
      | some f, none => (es.run K env h).bind fun ws h => K.fn f (x :: ws) h
      | _, _ => .no)
    | _ => .no)
  | _ => .no)
def kBi (b : Bi) (es : CEs) (K : Orc) (env : Env) (h : Hv) : Res W := (es.run K env h).bind fun ws h => biW h b ws
def kBm (m : Bm) (o : CE) (es : CEs) (K : Orc) (env : Env) (h : Hv) : Res W := (o.run K env h).bind fun x h => if bmOk h m x then (es.run K env h).bind fun ws h => bmW h m x ws else .no
def kFld (p : Pg) (o : CE) (f : Str) (K : Orc) (env : Env) (h : Hv) : Res W := (o.run K env h).bind fun x h => (match x with
  | .ref q => (match h.get q with
    | some (.ins c fs) => if fldOf p c f then (match lookF fs f with
      | some w => .ok w h
      | none => .no) else .no
    | _ => .no)
  | _ => .no)
def kLc (elt : CE) (t : CT) (it : CI) (ifs : CB) (own : List Nat) (K : Orc) (env : Env) (h : Hv) : Res W := (it.run K env h).bind fun iv h => (lcL iv (fun w h => ((t.run K w (wipeE (dropPend env) own) h).bind fun env' h =>
  (ifs.run K env' h).bind fun b h => match b with
    | true => (elt.run K env' h).bind fun v h => .ok (some v) h
    | false => .ok none h).nox) (turns iv h) 0 [] h).bind fun ws h => .ok (.ref h.n) (h.push (.lst ws))
def kDc (ke ve : CE) (t : CT) (it : CI) (own : List Nat) (K : Orc) (env : Env) (h : Hv) : Res W := (it.run K env h).bind fun iv h => (dcL iv (fun w h => ((t.run K w (wipeE (dropPend env) own) h).bind fun env' h =>
  (ke.run K env' h).bind fun a h => (match keyOf a with
    | some k => (ve.run K env' h).bind fun v h => .ok (k, v) h
    | none => .no)).nox) (turns iv h) 0 [] h).bind fun kvs h => .ok (.ref h.n) (h.push (.dct kvs))
def kDct (ks : CKs) (K : Orc) (env : Env) (h : Hv) : Res W := (ks.run K [] env h).bind fun kvs h => .ok (.ref h.n) (h.push (.dct kvs))
def kDup (d : CE) (ks : CKs) (K : Orc) (env : Env) (h : Hv) : Res W := (d.run K env h).bind fun x h => (match dctOf h x with
  | some kvs => if kvs.length < 16777216 then (ks.run K kvs env h).bind fun kvs h => .ok (.ref h.n) (h.push (.dct kvs)) else .no
  | none => .no)
def kIsi (p : Pg) (a : CE) (tys : List Ty1) (K : Orc) (env : Env) (h : Hv) : Res W := (a.run K env h).bind fun x h => if isiOk p h x then .ok (.bl (tys.any fun t => match isiW p h x t with
  | some b => b
  | none => false)) h else .no
def kLam (l : Lm) (_ : Orc) (_ : Env) (h : Hv) : Res W := .ok (.ref h.n) (h.push (.clo l []))
def kLamA (l : Lm) (_ : Orc) (_ : Env) (h : Hv) : Res W := .ok (.pend l) h
def stepE (p : Pg) (F : Fm) : E → CE
  | .nm i => ⟨kNm i⟩
  | .cst c => ⟨kCst (wOfCs c)⟩
  | .con m => ⟨kCon m⟩
  | .tup es => ⟨kTup (F.es es)⟩
  | .lst es => ⟨kLst (F.es es)⟩
  | .star _ => ⟨kNo⟩
  | .bin o a b => ⟨kBin o (F.e a) (F.e b)⟩
  | .un o a => ⟨kUn o (F.e a)⟩
  | .cmp o a b => ⟨kCmp p o (F.e a) (F.e b)⟩
  | .chn o1 o2 a b c => ⟨kChn p o1 o2 (F.e a) (F.e b) (F.e c)⟩
  | .bo isAnd es => F.bo isAnd es
  | .nt a => ⟨kNt (F.e a)⟩
  | .ite c a b => ⟨kIte (F.t c) (F.e a) (F.e b)⟩
  | .idx a i => ⟨kIdx (F.e a) (F.e i)⟩
  | .slc a lo hi => ⟨kSlc (F.e a) (F.o lo) (F.o hi)⟩
  | .call f es => ⟨kCall f (F.as es)⟩
  | .callv i es => ⟨kCallv i (F.es es)⟩
  | .mk c es => ⟨kMk p c (F.es es)⟩
  | .me o m es => ⟨kMe p (F.e o) m (F.es es)⟩
  | .bi b es => ⟨kBi b (F.es es)⟩
  | .bm m o es => ⟨kBm m (F.e o) (F.es es)⟩
  | .fld o f => ⟨kFld p (F.e o) f⟩
  | .lc elt t it ifs own => ⟨kLc (F.e elt) (F.tg t) (F.i it) (F.ifs ifs) own⟩
  | .dc ke ve t it own => ⟨kDc (F.e ke) (F.e ve) (F.tg t) (F.i it) own⟩
  | .dct es => ⟨kDct (F.ks es)⟩
  | .dup d es => ⟨kDup (F.e d) (F.ks es)⟩
  | .isi a tys => ⟨kIsi p (F.e a) tys⟩
  | .lam l => (match l.caps with
    | [] => ⟨kLam l⟩
    | _ :: _ => ⟨kNo⟩)
def kNil (_ : Orc) (_ : Env) (h : Hv) : Res (List W) := .ok [] h
def kStar (e : CE) (r : CEs) (K : Orc) (env : Env) (h : Hv) : Res (List W) := (e.run K env h).bind fun x h => (match seqOf h x with
  | some xs => (r.run K env h).bind fun ws h => .ok (xs ++ ws) h
  | none => .no)
def kCns (e : CE) (r : CEs) (K : Orc) (env : Env) (h : Hv) : Res (List W) := (e.run K env h).bind fun x h => (r.run K env h).bind fun ws h => .ok (x :: ws) h
def stepEs (F : Fm) : List E → CEs
  | [] => ⟨kNil⟩
  | .star e :: r => ⟨kStar (F.e e) (F.es r)⟩
  | e :: r => ⟨kCns (F.e e) (F.es r)⟩
def stepAs (F : Fm) : List E → CEs
  | [] => ⟨kNil⟩
  | e :: r => ⟨kCns (F.a e) (F.as r)⟩
def kNmA (i : Nat) (_ : Orc) (env : Env) (h : Hv) : Res W := match env[i]? with
  | some (some w) => .ok w h
  | _ => .no
def stepA (F : Fm) : E → CE
  | .nm i => ⟨kNmA i⟩
  | .lam l => (match l.caps with
    | [] => ⟨kLam l⟩
    | _ :: _ => ⟨kLamA l⟩)
  | e => F.e e
def kBo (isAnd : Bool) (e r : CE) (K : Orc) (env : Env) (h : Hv) : Res W := (e.run K env h).bind fun x h => match truth h x with
  | some b => if b = isAnd then r.run K env h else .ok x h
  | none => .no
def stepBo (F : Fm) (isAnd : Bool) : List E → CE
  | [] => ⟨kNo⟩
  | [e] => F.e e
  | e :: r => ⟨kBo isAnd (F.e e) (F.bo isAnd r)⟩
def kTn (a : CB) (K : Orc) (env : Env) (h : Hv) : Res Bool := (a.run K env h).bind fun b h => .ok (!b) h
def kTe (e : CE) (K : Orc) (env : Env) (h : Hv) : Res Bool := (e.run K env h).bind fun x h => match truth h x with
  | some b => .ok b h
  | none => .no
def kTno (_ : Orc) (_ : Env) (_ : Hv) : Res Bool := .no
def stepT (F : Fm) : E → CB
  | .bo isAnd es => F.ts isAnd es
  | .nt a => ⟨kTn (F.t a)⟩
  | .ite .. => ⟨kTno⟩
  | e => ⟨kTe (F.e e)⟩
def kTs (isAnd : Bool) (e r : CB) (K : Orc) (env : Env) (h : Hv) : Res Bool := (e.run K env h).bind fun b h => if b = isAnd then r.run K env h else .ok b h
def stepTs (F : Fm) (isAnd : Bool) : List E → CB
  | [] => ⟨kTno⟩
  | [e] => F.t e
  | e :: r => ⟨kTs isAnd (F.t e) (F.ts isAnd r)⟩
def kTrue (_ : Orc) (_ : Env) (h : Hv) : Res Bool := .ok true h
def stepIfs (F : Fm) : List E → CB
  | [] => ⟨kTrue⟩
  | [e] => F.t e
  | _ => ⟨kTno⟩
def kOn (_ : Orc) (_ : Env) (h : Hv) : Res (Option Int) := .ok none h
def kOs (e : CE) (K : Orc) (env : Env) (h : Hv) : Res (Option Int) := (e.run K env h).bind fun x h => match x with
  | .int i => .ok (some i) h
  | _ => .no
def stepO (F : Fm) : Option E → CO
  | none => ⟨kOn⟩
  | some e => ⟨kOs (F.e e)⟩
def kKn (_ : Orc) (kvs : List (Key × W)) (_ : Env) (h : Hv) : Res (List (Key × W)) := .ok kvs h
def kKc (a b : CE) (r : CKs) (K : Orc) (kvs : List (Key × W)) (env : Env) (h : Hv) : Res (List (Key × W)) := (a.run K env h).bind fun x h => (b.run K env h).bind fun y h => match keyOf x with
  | some k => r.run K (putK kvs k y) env h
  | none => .no
def stepKs (F : Fm) : List (E × E) → CKs
  | [] => ⟨kKn⟩
  | (a, b) :: r => ⟨kKc (F.e a) (F.e b) (F.ks r)⟩
def kIe (a : CE) (K : Orc) (env : Env) (h : Hv) : Res ItV := (a.run K env h).bind fun x h => (match x with
  | .str s => .ok (.sg s) h
  | x => (match seqOf h x with
    | some _ => .ok (.seq x (isLst h x)) h
    | none => .no))
def kIez (a : E) (c : CE) (K : Orc) (env : Env) (h : Hv) : Res ItV := (match zipAt env a with
  | some m => (match h.z with
    | some (m', x, y) => if m = m' ∧ isLst h x.1 = x.2 ∧ isLst h y.1 = y.2 then (match seqOf h x.1, seqOf h y.1 with
      | some _, some _ => .ok (.zp x.1 x.2 y.1 y.2) (h.setz none)
      | _, _ => .no) else .no
    | none => .no)
  | none => (c.run K env h).bind fun x h => (match x with
    | .str s => .ok (.sg s) h
    | x => (match seqOf h x with
      | some _ => .ok (.seq x (isLst h x)) h
      | none => .no)))
def kIr (es : CEs) (K : Orc) (env : Env) (h : Hv) : Res ItV := (es.run K env h).bind fun ws h => (match ws with
  | [.int j] => if -(2 ^ 62) ≤ j ∧ j < 2 ^ 62 then .ok (.rng 0 j.toNat) h else .no
  | [.int i, .int j] => if -(2 ^ 62) ≤ i ∧ i < 2 ^ 62 ∧ -(2 ^ 62) ≤ j ∧ j < 2 ^ 62 then .ok (.rng i (j - i).toNat) h else .no
  | _ => .no)
def kIn (a : CE) (K : Orc) (env : Env) (h : Hv) : Res ItV := (a.run K env h).bind fun x h => (match seqOf h x with
  | some _ => .ok (.enm x (isLst h x)) h
  | none => .no)
def kIz (a b : CE) (K : Orc) (env : Env) (h : Hv) : Res ItV := (a.run K env h).bind fun x h => (b.run K env h).bind fun y h => (match seqOf h x, seqOf h y with
  | some _, some _ => .ok (.zp x (isLst h x) y (isLst h y)) h
  | _, _ => .no)
def kIz3 (a b c : CE) (K : Orc) (env : Env) (h : Hv) : Res ItV := (a.run K env h).bind fun x h => (b.run K env h).bind fun y h => (c.run K env h).bind fun z h => (match seqOf h x, seqOf h y, seqOf h z with
  | some _, some _, some _ => .ok (.zp3 x (isLst h x) y (isLst h y) z (isLst h z)) h
  | _, _, _ => .no)
def stepI (F : Fm) : I → CI
  | .e a => ⟨kIe (F.e a)⟩
  | .ez a => ⟨kIez a (F.e a)⟩
  | .rng es => ⟨kIr (F.es es)⟩
  | .enm a => ⟨kIn (F.e a)⟩
  | .zp a b => ⟨kIz (F.e a) (F.e b)⟩
  | .zp3 a b c => ⟨kIz3 (F.e a) (F.e b) (F.e c)⟩
def kAn (i : Nat) (_ : Orc) (w : W) (env : Env) (h : Hv) : Res Env := if i < env.length then .ok (setEnv env i (some w)) h else .no
def kAt (n : Nat) (ts : CTs) (K : Orc) (w : W) (env : Env) (h : Hv) : Res Env := (match w with
  | .ref m => (match h.get m with
    | some (.tup xs) => if xs.length = n then ts.run K xs env h else .no
    | _ => .no)
  | _ => .no)
def kAi (o i : CE) (K : Orc) (w : W) (env : Env) (h : Hv) : Res Env := (o.run K env h).bind fun x h => (i.run K env h).bind fun y h => if clean w then (match setIdxW h x y w with
  | some h => .ok env h
  | none => .no) else .no
def kAf (p : Pg) (o : CE) (f : Str) (K : Orc) (w : W) (env : Env) (h : Hv) : Res Env := (o.run K env h).bind fun x h => if clean w then (match x with
  | .ref m => (match h.get m with
    | some (.ins c fs) => if fs.length < 1000 ∧ fldOf p c f = true then .ok env (h.set m (.ins c (putFd fs f w))) else .no
    | _ => .no)
  | _ => .no) else .no
def stepTg (p : Pg) (F : Fm) : T → CT
  | .nm i => ⟨kAn i⟩
  | .tup ts => ⟨kAt ts.length (F.tgs ts)⟩
  | .idx o i => ⟨kAi (F.e o) (F.e i)⟩
  | .fld o f => ⟨kAf p (F.e o) f⟩
def kTg0 (_ : Orc) (ws : List W) (env : Env) (h : Hv) : Res Env := match ws with
  | [] => .ok env h
  | _ => .no
def kTg1 (t : CT) (ts : CTs) (K : Orc) (ws : List W) (env : Env) (h : Hv) : Res Env := match ws with
  | w :: ws => (t.run K w env h).bind fun env h => ts.run K ws env h
  | _ => .no
def stepTgs (F : Fm) : List T → CTs
  | [] => ⟨kTg0⟩
  | t :: ts => ⟨kTg1 (F.tg t) (F.tgs ts)⟩
def fmS (p : Pg) (F : Fm) : Fm := ⟨stepE p F, stepEs F, stepAs F, stepA F, stepBo F, stepT F, stepTs F, stepIfs F, stepO F, stepKs F, stepI F, stepTg p F, stepTgs F⟩
def fm (p : Pg) (n : Nat) : Fm := Nat.rec no0 (fun _ F => fmS p F) n
/-- what it should be -/
def fm' (p : Pg) (n : Nat) : Fm := ⟨fun e => ⟨fun K env h => evE p K n e env h⟩, fun e => ⟨fun K env h => evEs p K n e env h⟩, fun e => ⟨fun K env h => evAs p K n e env h⟩, fun e => ⟨fun K env h => evA p K n e env h⟩,
  fun b e => ⟨fun K env h => evBo p K n b e env h⟩, fun e => ⟨fun K env h => evT p K n e env h⟩, fun b e => ⟨fun K env h => evTs p K n b e env h⟩, fun e => ⟨fun K env h => evIfs p K n e env h⟩, fun e => ⟨fun K env h => evO p K n e env h⟩,
  fun e => ⟨fun K kvs env h => evKs p K n e kvs env h⟩, fun e => ⟨fun K env h => evI p K n e env h⟩, fun t => ⟨fun K w env h => asgT p K n t w env h⟩, fun t => ⟨fun K w env h => asgTs p K n t w env h⟩⟩
theorem fm_s1 (p : Pg) (n : Nat) : stepE p (fm' p n) = (fm' p (n + 1)).e := by
  funext e
  cases e with
  | lam l =>
    cases l with
    | mk np ns caps body => cases caps <;> rfl
  | _ => rfl
theorem fm_s2 (p : Pg) (n : Nat) : stepEs (fm' p n) = (fm' p (n + 1)).es := by
  funext es
  cases es with
  | nil => rfl
  | cons e r => cases e <;> rfl
theorem fm_s3 (p : Pg) (n : Nat) : stepAs (fm' p n) = (fm' p (n + 1)).as := by
  funext es
  cases es <;> rfl
theorem fm_s4 (p : Pg) (n : Nat) : stepA (fm' p n) = (fm' p (n + 1)).a := by
  funext e
  cases e with
  | lam l =>
    cases l with
    | mk np ns caps body => cases caps <;> rfl
  | _ => rfl
theorem fm_s5 (p : Pg) (n : Nat) : stepBo (fm' p n) = (fm' p (n + 1)).bo := by
  funext b es
  cases es with
  | nil => rfl
  | cons e r => cases r <;> rfl
theorem fm_s6 (p : Pg) (n : Nat) : stepT (fm' p n) = (fm' p (n + 1)).t := by
  funext e
  cases e <;> rfl
theorem fm_s7 (p : Pg) (n : Nat) : stepTs (fm' p n) = (fm' p (n + 1)).ts := by
  funext b es
  cases es with
  | nil => rfl
  | cons e r => cases r <;> rfl
theorem fm_s8 (p : Pg) (n : Nat) : stepIfs (fm' p n) = (fm' p (n + 1)).ifs := by
  funext es
  cases es with
  | nil => rfl
  | cons e r => cases r <;> rfl
theorem fm_s9 (p : Pg) (n : Nat) : stepO (fm' p n) = (fm' p (n + 1)).o := by
  funext e
  cases e <;> rfl
theorem fm_s10 (p : Pg) (n : Nat) : stepKs (fm' p n) = (fm' p (n + 1)).ks := by
  funext es
  cases es with
  | nil => rfl
  | cons e r => rfl
theorem fm_s11 (p : Pg) (n : Nat) : stepI (fm' p n) = (fm' p (n + 1)).i := by
  funext e
  cases e <;> rfl
theorem fm_s12 (p : Pg) (n : Nat) : stepTg p (fm' p n) = (fm' p (n + 1)).tg := by
  funext e
  cases e <;> rfl
theorem tgs0 (p : Pg) (n : Nat) (K : Orc) (ws : List W) (env : Env) (h : Hv) : kTg0 K ws env h = asgTs p K (n + 1) [] ws env h := by
  cases ws <;> rfl
theorem tgs1 (p : Pg) (n : Nat) (t : T) (ts : List T) (K : Orc) (ws : List W) (env : Env) (h : Hv) : kTg1 ((fm' p n).tg t) ((fm' p n).tgs ts) K ws env h = asgTs p K (n + 1) (t :: ts) ws env h := by
  cases ws <;> rfl
theorem fm_s13 (p : Pg) (n : Nat) : stepTgs (fm' p n) = (fm' p (n + 1)).tgs := by
  funext e
  cases e with
  | nil => exact congrArg CTs.mk (by funext K ws env h; exact tgs0 p n K ws env h)
  | cons t ts => exact congrArg CTs.mk (by funext K ws env h; exact tgs1 p n t ts K ws env h)
theorem fm_eq (p : Pg) : ∀ n, fm p n = fm' p n
  | 0 => rfl
  | n + 1 => by
    show fmS p (fm p n) = _
    rw [fm_eq p n]
    unfold fmS
    rw [fm_s1, fm_s2, fm_s3, fm_s4, fm_s5, fm_s6, fm_s7, fm_s8, fm_s9, fm_s10, fm_s11, fm_s12, fm_s13]

structure Gm where
  s : S → CS
  ss : List S → CS
def kSno (_ : Orc) (_ : Env) (_ : Hv) : Res Out := .no
def kSasg (t : CT) (e : CE) (K : Orc) (env : Env) (h : Hv) : Res Out := (e.run K env h).bind fun w h => (t.run K w env h).bind fun env h => .ok (.nx env) h
def kSasgz (i : Nat) (a b : CE) (K : Orc) (env : Env) (h : Hv) : Res Out := (a.run K env h).bind fun x h => (b.run K env h).bind fun y h => (match seqOf h x, seqOf h y, h.z with
  | some _, some _, none => if i < env.length then .ok (.nx (setEnv env i (some (.zipv h.n)))) ((h.push .dead).setz (some (h.n, (x, isLst h x), (y, isLst h y)))) else .no
  | _, _, _ => .no)
def kSpar (ts : CTs) (es : CEs) (K : Orc) (env : Env) (h : Hv) : Res Out := (es.run K env h).bind fun ws h => (ts.run K ws env h).bind fun env h => .ok (.nx env) h
def kSex (e : CE) (K : Orc) (env : Env) (h : Hv) : Res Out := (e.run K env h).bind fun _ h => .ok (.nx env) h
def kSret (e : CE) (K : Orc) (env : Env) (h : Hv) : Res Out := (e.run K env h).bind fun w h => .ok (.rt w) h
def kSif (c : CB) (a b : CS) (K : Orc) (env : Env) (h : Hv) : Res Out := (c.run K env h).bind fun t h => match t with
  | true => a.run K env h
  | false => b.run K env h
def kSfo (t : CT) (it : CI) (b : CS) (K : Orc) (env : Env) (h : Hv) : Res Out := (it.run K env h).bind fun iv h => forL iv (fun w env h => (t.run K w env h).bind fun env h => b.run K env h) (turns iv h) 0 env h
def kSwh (c : CB) (b : CS) (K : Orc) (env : Env) (h : Hv) : Res Out := whL (fun env h => c.run K env h) (fun env h => b.run K env h) 1000000 env h
def kSpass (_ : Orc) (env : Env) (h : Hv) : Res Out := .ok (.nx env) h
def kSrais (p : Pg) (c : Nat) (es : CEs) (K : Orc) (env : Env) (h : Hv) : Res Out := (match excI p c with
  | some _ => (es.run K env h).bind fun ws h => (match ws with
    | [w] => .ex c [("", w)] h
    | _ => .no)
  | none => .no)
def kSndef (i : Nat) (l : Lm) (_ : Orc) (env : Env) (h : Hv) : Res Out := if i < env.length then .ok (.nx (setEnv env i (some (.pend l)))) h else .no
def kSdel (o i : CE) (K : Orc) (env : Env) (h : Hv) : Res Out := (o.run K env h).bind fun x h => (i.run K env h).bind fun y h => (match x with
  | .ref m => (match h.get m, keyOf y with
    | some (.dct kvs), some k => (match lookK kvs k with
      | some _ => .ok (.nx env) (h.set m (.dct (dropK kvs k)))
      | none => .no)
    | _, _ => .no)
  | _ => .no)
def kStry (p : Pg) (e : CE) (b1 : Bool) (c : Nat) (b2 : Bool) (K : Orc) (env : Env) (h : Hv) : Res Out := (match e.run K env h with
  | .ok _ h => .ok (.rt (.bl b1)) h
  | .ex d fs h => (match exQ p d c with
    | some true => .ok (.rt (.bl b2)) h
    | some false => .ex d fs h
    | none => .no)
  | .no => .no)
def stepS (p : Pg) (F : Fm) (G : Gm) : S → CS
  | .asg t e => ⟨kSasg (F.tg t) (F.e e)⟩
  | .asgz i a b => ⟨kSasgz i (F.e a) (F.e b)⟩
  | .par ts es => ⟨kSpar (F.tgs (ts.map .nm)) (F.es es)⟩
  | .ex e => ⟨kSex (F.e e)⟩
  | .ret e => ⟨kSret (F.e e)⟩
  | .iff c a b => ⟨kSif (F.t c) (G.ss a) (G.ss b)⟩
  | .fo t it b => ⟨kSfo (F.tg t) (F.i it) (G.ss b)⟩
  | .wh c b => ⟨kSwh (F.t c) (G.ss b)⟩
  | .pass => ⟨kSpass⟩
  | .rais c es => ⟨kSrais p c (F.es es)⟩
  | .ndef i l => ⟨kSndef i l⟩
  | .del o i => ⟨kSdel (F.e o) (F.e i)⟩
  | .tryb e b1 c b2 => ⟨kStry p (F.e e) b1 c b2⟩
def kSs (s r : CS) (K : Orc) (env : Env) (h : Hv) : Res Out := (s.run K env h).bind fun o h => match o with
  | .nx env => r.run K env h
  | o => .ok o h
def stepSs (G : Gm) : List S → CS
  | [] => ⟨kSpass⟩
  | s :: r => ⟨kSs (G.s s) (G.ss r)⟩
def gmS (p : Pg) (F : Fm) (G : Gm) : Gm := ⟨stepS p F G, stepSs G⟩
def gm (p : Pg) (n : Nat) : Gm := Nat.rec ⟨fun _ => ⟨kSno⟩, fun _ => ⟨kSno⟩⟩ (fun n G => gmS p (fm p n) G) n
def gm' (p : Pg) (n : Nat) : Gm := ⟨fun s => ⟨fun K env h => evS p K n s env h⟩, fun s => ⟨fun K env h => evSs p K n s env h⟩⟩
theorem gm_s1 (p : Pg) (n : Nat) : stepS p (fm' p n) (gm' p n) = (gm' p (n + 1)).s := by
  funext s
  cases s <;> rfl
theorem gm_s2 (p : Pg) (n : Nat) : stepSs (gm' p n) = (gm' p (n + 1)).ss := by
  funext s
  cases s <;> rfl
theorem gm_eq (p : Pg) : ∀ n, gm p n = gm' p n
  | 0 => rfl
  | n + 1 => by
    show gmS p (fm p n) (gm p n) = _
    rw [gm_eq p n, fm_eq p n]
    unfold gmS
    rw [gm_s1, gm_s2]
/-- a call, laid out -/
def fnF (p : Pg) (K : Orc) (f : Nat) (ws : List W) (h : Hv) : Res W := match p.defs[f]? with
  | some df => if ws.length = df.np ∧ ws.all clean then fin (((gm p 1000).ss df.body).run K (startE df.ns ws) h) else .no
  | none => .no
def lmF (p : Pg) (K : Orc) (l : Lm) (cs ws : List W) (h : Hv) : Res W := match l with
  | .mk np ns caps body => if ws.length = np ∧ ws.all clean ∧ cs.length = caps.length then fin (((gm p 1000).ss body).run K (startE ns (ws ++ cs)) h) else .no
def orcF (p : Pg) (d : Nat) : Orc := Nat.rec ⟨fun _ _ _ => .no, fun _ _ _ _ => .no⟩ (fun _ K => ⟨fnF p K, lmF p K⟩) d
theorem orcF_eq (p : Pg) : ∀ d, orcF p d = orc p d
  | 0 => rfl
  | d + 1 => by
    show (⟨fnF p (orcF p d), lmF p (orcF p d)⟩ : Orc) = _
    rw [orcF_eq p d]
    have e1 : fnF p (orc p d) = (orc p (d + 1)).fn := by
      funext f ws h
      unfold fnF
      rw [gm_eq]
      rfl
    have e2 : lmF p (orc p d) = (orc p (d + 1)).lm := by
      funext l cs ws h
      unfold lmF
      rw [gm_eq]
      rfl
    rw [e1, e2]
end RP.Fx

set_option Elab.async false
set_option linter.all false
set_option maxRecDepth 100000
set_option maxHeartbeats 0
/-! RP66: what the compiler makes of k93, written out. -/
namespace RP.L93
open PySem RP
def s0 : Str := ⟨#[95, 119, 97, 108, 108]⟩
def s1 : Str := ⟨#[105, 115, 95, 108, 105, 115, 116]⟩
def s2 : Str := ⟨#[105, 115, 95, 119, 104, 111, 108, 101]⟩
def s3 : Str := ⟨#[105, 115, 95, 110, 117, 109, 98, 101, 114]⟩
def s4 : Str := ⟨#[105, 115, 95, 114, 111, 119]⟩
def s5 : Str := ⟨#[105, 115, 95, 108, 101, 116, 116, 101, 114]⟩
def s6 : Str := ⟨#[97, 98, 99, 100, 101, 102, 103, 104, 105, 106, 107, 108, 109, 110, 111, 112, 113, 114, 115, 116, 117, 118, 119, 120, 121, 122]⟩
def s7 : Str := ⟨#[98, 101, 103, 105, 110, 115, 95, 119, 105, 116, 104]⟩
def s8 : Str := ⟨#[102, 105, 114, 115, 116, 95, 98, 97, 100, 95, 108, 101, 116, 116, 101, 114]⟩
def s9 : Str := ⟨#[99, 104, 101, 99, 107, 95, 108, 101, 116, 116, 101, 114, 115]⟩
def s10 : Str := ⟨#[105, 115, 95, 102, 111, 114, 109, 117, 108, 97]⟩
def s11 : Str := ⟨#[108, 101, 116, 116, 101, 114]⟩
def s12 : Str := ⟨#[110, 101, 118, 101, 114]⟩
def s13 : Str := ⟨#[98, 111, 116, 104]⟩
def s14 : Str := ⟨#[99, 104, 111, 111, 115, 101]⟩
def s15 : Str := ⟨#[105, 102]⟩
def s16 : Str := ⟨#[99, 104, 101, 99, 107, 95, 102, 111, 114, 109, 117, 108, 97]⟩
def s17 : Str := ⟨#[111, 119, 110, 95, 102, 111, 114, 109, 117, 108, 97]⟩
def s18 : Str := ⟨#[110, 111, 95, 111, 102]⟩
def s19 : Str := ⟨#[105, 115, 95, 112, 108, 97, 105, 110]⟩
def s20 : Str := ⟨#[97, 108, 108, 95, 119, 111, 114, 108, 100, 115]⟩
def s21 : Str := ⟨#[105, 115, 95, 119, 111, 114, 108, 100]⟩
def s22 : Str := ⟨#[102, 105, 114, 115, 116, 95, 98, 97, 100, 95, 119, 111, 114, 108, 100]⟩
def s23 : Str := ⟨#[99, 104, 101, 99, 107, 95, 108, 111, 116]⟩
def s24 : Str := ⟨#[109, 97, 115, 107, 115, 95, 111, 102]⟩
def s25 : Str := ⟨#[109, 97, 115, 107, 95, 111, 102]⟩
def s26 : Str := ⟨#[108, 111, 116, 95, 111, 102]⟩
def s27 : Str := ⟨#[116, 114, 117, 101, 95, 109, 97, 115, 107]⟩
def s28 : Str := ⟨#[116, 114, 117, 101, 95, 119, 105, 116, 104, 105, 110]⟩
def s29 : Str := ⟨#[112, 114, 111, 100, 117, 99, 116, 115, 95, 111, 102]⟩
def s30 : Str := ⟨#[99, 111, 100, 101, 115, 95, 111, 102]⟩
def s31 : Str := ⟨#[105, 115, 95, 99, 111, 100, 101]⟩
def s32 : Str := ⟨#[111, 119, 110, 95, 99, 111, 100, 101]⟩
def s33 : Str := ⟨#[106, 111, 105, 110, 101, 100, 95, 98, 121, 95, 98, 111, 116, 104]⟩
def s34 : Str := ⟨#[97, 110, 115, 119, 101, 114, 95, 111, 102]⟩
def s35 : Str := ⟨#[115, 101, 116, 116, 108, 101, 100, 95, 98, 121]⟩
def s36 : Str := ⟨#[102, 105, 114, 115, 116, 95, 98, 97, 100, 95, 103, 105, 118, 101, 110]⟩
def s37 : Str := ⟨#[99, 104, 101, 99, 107, 95, 103, 105, 118, 101, 110]⟩
def s38 : Str := ⟨#[105, 115, 95, 112, 97, 114, 116]⟩
def s39 : Str := ⟨#[110, 117, 109, 98, 101, 114]⟩
def s40 : Str := ⟨#[110, 97, 109, 101]⟩
def s41 : Str := ⟨#[116, 101, 114, 109]⟩
def s42 : Str := ⟨#[105, 115, 95, 102, 111, 114, 109]⟩
def s43 : Str := ⟨#[108, 111, 111, 107, 101, 100, 95, 97, 116]⟩
def s44 : Str := ⟨#[102, 111, 114, 109]⟩
def s45 : Str := ⟨#[103, 105, 118, 101, 110]⟩
def s46 : Str := ⟨#[99, 97, 115, 101, 115]⟩
def s47 : Str := ⟨#[102, 117, 110]⟩
def s48 : Str := ⟨#[108, 111, 111, 107, 101, 100, 95, 97, 116, 95, 99, 97, 115, 101, 115]⟩
def s49 : Str := ⟨#[117, 110, 108, 105, 107, 101]⟩
def s50 : Str := ⟨#[112, 117, 116, 95, 116, 111, 103, 101, 116, 104, 101, 114]⟩
def s51 : Str := ⟨#[112, 97, 105, 114]⟩
def s52 : Str := ⟨#[102, 105, 114, 115, 116]⟩
def s53 : Str := ⟨#[115, 101, 99, 111, 110, 100]⟩
def s54 : Str := ⟨#[117, 115, 101]⟩
def s55 : Str := ⟨#[111, 110, 101]⟩
def s56 : Str := ⟨#[108, 101, 102, 116]⟩
def s57 : Str := ⟨#[114, 105, 103, 104, 116]⟩
def s58 : Str := ⟨#[102, 114, 111, 109]⟩
def s59 : Str := ⟨#[112, 117, 116, 95, 99, 108, 97, 115, 115, 105, 99, 97, 108, 108, 121]⟩
def s60 : Str := ⟨#[116, 119, 105, 99, 101]⟩
def s61 : Str := ⟨#[115, 112, 108, 105, 116]⟩
def s62 : Str := ⟨#[111, 119, 110, 95, 103, 105, 118, 101, 110]⟩
def s63 : Str := ⟨#[102, 97, 117, 108, 116, 95, 111, 102, 95, 112, 114, 111, 111, 102]⟩
def s64 : Str := ⟨#[112, 114, 111, 118, 101, 115]⟩
def s65 : Str := ⟨#[102, 105, 114, 115, 116, 95, 99, 111, 100, 101]⟩
def s66 : Str := ⟨#[119, 111, 114, 107, 101, 100]⟩
def s67 : Str := ⟨#[114, 111, 119, 115, 95, 111, 102]⟩
def s68 : Str := ⟨#[108, 101, 97, 102]⟩
def s69 : Str := ⟨#[103, 114, 97, 102, 116, 101, 100]⟩
def s70 : Str := ⟨#[98, 114, 97, 110, 99, 104]⟩
def s71 : Str := ⟨#[114, 101, 108, 97, 98, 101, 108, 108, 101, 100]⟩
def s72 : Str := ⟨#[116, 114, 101, 101, 95, 116, 101, 114, 109]⟩
def s73 : Str := ⟨#[112, 97, 114, 116, 95, 111, 102]⟩
def s74 : Str := ⟨#[112, 97, 105, 114, 101, 100]⟩
def s75 : Str := ⟨#[97, 110, 115, 119, 101, 114, 115, 95, 116, 114, 101, 101]⟩
def s76 : Str := ⟨#[110, 101, 120, 116]⟩
def s77 : Str := ⟨#[115, 112, 108, 105, 116, 95, 116, 114, 101, 101]⟩
def s78 : Str := ⟨#[98, 111, 116, 104, 95, 117, 110, 100, 101, 114]⟩
def s79 : Str := ⟨#[115, 112, 108, 105, 116, 95, 105, 102]⟩
def s80 : Str := ⟨#[117, 115, 101, 115, 95, 117, 110, 100, 101, 114]⟩
def s81 : Str := ⟨#[102, 114, 111, 109, 95, 97, 110, 115, 119, 101, 114]⟩
def s82 : Str := ⟨#[118, 101, 114, 100, 105, 99, 116]⟩
def s83 : Str := ⟨#[98, 121, 95, 99, 97, 115, 101, 115]⟩
def s84 : Str := ⟨#[112, 114, 111, 111, 102, 95, 98, 121]⟩
def s85 : Str := ⟨#[114, 111, 119, 95, 109, 97, 115, 107]⟩
def s86 : Str := ⟨#[105, 115, 95, 114, 105, 103, 104, 116]⟩
def s87 : Str := ⟨#[112, 108, 97, 110, 95, 102, 111, 117, 110, 100]⟩
def s88 : Str := ⟨#[108, 111, 116]⟩
def s89 : Str := ⟨#[112, 108, 97, 110]⟩
def s90 : Str := ⟨#[99, 104, 101, 99, 107, 101, 100, 95, 97, 108, 108]⟩
def s91 : Str := ⟨#[112, 114, 111, 111, 102, 95, 111, 114, 95, 108, 111, 116]⟩
def s92 : Str := ⟨#[112, 114, 111, 111, 102]⟩
def s93 : Str := ⟨#[116, 101, 114, 109, 95, 112, 108, 97, 99, 101, 115]⟩
def s94 : Str := ⟨#[111, 119, 110, 95, 116, 101, 114, 109]⟩
def s95 : Str := ⟨#[102, 111, 114, 109, 117, 108, 97]⟩
def s96 : Str := ⟨#[105, 115, 95, 119, 97, 116, 99, 104, 95, 110, 97, 109, 101]⟩
def s97 : Str := ⟨#[105, 115, 95, 112, 114, 111, 109, 105, 115, 101]⟩
def s98 : Str := ⟨#[97, 110, 115, 119, 101, 114, 101, 100]⟩
def s99 : Str := ⟨#[115, 116, 97, 110, 100, 115]⟩
def s100 : Str := ⟨#[119, 111, 114, 108, 100, 115]⟩
def s101 : Str := ⟨#[115, 116, 97, 110, 100, 115, 95, 105, 110]⟩
def s102 : Str := ⟨#[102, 111, 114, 109, 117, 108, 97, 115, 95, 111, 102]⟩
def s103 : Str := ⟨#[119, 105, 116, 104, 111, 117, 116, 95, 103, 105, 118, 101, 110]⟩
def s104 : Str := ⟨#[95, 108, 97, 119, 95, 115, 116, 114, 101, 97, 109]⟩
def s105 : Str := ⟨#[95, 108, 97, 119, 95, 100, 114, 97, 119]⟩
def s106 : Str := ⟨#[95, 108, 97, 119, 95, 115, 97, 109, 101]⟩
def s107 : Str := ⟨#[105, 116, 101, 109, 115]⟩
def s108 : Str := ⟨#[95, 108, 97, 119, 95, 101, 113, 117, 97, 108]⟩
def s109 : Str := ⟨#[95, 108, 97, 119, 95, 105, 115, 95, 114, 101, 102, 117, 115, 101, 100]⟩
def s110 : Str := ⟨#[95, 108, 97, 119, 95, 118]⟩
def s111 : Str := ⟨#[98]⟩
def s112 : Str := ⟨#[95, 108, 97, 119, 95, 107]⟩
def s113 : Str := ⟨#[97]⟩
def s114 : Str := ⟨#[95, 108, 97, 119, 95, 110, 101, 119, 95, 100, 101, 115, 107]⟩
def s115 : Str := ⟨#[95, 108, 97, 119, 95, 112]⟩
def s116 : Str := ⟨#[95, 108, 97, 119, 95, 116, 119, 105, 110, 115, 95, 114, 105, 103, 104, 116]⟩
def s117 : Str := ⟨#[112, 117, 116]⟩
def s118 : Str := ⟨#[116, 97, 107, 101]⟩
def s119 : Str := ⟨#[119, 111, 114, 100, 115]⟩
def s120 : Str := ⟨#[117, 110, 100, 111]⟩
def s121 : Str := ⟨#[104, 101, 97, 114]⟩
def s122 : Str := ⟨#[99, 108, 101, 97, 114]⟩
def s123 : Str := ⟨#[112, 114, 111, 118, 101]⟩
def s124 : Str := ⟨#[97, 105, 109]⟩
def s125 : Str := ⟨#[99]⟩
def s126 : Str := ⟨#[119, 97, 116, 99, 104]⟩
def s127 : Str := ⟨#[119]⟩
def s128 : Str := ⟨#[117, 110, 119, 97, 116, 99, 104]⟩
def s129 : Str := ⟨#[95, 108, 97, 119, 95, 99, 111, 112, 105, 101, 115, 95, 114, 105, 103, 104, 116]⟩
def s130 : Str := ⟨#[115]⟩
def s131 : Str := ⟨#[99, 111, 112, 121]⟩
def s132 : Str := ⟨#[107, 101, 112, 116]⟩
def s133 : Str := ⟨#[115, 105, 110, 99, 101]⟩
def s134 : Str := ⟨#[114, 101, 100, 111]⟩
def s135 : Str := ⟨#[116, 111, 108, 100]⟩
def s136 : Str := ⟨#[95, 108, 97, 119, 95, 115, 116, 97, 121, 115, 95, 114, 105, 103, 104, 116]⟩
def s137 : Str := ⟨#[113]⟩
def s138 : Str := ⟨#[108, 101, 115, 115]⟩
def s139 : Str := ⟨#[]⟩
def s140 : Str := ⟨#[117, 110, 104, 101, 97, 114, 100]⟩
def s141 : Str := ⟨#[115, 101, 116, 116, 108, 101, 100]⟩
def s142 : Str := ⟨#[114, 101, 112, 108, 121]⟩
def s143 : Str := ⟨#[102, 111, 108, 108, 111, 119, 115]⟩
def s144 : Str := ⟨#[108, 97, 119]⟩
def s145 : Str := ⟨#[95, 95, 105, 110, 105, 116, 95, 95]⟩
def s146 : Str := ⟨#[105, 110, 100, 101, 120]⟩
def s147 : Str := ⟨#[99, 111, 100, 101]⟩
def s148 : Str := ⟨#[109, 97, 110, 121]⟩
def s149 : Str := ⟨#[102, 97, 117, 108, 116]⟩
def s150 : Str := ⟨#[112, 114, 111, 109, 105, 115, 101]⟩
def s151 : Str := ⟨#[111, 119, 110, 95, 112, 97, 115, 116]⟩
def s152 : Str := ⟨#[111, 119, 110, 95, 108, 97, 116, 101, 114]⟩
def s153 : Str := ⟨#[111, 119, 110, 95, 119, 97, 116, 99, 104, 101, 115]⟩
def s154 : Str := ⟨#[111, 119, 110, 95, 110, 111, 119]⟩
def s155 : Str := ⟨#[100, 105, 100]⟩
def s156 : Str := ⟨#[108, 101, 116, 116, 101, 114, 115]⟩
def s157 : Str := ⟨#[103, 111, 97, 108]⟩
def s158 : Str := ⟨#[99, 104, 101, 99, 107, 95, 97, 116]⟩
def s159 : Str := ⟨#[105, 115, 95, 107, 101, 112, 116]⟩
def s160 : Str := ⟨#[99, 104, 101, 99, 107, 95, 119, 97, 116, 99, 104, 101, 100]⟩
def s161 : Str := ⟨#[119, 97, 116, 99, 104, 101, 115]⟩
def s162 : Str := ⟨#[95, 95, 101, 113, 95, 95]⟩
def kD0 : Df := ⟨s0, 1, 1, [
  (.wh (.cst (.bl true)) [.pass])]⟩
def kD1 : Df := ⟨s1, 1, 1, [
  (.ret (.isi (.nm 0) [.list, .tuple]))]⟩
def kD2 : Df := ⟨s2, 1, 1, [
  (.ret (.bo true [(.isi (.nm 0) [.int]), (.nt (.isi (.nm 0) [.bool]))]))]⟩
def kD3 : Df := ⟨s3, 1, 1, [
  (.ret (.bo true [(.call 2 [(.nm 0)]), (.cmp .GtE (.nm 0) (.cst (.int (0))))]))]⟩
def kD4 : Df := ⟨s4, 2, 2, [
  (.ret (.bo true [(.call 1 [(.nm 0)]), (.cmp .Eq (.bi .len [(.nm 0)]) (.nm 1))]))]⟩
def kD5 : Df := ⟨s5, 1, 3, [
  (.ret (.bo true [(.isi (.nm 0) [.str]), (.chn .Lt .Lt (.cst (.int (0))) (.bi .len [(.nm 0)]) (.cst (.int (6)))), (.bi .all [(.lc (.cmp .In (.nm 2) (.cst (.str s6))) (.nm 2) (.e (.nm 0)) [] [1, 2])])]))]⟩
def kD6 : Df := ⟨s7, 2, 2, [
  (.ret (.bo true [(.call 1 [(.nm 0)]), (.cmp .Gt (.bi .len [(.nm 0)]) (.cst (.int (0)))), (.isi (.idx (.nm 0) (.cst (.int (0)))) [.str]), (.cmp .In (.idx (.nm 0) (.cst (.int (0)))) (.nm 1))]))]⟩
def kD7 : Df := ⟨s8, 1, 3, [
  (.iff (.nt (.call 1 [(.nm 0)])) [(.ret (.cst (.int (0))))] []),
  (.fo (.tup [(.nm 1), (.nm 2)]) (.enm (.nm 0)) [(.iff (.bo false [(.nt (.call 5 [(.nm 2)])), (.bo true [(.cmp .Gt (.nm 1) (.cst (.int (0)))), (.nt (.cmp .Lt (.idx (.nm 0) (.bin .Sub (.nm 1) (.cst (.int (1))))) (.nm 2)))])]) [(.ret (.nm 1))] [])]),
  (.ret (.cst .non))]⟩
def kD8 : Df := ⟨s9, 1, 2, [
  (.asg (.nm 1) (.call 7 [(.nm 0)])),
  (.iff (.cmp .IsNot (.nm 1) (.cst .non)) [(.rais 1 [(.nm 1)])] [])]⟩
def kD9 : Df := ⟨s10, 2, 2, [
  (.iff (.nt (.call 6 [(.nm 1), (.tup [(.cst (.str s11)), (.cst (.str s12)), (.cst (.str s13)), (.cst (.str s14)), (.cst (.str s15))])])) [(.ret (.cst (.bl false)))] []),
  (.iff (.cmp .Eq (.idx (.nm 1) (.cst (.int (0)))) (.cst (.str s12))) [(.ret (.cmp .Eq (.bi .len [(.nm 1)]) (.cst (.int (1)))))] []),
  (.iff (.cmp .Eq (.idx (.nm 1) (.cst (.int (0)))) (.cst (.str s11))) [(.ret (.bo true [(.call 4 [(.nm 1), (.cst (.int (2)))]), (.call 5 [(.idx (.nm 1) (.cst (.int (1))))]), (.bo false [(.cmp .Is (.nm 0) (.cst .non)), (.cmp .In (.idx (.nm 1) (.cst (.int (1)))) (.nm 0))])]))] []),
  (.ret (.bo true [(.call 4 [(.nm 1), (.cst (.int (3)))]), (.call 9 [(.nm 0), (.idx (.nm 1) (.cst (.int (1))))]), (.call 9 [(.nm 0), (.idx (.nm 1) (.cst (.int (2))))])]))]⟩
def kD10 : Df := ⟨s16, 2, 2, [
  (.iff (.nt (.call 9 [(.nm 0), (.nm 1)])) [(.rais 2 [(.nm 1)])] [])]⟩
def kD11 : Df := ⟨s17, 1, 1, [
  (.iff (.cmp .In (.idx (.nm 0) (.cst (.int (0)))) (.tup [(.cst (.str s11)), (.cst (.str s12))])) [(.ret (.bi .tuple [(.nm 0)]))] []),
  (.ret (.tup [(.idx (.nm 0) (.cst (.int (0)))), (.call 11 [(.idx (.nm 0) (.cst (.int (1))))]), (.call 11 [(.idx (.nm 0) (.cst (.int (2))))])]))]⟩
def kD12 : Df := ⟨s18, 1, 1, [
  (.ret (.tup [(.cst (.str s15)), (.nm 0), (.con 0)]))]⟩
def kD13 : Df := ⟨s19, 1, 1, [
  (.iff (.cmp .In (.idx (.nm 0) (.cst (.int (0)))) (.tup [(.cst (.str s11)), (.cst (.str s12))])) [(.ret (.cst (.bl true)))] []),
  (.ret (.bo true [(.cmp .NotEq (.idx (.nm 0) (.cst (.int (0)))) (.cst (.str s14))), (.call 13 [(.idx (.nm 0) (.cst (.int (1))))]), (.call 13 [(.idx (.nm 0) (.cst (.int (2))))])]))]⟩
def kD14 : Df := ⟨s20, 1, 5, [
  (.asg (.nm 1) (.lst [(.lst [])])),
  (.fo (.nm 2) (.e (.nm 0)) [(.ex (.bm .extend (.nm 1) [(.lc (.lst [(.star (.nm 4)), (.nm 2)]) (.nm 4) (.e (.bi .list [(.nm 1)])) [] [3, 4])]))]),
  (.ret (.bi .sorted [(.nm 1)]))]⟩
def kD15 : Df := ⟨s21, 2, 6, [
  (.iff (.bo false [(.nt (.call 1 [(.nm 1)])), (.nt (.bi .all [(.lc (.bo true [(.isi (.nm 3) [.str]), (.cmp .In (.nm 3) (.nm 0))]) (.nm 3) (.e (.nm 1)) [] [2, 3])]))]) [(.ret (.cst (.bl false)))] []),
  (.ret (.bi .all [(.lc (.cmp .Lt (.nm 4) (.nm 5)) (.tup [(.nm 4), (.nm 5)]) (.zp (.nm 1) (.slc (.nm 1) (.some (.cst (.int (1)))) .none)) [] [2, 4, 5])]))]⟩
def kD16 : Df := ⟨s22, 2, 4, [
  (.iff (.nt (.call 1 [(.nm 1)])) [(.ret (.cst (.int (0))))] []),
  (.fo (.tup [(.nm 2), (.nm 3)]) (.enm (.nm 1)) [(.iff (.bo false [(.nt (.call 15 [(.nm 0), (.nm 3)])), (.bo true [(.cmp .Gt (.nm 2) (.cst (.int (0)))), (.nt (.cmp .Lt (.bi .list [(.idx (.nm 1) (.bin .Sub (.nm 2) (.cst (.int (1)))))]) (.bi .list [(.nm 3)])))])]) [(.ret (.nm 2))] [])]),
  (.ret (.cst .non))]⟩
def kD17 : Df := ⟨s23, 2, 3, [
  (.asg (.nm 2) (.call 16 [(.nm 0), (.nm 1)])),
  (.iff (.cmp .IsNot (.nm 2) (.cst .non)) [(.rais 3 [(.nm 2)])] [])]⟩
def kD18 : Df := ⟨s24, 1, 7, [
  (.asg (.nm 1) (.call 14 [(.nm 0)])),
  (.asg (.nm 2) (.dc (.nm 4) (.bi .sum [(.lc (.bin .LShift (.cst (.int (1))) (.nm 5)) (.tup [(.nm 5), (.nm 6)]) (.enm (.nm 1)) [(.cmp .In (.nm 4) (.nm 6))] [3, 5, 6])]) (.nm 4) (.e (.nm 0)) [3, 4])),
  (.ret (.tup [(.nm 2), (.bi .len [(.nm 1)])]))]⟩
def kD19 : Df := ⟨s25, 2, 5, [
  (.asg (.nm 2) (.call 14 [(.nm 0)])),
  (.ret (.bi .sum [(.lc (.bin .LShift (.cst (.int (1))) (.bm .index (.nm 2) [(.bi .list [(.nm 4)])])) (.nm 4) (.e (.nm 1)) [] [3, 4])]))]⟩
def kD20 : Df := ⟨s26, 2, 5, [
  (.ret (.lc (.nm 4) (.tup [(.nm 3), (.nm 4)]) (.enm (.call 14 [(.nm 0)])) [(.cmp .Eq (.bin .BitAnd (.bin .RShift (.nm 1) (.nm 3)) (.cst (.int (1)))) (.cst (.int (1))))] [2, 3, 4]))]⟩
def kD21 : Df := ⟨s27, 2, 4, [
  (.asg (.tup [(.nm 2), (.nm 3)]) (.call 18 [(.nm 0)])),
  (.ret (.call 22 [(.nm 2), (.bin .Sub (.bin .LShift (.cst (.int (1))) (.nm 3)) (.cst (.int (1)))), (.nm 1)]))]⟩
def kD22 : Df := ⟨s28, 3, 5, [
  (.iff (.cmp .Eq (.idx (.nm 2) (.cst (.int (0)))) (.cst (.str s11))) [(.ret (.idx (.nm 0) (.idx (.nm 2) (.cst (.int (1))))))] []),
  (.iff (.cmp .Eq (.idx (.nm 2) (.cst (.int (0)))) (.cst (.str s12))) [(.ret (.cst (.int (0))))] []),
  (.par [3, 4] [(.call 22 [(.nm 0), (.nm 1), (.idx (.nm 2) (.cst (.int (1))))]), (.call 22 [(.nm 0), (.nm 1), (.idx (.nm 2) (.cst (.int (2))))])]),
  (.ret (.ite (.cmp .Eq (.idx (.nm 2) (.cst (.int (0)))) (.cst (.str s13))) (.bin .BitAnd (.nm 3) (.nm 4)) (.bin .BitOr (.bin .Sub (.nm 1) (.nm 3)) (.bin .BitAnd (.nm 3) (.nm 4)))))]⟩
def kD23 : Df := ⟨s29, 1, 7, [
  (.asg (.nm 1) (.lst [(.tup [])])),
  (.fo (.nm 2) (.e (.nm 0)) [(.asg (.nm 3) (.lst [])), (.fo (.nm 4) (.e (.nm 1)) [(.ex (.bm .extend (.nm 3) [(.lc (.tup [(.star (.nm 4)), (.nm 6)]) (.nm 6) (.e (.nm 2)) [] [5, 6])]))]), (.asg (.nm 1) (.nm 3))]),
  (.ret (.nm 1))]⟩
def kD24 : Df := ⟨s30, 1, 5, [
  (.iff (.cmp .In (.idx (.nm 0) (.cst (.int (0)))) (.tup [(.cst (.str s11)), (.cst (.str s12))])) [(.ret (.lst [(.tup [])]))] []),
  (.asg (.tup [(.nm 1), (.nm 2)]) (.tup [(.call 24 [(.idx (.nm 0) (.cst (.int (1))))]), (.call 24 [(.idx (.nm 0) (.cst (.int (2))))])])),
  (.iff (.cmp .Eq (.idx (.nm 0) (.cst (.int (0)))) (.cst (.str s13))) [(.ret (.call 23 [(.lst [(.nm 1), (.nm 2)])]))] []),
  (.iff (.cmp .Eq (.idx (.nm 0) (.cst (.int (0)))) (.cst (.str s14))) [(.ret (.bin .Add (.lc (.tup [(.cst (.int (0))), (.nm 4)]) (.nm 4) (.e (.nm 1)) [] [3, 4]) (.lc (.tup [(.cst (.int (1))), (.nm 4)]) (.nm 4) (.e (.nm 2)) [] [3, 4])))] []),
  (.ret (.call 23 [(.lc (.nm 2) (.nm 4) (.e (.nm 1)) [] [3, 4])]))]⟩
def kD25 : Df := ⟨s31, 2, 4, [
  (.iff (.cmp .In (.idx (.nm 0) (.cst (.int (0)))) (.tup [(.cst (.str s11)), (.cst (.str s12))])) [(.ret (.call 4 [(.nm 1), (.cst (.int (0)))]))] []),
  (.iff (.cmp .Eq (.idx (.nm 0) (.cst (.int (0)))) (.cst (.str s13))) [(.ret (.bo true [(.call 4 [(.nm 1), (.cst (.int (2)))]), (.call 25 [(.idx (.nm 0) (.cst (.int (1)))), (.idx (.nm 1) (.cst (.int (0))))]), (.call 25 [(.idx (.nm 0) (.cst (.int (2)))), (.idx (.nm 1) (.cst (.int (1))))])]))] []),
  (.iff (.cmp .Eq (.idx (.nm 0) (.cst (.int (0)))) (.cst (.str s14))) [(.iff (.bo false [(.nt (.call 4 [(.nm 1), (.cst (.int (2)))])), (.isi (.idx (.nm 1) (.cst (.int (0)))) [.bool]), (.nt (.isi (.idx (.nm 1) (.cst (.int (0)))) [.int]))]) [(.ret (.cst (.bl false)))] []), (.ret (.bo true [(.cmp .In (.idx (.nm 1) (.cst (.int (0)))) (.tup [(.cst (.int (0))), (.cst (.int (1)))])), (.call 25 [(.idx (.nm 0) (.bin .Add (.cst (.int (1))) (.idx (.nm 1) (.cst (.int (0)))))), (.idx (.nm 1) (.cst (.int (1))))])]))] []),
  (.iff (.nt (.call 4 [(.nm 1), (.bi .len [(.call 24 [(.idx (.nm 0) (.cst (.int (1))))])])])) [(.ret (.cst (.bl false)))] []),
  (.ret (.bi .all [(.lc (.call 25 [(.idx (.nm 0) (.cst (.int (2)))), (.nm 3)]) (.nm 3) (.e (.nm 1)) [] [2, 3])]))]⟩
def kD26 : Df := ⟨s32, 1, 3, [
  (.ret (.ite (.call 1 [(.nm 0)]) (.bi .tuple [(.lc (.call 26 [(.nm 2)]) (.nm 2) (.e (.nm 0)) [] [1, 2])]) (.nm 0)))]⟩
def kD27 : Df := ⟨s33, 1, 3, [
  (.asg (.nm 1) (.idx (.nm 0) (.cst (.int (0))))),
  (.fo (.nm 2) (.e (.slc (.nm 0) (.some (.cst (.int (1)))) .none)) [(.asg (.nm 1) (.tup [(.cst (.str s13)), (.nm 1), (.nm 2)]))]),
  (.ret (.nm 1))]⟩
def kD28 : Df := ⟨s34, 2, 6, [
  (.iff (.cmp .In (.idx (.nm 0) (.cst (.int (0)))) (.tup [(.cst (.str s11)), (.cst (.str s12))])) [(.ret (.nm 0))] []),
  (.iff (.cmp .Eq (.idx (.nm 0) (.cst (.int (0)))) (.cst (.str s13))) [(.ret (.tup [(.cst (.str s13)), (.call 28 [(.idx (.nm 0) (.cst (.int (1)))), (.idx (.nm 1) (.cst (.int (0))))]), (.call 28 [(.idx (.nm 0) (.cst (.int (2)))), (.idx (.nm 1) (.cst (.int (1))))])]))] []),
  (.iff (.cmp .Eq (.idx (.nm 0) (.cst (.int (0)))) (.cst (.str s14))) [(.ret (.call 28 [(.idx (.nm 0) (.bin .Add (.cst (.int (1))) (.idx (.nm 1) (.cst (.int (0)))))), (.idx (.nm 1) (.cst (.int (1))))]))] []),
  (.asgz 2 (.call 24 [(.idx (.nm 0) (.cst (.int (1))))]) (.nm 1)),
  (.ret (.call 27 [(.lc (.tup [(.cst (.str s15)), (.call 28 [(.idx (.nm 0) (.cst (.int (1)))), (.nm 4)]), (.call 28 [(.idx (.nm 0) (.cst (.int (2)))), (.nm 5)])]) (.tup [(.nm 4), (.nm 5)]) (.ez (.nm 2)) [] [3, 4, 5])]))]⟩
def kD29 : Df := ⟨s35, 3, 6, [
  (.ex (.call 8 [(.nm 0)])),
  (.ex (.call 17 [(.nm 0), (.nm 1)])),
  (.ex (.call 10 [(.nm 0), (.nm 2)])),
  (.par [3, 4] [(.call 11 [(.nm 2)]), (.call 19 [(.nm 0), (.nm 1)])]),
  (.fo (.nm 5) (.e (.call 24 [(.nm 3)])) [(.iff (.cmp .Eq (.bin .BitAnd (.nm 4) (.call 21 [(.nm 0), (.call 28 [(.nm 3), (.nm 5)])])) (.nm 4)) [(.ret (.nm 5))] [])]),
  (.ret (.cst .non))]⟩
def kD30 : Df := ⟨s36, 2, 4, [
  (.iff (.nt (.call 1 [(.nm 1)])) [(.ret (.cst (.int (0))))] []),
  (.fo (.tup [(.nm 2), (.nm 3)]) (.enm (.nm 1)) [(.iff (.nt (.call 9 [(.nm 0), (.nm 3)])) [(.ret (.nm 2))] [])]),
  (.ret (.cst .non))]⟩
def kD31 : Df := ⟨s37, 2, 3, [
  (.ex (.call 8 [(.nm 0)])),
  (.asg (.nm 2) (.call 30 [(.nm 0), (.nm 1)])),
  (.iff (.cmp .IsNot (.nm 2) (.cst .non)) [(.rais 5 [(.nm 2)])] [])]⟩
def kD32 : Df := ⟨s38, 3, 3, [
  (.iff (.cmp .Eq (.nm 1) (.cst (.str s39))) [(.ret (.call 3 [(.nm 2)]))] []),
  (.iff (.cmp .Eq (.nm 1) (.cst (.str s40))) [(.ret (.call 5 [(.nm 2)]))] []),
  (.ret (.bo false [(.cmp .Eq (.nm 1) (.cst (.str s41))), (.call 9 [(.nm 0), (.nm 2)])]))]⟩
def kD33 : Df := ⟨s42, 2, 6, [
  (.iff (.nt (.call 6 [(.nm 1), (.bi .list [(.con 1)])])) [(.ret (.cst (.bl false)))] []),
  (.asg (.nm 2) (.bm .split (.idx (.con 1) (.idx (.nm 1) (.cst (.int (0))))) [])),
  (.ret (.bo true [(.call 4 [(.nm 1), (.bin .Add (.bi .len [(.nm 2)]) (.cst (.int (1))))]), (.bi .all [(.lc (.call 32 [(.nm 0), (.nm 4), (.nm 5)]) (.tup [(.nm 4), (.nm 5)]) (.zp (.nm 2) (.slc (.nm 1) (.some (.cst (.int (1)))) .none)) [] [3, 4, 5])])]))]⟩
def kD34 : Df := ⟨s43, 5, 12, [
  (.iff (.nt (.call 33 [(.nm 0), (.nm 3)])) [(.ret (.tup [(.tup [(.cst (.str s44)), (.nm 4)]), (.cst .non)]))] []),
  (.iff (.cmp .Eq (.idx (.nm 3) (.cst (.int (0)))) (.cst (.str s45))) [(.iff (.cmp .GtE (.idx (.nm 3) (.cst (.int (1)))) (.bi .len [(.nm 1)])) [(.ret (.tup [(.tup [(.cst (.str s45)), (.nm 4)]), (.cst .non)]))] []), (.ret (.tup [(.cst .non), (.idx (.nm 1) (.idx (.nm 3) (.cst (.int (1)))))]))] []),
  (.iff (.cmp .Eq (.idx (.nm 3) (.cst (.int (0)))) (.cst (.str s40))) [(.ret (.ite (.cmp .In (.idx (.nm 3) (.cst (.int (1)))) (.nm 2)) (.tup [(.cst .non), (.idx (.nm 2) (.idx (.nm 3) (.cst (.int (1)))))]) (.tup [(.tup [(.cst (.str s40)), (.nm 4)]), (.cst .non)])))] []),
  (.iff (.cmp .Eq (.idx (.nm 3) (.cst (.int (0)))) (.cst (.str s46))) [(.ret (.call 35 [(.nm 0), (.nm 1), (.nm 2), (.nm 3), (.nm 4)]))] []),
  (.par [5, 6] [(.lst []), (.nm 2)]),
  (.iff (.cmp .Eq (.idx (.nm 3) (.cst (.int (0)))) (.cst (.str s47))) [(.asg (.nm 6) (.dup (.nm 2) [((.idx (.nm 3) (.cst (.int (1)))), (.call 11 [(.idx (.nm 3) (.cst (.int (2))))]))]))] []),
  (.fo (.tup [(.nm 7), (.nm 8)]) (.enm (.bm .split (.idx (.con 1) (.idx (.nm 3) (.cst (.int (0))))) [])) [(.iff (.cmp .Eq (.nm 8) (.cst (.str s41))) [(.asg (.tup [(.nm 9), (.nm 10)]) (.call 34 [(.nm 0), (.nm 1), (.nm 6), (.idx (.nm 3) (.bin .Add (.nm 7) (.cst (.int (1))))), (.bin .Add (.nm 4) (.lst [(.bin .Add (.nm 7) (.cst (.int (1))))]))])), (.iff (.cmp .IsNot (.nm 9) (.cst .non)) [(.ret (.tup [(.nm 9), (.cst .non)]))] []), (.ex (.bm .append (.nm 5) [(.nm 10)]))] [])]),
  (.asg (.tup [(.nm 11), (.nm 10)]) (.call 36 [(.nm 3), (.nm 5)])),
  (.ret (.ite (.cmp .Is (.nm 11) (.cst .non)) (.tup [(.cst .non), (.nm 10)]) (.tup [(.tup [(.nm 11), (.nm 4)]), (.cst .non)])))]⟩
def kD35 : Df := ⟨s48, 5, 11, [
  (.asg (.tup [(.nm 5), (.nm 6)]) (.call 34 [(.nm 0), (.nm 1), (.nm 2), (.idx (.nm 3) (.cst (.int (1)))), (.bin .Add (.nm 4) (.lst [(.cst (.int (1)))]))])),
  (.iff (.cmp .IsNot (.nm 5) (.cst .non)) [(.ret (.tup [(.nm 5), (.cst .non)]))] []),
  (.iff (.cmp .NotEq (.idx (.nm 6) (.cst (.int (0)))) (.cst (.str s14))) [(.ret (.tup [(.tup [(.cst (.str s14)), (.nm 4)]), (.cst .non)]))] []),
  (.par [7, 8] [(.dup (.nm 2) [((.idx (.nm 3) (.cst (.int (2)))), (.idx (.nm 6) (.cst (.int (1)))))]), (.dup (.nm 2) [((.idx (.nm 3) (.cst (.int (4)))), (.idx (.nm 6) (.cst (.int (2)))))])]),
  (.asg (.tup [(.nm 5), (.nm 9)]) (.call 34 [(.nm 0), (.nm 1), (.nm 7), (.idx (.nm 3) (.cst (.int (3)))), (.bin .Add (.nm 4) (.lst [(.cst (.int (3)))]))])),
  (.iff (.cmp .IsNot (.nm 5) (.cst .non)) [(.ret (.tup [(.nm 5), (.cst .non)]))] []),
  (.asg (.tup [(.nm 5), (.nm 10)]) (.call 34 [(.nm 0), (.nm 1), (.nm 8), (.idx (.nm 3) (.cst (.int (5)))), (.bin .Add (.nm 4) (.lst [(.cst (.int (5)))]))])),
  (.iff (.cmp .IsNot (.nm 5) (.cst .non)) [(.ret (.tup [(.nm 5), (.cst .non)]))] []),
  (.ret (.ite (.cmp .Eq (.nm 9) (.nm 10)) (.tup [(.cst .non), (.nm 9)]) (.tup [(.tup [(.cst (.str s49)), (.nm 4)]), (.cst .non)])))]⟩
def kD36 : Df := ⟨s50, 2, 3, [
  (.asg (.nm 2) (.idx (.nm 1) (.cst (.int (0))))),
  (.iff (.cmp .Eq (.idx (.nm 0) (.cst (.int (0)))) (.cst (.str s51))) [(.ret (.tup [(.cst .non), (.tup [(.cst (.str s13)), (.nm 2), (.idx (.nm 1) (.cst (.int (1))))])]))] []),
  (.iff (.cmp .In (.idx (.nm 0) (.cst (.int (0)))) (.tup [(.cst (.str s52)), (.cst (.str s53))])) [(.iff (.cmp .NotEq (.idx (.nm 2) (.cst (.int (0)))) (.cst (.str s13))) [(.ret (.tup [(.cst (.str s13)), (.cst .non)]))] []), (.ret (.tup [(.cst .non), (.ite (.cmp .Eq (.idx (.nm 0) (.cst (.int (0)))) (.cst (.str s52))) (.idx (.nm 2) (.cst (.int (1)))) (.idx (.nm 2) (.cst (.int (2)))))]))] []),
  (.iff (.cmp .Eq (.idx (.nm 0) (.cst (.int (0)))) (.cst (.str s47))) [(.ret (.tup [(.cst .non), (.tup [(.cst (.str s15)), (.call 11 [(.idx (.nm 0) (.cst (.int (2))))]), (.nm 2)])]))] []),
  (.iff (.cmp .Eq (.idx (.nm 0) (.cst (.int (0)))) (.cst (.str s54))) [(.iff (.cmp .NotEq (.idx (.nm 2) (.cst (.int (0)))) (.cst (.str s15))) [(.ret (.tup [(.cst (.str s15)), (.cst .non)]))] []), (.ret (.ite (.cmp .Eq (.idx (.nm 2) (.cst (.int (1)))) (.idx (.nm 1) (.cst (.int (1))))) (.tup [(.cst .non), (.idx (.nm 2) (.cst (.int (2))))]) (.tup [(.cst (.str s55)), (.cst .non)])))] []),
  (.iff (.cmp .Eq (.idx (.nm 0) (.cst (.int (0)))) (.cst (.str s56))) [(.ret (.tup [(.cst .non), (.tup [(.cst (.str s14)), (.nm 2), (.call 11 [(.idx (.nm 0) (.cst (.int (1))))])])]))] []),
  (.iff (.cmp .Eq (.idx (.nm 0) (.cst (.int (0)))) (.cst (.str s57))) [(.ret (.tup [(.cst .non), (.tup [(.cst (.str s14)), (.call 11 [(.idx (.nm 0) (.cst (.int (1))))]), (.nm 2)])]))] []),
  (.iff (.cmp .Eq (.idx (.nm 0) (.cst (.int (0)))) (.cst (.str s58))) [(.ret (.ite (.cmp .Eq (.nm 2) (.con 0)) (.tup [(.cst .non), (.call 11 [(.idx (.nm 0) (.cst (.int (1))))])]) (.tup [(.cst (.str s12)), (.cst .non)])))] []),
  (.ret (.call 37 [(.idx (.nm 0) (.cst (.int (0)))), (.nm 2)]))]⟩
def kD37 : Df := ⟨s59, 2, 3, [
  (.iff (.cmp .Eq (.nm 0) (.cst (.str s60))) [(.asg (.nm 2) (.bo true [(.cmp .Eq (.idx (.nm 1) (.cst (.int (0)))) (.cst (.str s15))), (.cmp .Eq (.idx (.nm 1) (.cst (.int (2)))) (.con 0)), (.cmp .Eq (.idx (.idx (.nm 1) (.cst (.int (1)))) (.cst (.int (0)))) (.cst (.str s15))), (.cmp .Eq (.idx (.idx (.nm 1) (.cst (.int (1)))) (.cst (.int (2)))) (.con 0))])), (.ret (.ite (.bo true [(.nm 2), (.call 13 [(.idx (.idx (.nm 1) (.cst (.int (1)))) (.cst (.int (1))))])]) (.tup [(.cst .non), (.idx (.idx (.nm 1) (.cst (.int (1)))) (.cst (.int (1))))]) (.tup [(.cst (.str s60)), (.cst .non)])))] []),
  (.iff (.bo false [(.cmp .NotEq (.idx (.nm 1) (.cst (.int (0)))) (.cst (.str s15))), (.nt (.call 13 [(.idx (.nm 1) (.cst (.int (1))))])), (.cmp .NotEq (.idx (.idx (.nm 1) (.cst (.int (2)))) (.cst (.int (0)))) (.cst (.str s14)))]) [(.ret (.tup [(.cst (.str s61)), (.cst .non)]))] []),
  (.ret (.tup [(.cst .non), (.tup [(.cst (.str s14)), (.tup [(.cst (.str s15)), (.idx (.nm 1) (.cst (.int (1)))), (.idx (.idx (.nm 1) (.cst (.int (2)))) (.cst (.int (1))))]), (.tup [(.cst (.str s15)), (.idx (.nm 1) (.cst (.int (1)))), (.idx (.idx (.nm 1) (.cst (.int (2)))) (.cst (.int (2))))])])]))]⟩
def kD38 : Df := ⟨s62, 1, 3, [
  (.ret (.lc (.call 11 [(.nm 2)]) (.nm 2) (.e (.nm 0)) [] [1, 2]))]⟩
def kD39 : Df := ⟨s63, 4, 6, [
  (.asg (.tup [(.nm 4), (.nm 5)]) (.call 34 [(.nm 0), (.call 38 [(.nm 1)]), (.dct []), (.nm 3), (.lst [])])),
  (.iff (.cmp .IsNot (.nm 4) (.cst .non)) [(.ret (.tup [(.cst (.str s41)), (.nm 4)]))] []),
  (.ret (.ite (.cmp .Eq (.nm 5) (.call 11 [(.nm 2)])) (.cst .non) (.tup [(.cst (.str s64)), (.nm 5)])))]⟩
def kD40 : Df := ⟨s65, 1, 1, [
  (.ret (.idx (.call 24 [(.nm 0)]) (.cst (.int (0)))))]⟩
def kD41 : Df := ⟨s66, 4, 12, [
  (.iff (.cmp .Eq (.idx (.nm 3) (.cst (.int (0)))) (.cst (.str s45))) [(.ret (.tup [(.idx (.nm 0) (.idx (.nm 3) (.cst (.int (1))))), (.idx (.nm 1) (.idx (.nm 3) (.cst (.int (1)))))]))] []),
  (.iff (.cmp .Eq (.idx (.nm 3) (.cst (.int (0)))) (.cst (.str s40))) [(.ret (.idx (.nm 2) (.idx (.nm 3) (.cst (.int (1))))))] []),
  (.iff (.cmp .Eq (.idx (.nm 3) (.cst (.int (0)))) (.cst (.str s47))) [(.par [4, 5] [(.call 11 [(.idx (.nm 3) (.cst (.int (2))))]), (.lst [])]), (.fo (.nm 6) (.e (.call 24 [(.nm 4)])) [(.ex (.bm .append (.nm 5) [(.call 41 [(.nm 0), (.nm 1), (.dup (.nm 2) [((.idx (.nm 3) (.cst (.int (1)))), (.tup [(.nm 4), (.nm 6)]))]), (.idx (.nm 3) (.cst (.int (3))))])]))]), (.ret (.tup [(.tup [(.cst (.str s15)), (.nm 4), (.idx (.idx (.nm 5) (.cst (.int (0)))) (.cst (.int (0))))]), (.bi .tuple [(.lc (.nm 6) (.tup [(.nm 7), (.nm 6)]) (.ez (.nm 5)) [] [11, 7, 6])])]))] []),
  (.iff (.cmp .In (.idx (.nm 3) (.cst (.int (0)))) (.tup [(.cst (.str s56)), (.cst (.str s57)), (.cst (.str s58))])) [(.asg (.tup [(.nm 4), (.tup [(.nm 7), (.nm 6)])]) (.tup [(.call 11 [(.idx (.nm 3) (.cst (.int (1))))]), (.call 41 [(.nm 0), (.nm 1), (.nm 2), (.idx (.nm 3) (.cst (.int (2))))])])), (.iff (.cmp .Eq (.idx (.nm 3) (.cst (.int (0)))) (.cst (.str s58))) [(.ret (.tup [(.nm 4), (.call 40 [(.nm 4)])]))] []), (.ret (.ite (.cmp .Eq (.idx (.nm 3) (.cst (.int (0)))) (.cst (.str s56))) (.tup [(.tup [(.cst (.str s14)), (.nm 7), (.nm 4)]), (.tup [(.cst (.int (0))), (.nm 6)])]) (.tup [(.tup [(.cst (.str s14)), (.nm 4), (.nm 7)]), (.tup [(.cst (.int (1))), (.nm 6)])])))] []),
  (.asg (.tup [(.nm 4), (.nm 6)]) (.call 41 [(.nm 0), (.nm 1), (.nm 2), (.idx (.nm 3) (.cst (.int (1))))])),
  (.iff (.cmp .Eq (.idx (.nm 3) (.cst (.int (0)))) (.cst (.str s51))) [(.asg (.tup [(.nm 7), (.nm 8)]) (.call 41 [(.nm 0), (.nm 1), (.nm 2), (.idx (.nm 3) (.cst (.int (2))))])), (.ret (.tup [(.tup [(.cst (.str s13)), (.nm 4), (.nm 7)]), (.tup [(.nm 6), (.nm 8)])]))] []),
  (.iff (.cmp .In (.idx (.nm 3) (.cst (.int (0)))) (.tup [(.cst (.str s52)), (.cst (.str s53))])) [(.asg (.nm 9) (.ite (.cmp .Eq (.idx (.nm 3) (.cst (.int (0)))) (.cst (.str s52))) (.cst (.int (0))) (.cst (.int (1))))), (.ret (.tup [(.idx (.nm 4) (.bin .Add (.cst (.int (1))) (.nm 9))), (.idx (.nm 6) (.nm 9))]))] []),
  (.iff (.cmp .Eq (.idx (.nm 3) (.cst (.int (0)))) (.cst (.str s54))) [(.asg (.nm 8) (.idx (.call 41 [(.nm 0), (.nm 1), (.nm 2), (.idx (.nm 3) (.cst (.int (2))))]) (.cst (.int (1))))), (.ret (.tup [(.idx (.nm 4) (.cst (.int (2)))), (.idx (.nm 6) (.bm .index (.call 24 [(.idx (.nm 4) (.cst (.int (1))))]) [(.nm 8)]))]))] []),
  (.iff (.cmp .Eq (.idx (.nm 3) (.cst (.int (0)))) (.cst (.str s46))) [(.asg (.nm 9) (.idx (.nm 6) (.cst (.int (0))))), (.ret (.call 41 [(.nm 0), (.nm 1), (.dup (.nm 2) [((.idx (.nm 3) (.bin .Add (.cst (.int (2))) (.bin .Mult (.cst (.int (2))) (.nm 9)))), (.tup [(.idx (.nm 4) (.bin .Add (.cst (.int (1))) (.nm 9))), (.idx (.nm 6) (.cst (.int (1))))]))]), (.idx (.nm 3) (.bin .Add (.cst (.int (3))) (.bin .Mult (.cst (.int (2))) (.nm 9))))]))] []),
  (.iff (.cmp .Eq (.idx (.nm 3) (.cst (.int (0)))) (.cst (.str s60))) [(.ret (.tup [(.idx (.idx (.nm 4) (.cst (.int (1)))) (.cst (.int (1)))), (.call 40 [(.idx (.idx (.nm 4) (.cst (.int (1)))) (.cst (.int (1))))])]))] []),
  (.asg (.tup [(.nm 9), (.nm 10)]) (.idx (.nm 6) (.cst (.int (0))))),
  (.ret (.tup [(.tup [(.cst (.str s14)), (.tup [(.cst (.str s15)), (.idx (.nm 4) (.cst (.int (1)))), (.idx (.idx (.nm 4) (.cst (.int (2)))) (.cst (.int (1))))]), (.tup [(.cst (.str s15)), (.idx (.nm 4) (.cst (.int (1)))), (.idx (.idx (.nm 4) (.cst (.int (2)))) (.cst (.int (2))))])]), (.tup [(.nm 9), (.tup [(.nm 10)])])]))]⟩
def kD42 : Df := ⟨s67, 1, 4, [
  (.ret (.lc (.bi .list [(.nm 2)]) (.nm 2) (.e (.call 23 [(.lc (.call 24 [(.nm 3)]) (.nm 3) (.e (.nm 0)) [] [1, 3])])) [] [1, 2]))]⟩
def kD43 : Df := ⟨s68, 2, 2, [
  (.ret (.tup [(.cst (.str s68)), (.nm 0), (.nm 1)]))]⟩
def kD44 : Df := ⟨s69, 3, 5, [
  (.iff (.cmp .Eq (.idx (.nm 0) (.cst (.int (0)))) (.cst (.str s68))) [(.ret (.call 45 [(.nm 1), (.lam (.mk 2 4 [2, 0] [(.ret (.callv 2 [(.idx (.nm 3) (.cst (.int (1)))), (.idx (.nm 3) (.cst (.int (2)))), (.nm 0), (.nm 1)]))]))]))] []),
  (.par [3, 4] [(.call 44 [(.idx (.nm 0) (.cst (.int (3)))), (.nm 1), (.nm 2)]), (.call 44 [(.idx (.nm 0) (.cst (.int (5)))), (.nm 1), (.nm 2)])]),
  (.ret (.tup [(.cst (.str s70)), (.idx (.nm 0) (.cst (.int (1)))), (.idx (.nm 0) (.cst (.int (2)))), (.nm 3), (.idx (.nm 0) (.cst (.int (4)))), (.nm 4)]))]⟩
def kD45 : Df := ⟨s71, 2, 4, [
  (.iff (.cmp .Eq (.idx (.nm 0) (.cst (.int (0)))) (.cst (.str s68))) [(.asg (.tup [(.nm 2), (.nm 3)]) (.callv 1 [(.idx (.nm 0) (.cst (.int (1)))), (.idx (.nm 0) (.cst (.int (2))))])), (.ret (.call 43 [(.nm 2), (.nm 3)]))] []),
  (.ret (.tup [(.cst (.str s70)), (.idx (.nm 0) (.cst (.int (1)))), (.idx (.nm 0) (.cst (.int (2)))), (.call 45 [(.idx (.nm 0) (.cst (.int (3)))), (.nm 1)]), (.idx (.nm 0) (.cst (.int (4)))), (.call 45 [(.idx (.nm 0) (.cst (.int (5)))), (.nm 1)])]))]⟩
def kD46 : Df := ⟨s72, 2, 2, [
  (.iff (.cmp .Eq (.idx (.nm 0) (.cst (.int (0)))) (.cst (.str s68))) [(.ret (.callv 1 [(.idx (.nm 0) (.cst (.int (1)))), (.idx (.nm 0) (.cst (.int (2))))]))] []),
  (.ret (.tup [(.cst (.str s46)), (.idx (.nm 0) (.cst (.int (1)))), (.idx (.nm 0) (.cst (.int (2)))), (.call 46 [(.idx (.nm 0) (.cst (.int (3)))), (.nm 1)]), (.idx (.nm 0) (.cst (.int (4)))), (.call 46 [(.idx (.nm 0) (.cst (.int (5)))), (.nm 1)])]))]⟩
def kD47 : Df := ⟨s73, 3, 4, [
  (.fo (.nm 3) (.rng [(.ite (.cmp .Gt (.nm 1) (.cst (.int (0)))) (.bin .Sub (.bin .Sub (.nm 2) (.cst (.int (1)))) (.nm 1)) (.bin .Sub (.nm 2) (.cst (.int (1)))))]) [(.asg (.nm 0) (.tup [(.cst (.str s52)), (.nm 0)]))]),
  (.ret (.ite (.cmp .Gt (.nm 1) (.cst (.int (0)))) (.tup [(.cst (.str s53)), (.nm 0)]) (.nm 0)))]⟩
def kD48 : Df := ⟨s74, 1, 3, [
  (.asg (.nm 1) (.idx (.nm 0) (.cst (.int (0))))),
  (.fo (.nm 2) (.e (.slc (.nm 0) (.some (.cst (.int (1)))) .none)) [(.asg (.nm 1) (.tup [(.cst (.str s51)), (.nm 1), (.nm 2)]))]),
  (.ret (.nm 1))]⟩
def kD49 : Df := ⟨s75, 3, 13, [
  (.iff (.call 13 [(.nm 1)]) [(.ret (.call 43 [(.idx (.call 24 [(.nm 1)]) (.cst (.int (0)))), (.nm 2)]))] []),
  (.iff (.cmp .Eq (.idx (.nm 1) (.cst (.int (0)))) (.cst (.str s13))) [(.asg (.nm 3) (.call 49 [(.nm 0), (.idx (.nm 1) (.cst (.int (1)))), (.tup [(.cst (.str s52)), (.nm 2)])])), (.asg (.nm 4) (.call 49 [(.nm 0), (.idx (.nm 1) (.cst (.int (2)))), (.tup [(.cst (.str s53)), (.nm 2)])])), (.ret (.call 44 [(.nm 3), (.nm 4), (.lam (.mk 4 4 [] [(.ret (.tup [(.tup [(.nm 0), (.nm 2)]), (.tup [(.cst (.str s51)), (.nm 1), (.nm 3)])]))]))]))] []),
  (.iff (.cmp .Eq (.idx (.nm 1) (.cst (.int (0)))) (.cst (.str s14))) [(.par [5, 6] [(.me (.nm 0) s76 []), (.me (.nm 0) s76 [])]), (.asg (.nm 3) (.call 45 [(.call 49 [(.nm 0), (.idx (.nm 1) (.cst (.int (1)))), (.tup [(.cst (.str s40)), (.nm 5)])]), (.lam (.mk 2 2 [] [(.ret (.tup [(.tup [(.cst (.int (0))), (.nm 0)]), (.nm 1)]))]))])), (.asg (.nm 4) (.call 45 [(.call 49 [(.nm 0), (.idx (.nm 1) (.cst (.int (2)))), (.tup [(.cst (.str s40)), (.nm 6)])]), (.lam (.mk 2 2 [] [(.ret (.tup [(.tup [(.cst (.int (1))), (.nm 0)]), (.nm 1)]))]))])), (.ret (.tup [(.cst (.str s70)), (.nm 2), (.nm 5), (.nm 3), (.nm 6), (.nm 4)]))] []),
  (.asg (.nm 7) (.call 43 [(.tup []), (.lst [])])),
  (.fo (.nm 8) (.e (.call 24 [(.idx (.nm 1) (.cst (.int (1))))])) [(.par [9, 10] [(.me (.nm 0) s76 []), (.call 28 [(.idx (.nm 1) (.cst (.int (1)))), (.nm 8)])]), (.asg (.nm 11) (.tup [(.cst (.str s54)), (.nm 2), (.call 54 [(.nm 0), (.idx (.nm 1) (.cst (.int (1)))), (.nm 8), (.tup [(.cst (.str s40)), (.nm 9)])])])), (.asg (.nm 12) (.call 50 [(.nm 0), (.nm 10), (.idx (.nm 1) (.cst (.int (2)))), (.tup [(.cst (.str s47)), (.nm 9), (.nm 10), (.nm 11)])])), (.asg (.nm 7) (.call 44 [(.nm 7), (.nm 12), (.lam (.mk 4 4 [] [(.ret (.tup [(.tup [(.star (.nm 0)), (.nm 2)]), (.bin .Add (.nm 1) (.lst [(.nm 3)]))]))]))]))]),
  (.ret (.call 45 [(.nm 7), (.lam (.mk 2 2 [] [(.ret (.tup [(.nm 0), (.call 48 [(.nm 1)])]))]))]))]⟩
def kD50 : Df := ⟨s77, 4, 10, [
  (.iff (.call 13 [(.nm 2)]) [(.ret (.call 43 [(.idx (.call 24 [(.nm 2)]) (.cst (.int (0)))), (.nm 3)]))] []),
  (.asg (.nm 9) (.me (.nm 0) s76 [])),
  (.iff (.cmp .Eq (.idx (.nm 2) (.cst (.int (0)))) (.cst (.str s13))) [(.asg (.nm 4) (.tup [(.cst (.str s54)), (.nm 3), (.tup [(.cst (.str s40)), (.nm 9)])])), (.asg (.nm 5) (.call 50 [(.nm 0), (.nm 1), (.idx (.nm 2) (.cst (.int (1)))), (.tup [(.cst (.str s47)), (.nm 9), (.nm 1), (.tup [(.cst (.str s52)), (.nm 4)])])])), (.asg (.nm 6) (.call 50 [(.nm 0), (.nm 1), (.idx (.nm 2) (.cst (.int (2)))), (.tup [(.cst (.str s47)), (.nm 9), (.nm 1), (.tup [(.cst (.str s53)), (.nm 4)])])])), (.asg (.nm 7) (.call 44 [(.nm 5), (.nm 6), (.lam (.mk 4 4 [] [(.ret (.tup [(.tup [(.nm 0), (.nm 2)]), (.tup [(.nm 1), (.nm 3)])]))]))])), (.ret (.call 45 [(.nm 7), (.lam (.mk 2 4 [9, 1] [(.ret (.tup [(.nm 0), (.call 51 [(.nm 2), (.nm 3), (.idx (.nm 1) (.cst (.int (0)))), (.idx (.nm 1) (.cst (.int (1))))])]))]))]))] []),
  (.iff (.cmp .Eq (.idx (.nm 2) (.cst (.int (0)))) (.cst (.str s14))) [(.asg (.nm 8) (.me (.nm 0) s76 [])), (.asg (.nm 5) (.call 50 [(.nm 0), (.nm 1), (.idx (.nm 2) (.cst (.int (1)))), (.tup [(.cst (.str s40)), (.nm 9)])])), (.asg (.nm 6) (.call 50 [(.nm 0), (.nm 1), (.idx (.nm 2) (.cst (.int (2)))), (.tup [(.cst (.str s40)), (.nm 8)])])), (.asg (.nm 5) (.call 45 [(.nm 5), (.lam (.mk 2 2 [] [(.ret (.tup [(.tup [(.cst (.int (0))), (.nm 0)]), (.nm 1)]))]))])), (.asg (.nm 6) (.call 45 [(.nm 6), (.lam (.mk 2 2 [] [(.ret (.tup [(.tup [(.cst (.int (1))), (.nm 0)]), (.nm 1)]))]))])), (.ret (.tup [(.cst (.str s70)), (.tup [(.cst (.str s61)), (.nm 3)]), (.nm 9), (.nm 5), (.nm 8), (.nm 6)]))] []),
  (.ret (.call 52 [(.nm 0), (.nm 1), (.nm 2), (.nm 3), (.nm 9)]))]⟩
def kD51 : Df := ⟨s78, 4, 4, [
  (.ret (.tup [(.cst (.str s47)), (.nm 0), (.nm 1), (.tup [(.cst (.str s51)), (.tup [(.cst (.str s54)), (.nm 2), (.tup [(.cst (.str s40)), (.nm 0)])]), (.tup [(.cst (.str s54)), (.nm 3), (.tup [(.cst (.str s40)), (.nm 0)])])])]))]⟩
def kD52 : Df := ⟨s79, 5, 14, [
  (.asg (.tup [(.nm 5), (.nm 13)]) (.tup [(.call 43 [(.tup []), (.lst [])]), (.lst [])])),
  (.fo (.nm 6) (.e (.call 24 [(.idx (.nm 2) (.cst (.int (1))))])) [(.par [7, 8, 9] [(.call 28 [(.idx (.nm 2) (.cst (.int (1)))), (.nm 6)]), (.me (.nm 0) s76 []), (.me (.nm 0) s76 [])]), (.asg (.nm 10) (.tup [(.cst (.str s13)), (.nm 1), (.nm 7)])), (.asg (.nm 11) (.tup [(.cst (.str s54)), (.nm 3), (.tup [(.cst (.str s52)), (.tup [(.cst (.str s40)), (.nm 8)])])])), (.asg (.nm 11) (.tup [(.cst (.str s54)), (.nm 11), (.call 54 [(.nm 0), (.idx (.nm 2) (.cst (.int (1)))), (.nm 6), (.tup [(.cst (.str s53)), (.tup [(.cst (.str s40)), (.nm 8)])])])])), (.asg (.nm 12) (.call 50 [(.nm 0), (.nm 10), (.idx (.nm 2) (.cst (.int (2)))), (.tup [(.cst (.str s47)), (.nm 8), (.nm 10), (.nm 11)])])), (.asg (.nm 5) (.call 44 [(.nm 5), (.nm 12), (.lam (.mk 4 4 [] [(.ret (.tup [(.tup [(.star (.nm 0)), (.nm 2)]), (.bin .Add (.nm 1) (.lst [(.nm 3)]))]))]))])), (.ex (.bm .append (.nm 13) [(.tup [(.nm 7), (.nm 9)])]))]),
  (.asg (.nm 5) (.call 45 [(.nm 5), (.lam (.mk 2 4 [4, 13] [(.ret (.tup [(.nm 0), (.call 48 [(.call 53 [(.nm 2), (.nm 3), (.nm 1)])])]))]))])),
  (.ret (.call 45 [(.nm 5), (.lam (.mk 2 4 [4, 1] [(.ret (.tup [(.nm 0), (.tup [(.cst (.str s47)), (.nm 2), (.nm 3), (.nm 1)])]))]))]))]⟩
def kD53 : Df := ⟨s80, 3, 8, [
  (.asg (.nm 3) (.lst [])),
  (.fo (.tup [(.tup [(.nm 4), (.nm 5)]), (.nm 6)]) (.zp (.nm 1) (.nm 2)) [(.asg (.nm 7) (.tup [(.cst (.str s51)), (.tup [(.cst (.str s40)), (.nm 0)]), (.tup [(.cst (.str s40)), (.nm 5)])])), (.ex (.bm .append (.nm 3) [(.tup [(.cst (.str s47)), (.nm 5), (.nm 4), (.tup [(.cst (.str s54)), (.nm 6), (.nm 7)])])]))]),
  (.ret (.nm 3))]⟩
def kD54 : Df := ⟨s81, 4, 10, [
  (.iff (.call 13 [(.nm 1)]) [(.ret (.nm 3))] []),
  (.iff (.cmp .Eq (.idx (.nm 1) (.cst (.int (0)))) (.cst (.str s13))) [(.asg (.nm 4) (.call 54 [(.nm 0), (.idx (.nm 1) (.cst (.int (1)))), (.idx (.nm 2) (.cst (.int (0)))), (.tup [(.cst (.str s52)), (.nm 3)])])), (.ret (.tup [(.cst (.str s51)), (.nm 4), (.call 54 [(.nm 0), (.idx (.nm 1) (.cst (.int (2)))), (.idx (.nm 2) (.cst (.int (1)))), (.tup [(.cst (.str s53)), (.nm 3)])])]))] []),
  (.iff (.cmp .Eq (.idx (.nm 1) (.cst (.int (0)))) (.cst (.str s14))) [(.asg (.nm 5) (.call 54 [(.nm 0), (.idx (.nm 1) (.bin .Add (.cst (.int (1))) (.idx (.nm 2) (.cst (.int (0)))))), (.idx (.nm 2) (.cst (.int (1)))), (.nm 3)])), (.ret (.ite (.cmp .Eq (.idx (.nm 2) (.cst (.int (0)))) (.cst (.int (0)))) (.tup [(.cst (.str s56)), (.idx (.nm 1) (.cst (.int (2)))), (.nm 5)]) (.tup [(.cst (.str s57)), (.idx (.nm 1) (.cst (.int (1)))), (.nm 5)])))] []),
  (.asg (.tup [(.nm 9), (.nm 6)]) (.tup [(.call 24 [(.idx (.nm 1) (.cst (.int (1))))]), (.me (.nm 0) s76 [])])),
  (.asg (.nm 7) (.call 49 [(.nm 0), (.idx (.nm 1) (.cst (.int (1)))), (.tup [(.cst (.str s40)), (.nm 6)])])),
  (.ndef 8 (.mk 2 8 [2, 9, 1, 0, 3] [(.asg (.nm 7) (.bm .index (.nm 3) [(.nm 0)])), (.ret (.call 54 [(.nm 5), (.idx (.nm 4) (.cst (.int (2)))), (.idx (.nm 2) (.nm 7)), (.tup [(.cst (.str s54)), (.call 47 [(.nm 6), (.nm 7), (.bi .len [(.nm 3)])]), (.nm 1)])]))])),
  (.ret (.tup [(.cst (.str s47)), (.nm 6), (.idx (.nm 1) (.cst (.int (1)))), (.call 46 [(.nm 7), (.nm 8)])]))]⟩
def kD55 : Df := ⟨s82, 3, 7, [
  (.iff (.cmp .Eq (.idx (.nm 2) (.cst (.int (0)))) (.cst (.str s11))) [(.ret (.bm .get (.nm 1) [(.idx (.nm 2) (.cst (.int (1))))]))] []),
  (.iff (.cmp .Eq (.nm 2) (.con 0)) [(.asg (.nm 3) (.me (.nm 0) s76 [])), (.ret (.tup [(.cst (.bl false)), (.tup [(.cst (.str s47)), (.nm 3), (.con 0), (.tup [(.cst (.str s40)), (.nm 3)])])]))] []),
  (.par [4, 5, 3] [(.call 55 [(.nm 0), (.nm 1), (.idx (.nm 2) (.cst (.int (1))))]), (.call 55 [(.nm 0), (.nm 1), (.idx (.nm 2) (.cst (.int (2))))]), (.me (.nm 0) s76 [])]),
  (.asg (.nm 6) (.tup [(.cst (.str s40)), (.nm 3)])),
  (.iff (.cmp .Eq (.idx (.nm 2) (.cst (.int (0)))) (.cst (.str s13))) [(.iff (.bo true [(.cmp .IsNot (.nm 4) (.cst .non)), (.cmp .IsNot (.nm 5) (.cst .non)), (.idx (.nm 4) (.cst (.int (0)))), (.idx (.nm 5) (.cst (.int (0))))]) [(.ret (.tup [(.cst (.bl true)), (.tup [(.cst (.str s51)), (.idx (.nm 4) (.cst (.int (1)))), (.idx (.nm 5) (.cst (.int (1))))])]))] []), (.iff (.bo true [(.cmp .IsNot (.nm 4) (.cst .non)), (.nt (.idx (.nm 4) (.cst (.int (0)))))]) [(.ret (.tup [(.cst (.bl false)), (.tup [(.cst (.str s47)), (.nm 3), (.nm 2), (.tup [(.cst (.str s54)), (.idx (.nm 4) (.cst (.int (1)))), (.tup [(.cst (.str s52)), (.nm 6)])])])]))] []), (.iff (.bo true [(.cmp .IsNot (.nm 5) (.cst .non)), (.nt (.idx (.nm 5) (.cst (.int (0)))))]) [(.ret (.tup [(.cst (.bl false)), (.tup [(.cst (.str s47)), (.nm 3), (.nm 2), (.tup [(.cst (.str s54)), (.idx (.nm 5) (.cst (.int (1)))), (.tup [(.cst (.str s53)), (.nm 6)])])])]))] []), (.ret (.cst .non))] []),
  (.iff (.bo true [(.cmp .IsNot (.nm 5) (.cst .non)), (.idx (.nm 5) (.cst (.int (0))))]) [(.ret (.tup [(.cst (.bl true)), (.tup [(.cst (.str s47)), (.nm 3), (.idx (.nm 2) (.cst (.int (1)))), (.idx (.nm 5) (.cst (.int (1))))])]))] []),
  (.iff (.bo true [(.cmp .IsNot (.nm 4) (.cst .non)), (.nt (.idx (.nm 4) (.cst (.int (0)))))]) [(.ret (.tup [(.cst (.bl true)), (.tup [(.cst (.str s47)), (.nm 3), (.idx (.nm 2) (.cst (.int (1)))), (.tup [(.cst (.str s58)), (.idx (.nm 2) (.cst (.int (2)))), (.tup [(.cst (.str s54)), (.idx (.nm 4) (.cst (.int (1)))), (.nm 6)])])])]))] []),
  (.iff (.bo false [(.cmp .Is (.nm 4) (.cst .non)), (.cmp .Is (.nm 5) (.cst .non))]) [(.ret (.cst .non))] []),
  (.ret (.tup [(.cst (.bl false)), (.tup [(.cst (.str s47)), (.nm 3), (.nm 2), (.tup [(.cst (.str s54)), (.idx (.nm 5) (.cst (.int (1)))), (.tup [(.cst (.str s54)), (.nm 6), (.idx (.nm 4) (.cst (.int (1))))])])])]))]⟩
def kD56 : Df := ⟨s83, 5, 16, [
  (.asg (.nm 5) (.call 55 [(.nm 0), (.nm 2), (.nm 4)])),
  (.iff (.bo true [(.cmp .IsNot (.nm 5) (.cst .non)), (.idx (.nm 5) (.cst (.int (0))))]) [(.ret (.idx (.nm 5) (.cst (.int (1)))))] []),
  (.fo (.tup [(.nm 6), (.nm 7)]) (.ez (.nm 3)) [(.asg (.nm 5) (.call 55 [(.nm 0), (.nm 2), (.nm 6)])), (.iff (.bo true [(.cmp .IsNot (.nm 5) (.cst .non)), (.nt (.idx (.nm 5) (.cst (.int (0)))))]) [(.ret (.tup [(.cst (.str s58)), (.nm 4), (.tup [(.cst (.str s54)), (.idx (.nm 5) (.cst (.int (1)))), (.nm 7)])]))] [])]),
  (.par [8, 9] [(.tup [(.cst (.str s11)), (.idx (.nm 1) (.cst (.int (0))))]), (.slc (.nm 1) (.some (.cst (.int (1)))) .none)]),
  (.par [10, 11, 12] [(.me (.nm 0) s76 []), (.me (.nm 0) s76 []), (.me (.nm 0) s76 [])]),
  (.asg (.nm 13) (.call 56 [(.nm 0), (.nm 9), (.dup (.nm 2) [((.idx (.nm 1) (.cst (.int (0)))), (.tup [(.cst (.bl true)), (.tup [(.cst (.str s40)), (.nm 10)])]))]), (.nm 3), (.nm 4)])),
  (.asg (.nm 14) (.call 56 [(.nm 0), (.nm 9), (.dup (.nm 2) [((.idx (.nm 1) (.cst (.int (0)))), (.tup [(.cst (.bl false)), (.tup [(.cst (.str s40)), (.nm 11)])]))]), (.nm 3), (.nm 4)])),
  (.asg (.nm 15) (.tup [(.cst (.str s54)), (.tup [(.cst (.str s47)), (.nm 11), (.call 12 [(.nm 8)]), (.nm 14)]), (.tup [(.cst (.str s47)), (.nm 10), (.nm 8), (.tup [(.cst (.str s54)), (.tup [(.cst (.str s40)), (.nm 12)]), (.nm 13)])])])),
  (.ret (.tup [(.cst (.str s60)), (.tup [(.cst (.str s47)), (.nm 12), (.call 12 [(.nm 4)]), (.tup [(.cst (.str s54)), (.tup [(.cst (.str s40)), (.nm 12)]), (.nm 15)])])]))]⟩
def kD57 : Df := ⟨s84, 5, 11, [
  (.asg (.tup [(.nm 10), (.nm 5)]) (.tup [(.mk 6 []), (.call 43 [(.tup []), (.lst [])])])),
  (.fo (.tup [(.nm 6), (.nm 7)]) (.enm (.nm 1)) [(.asg (.nm 8) (.call 49 [(.nm 10), (.nm 7), (.tup [(.cst (.str s45)), (.nm 6)])])), (.asg (.nm 5) (.call 44 [(.nm 5), (.nm 8), (.lam (.mk 4 4 [] [(.ret (.tup [(.tup [(.star (.nm 0)), (.nm 2)]), (.bin .Add (.nm 1) (.lst [(.nm 3)]))]))]))]))]),
  (.ndef 9 (.mk 2 14 [1, 2, 0, 10, 4, 3] [(.asg (.nm 8) (.idx (.nm 6) (.bm .index (.nm 7) [(.bi .list [(.nm 0)])]))), (.asg (.nm 9) (.lc (.tup [(.call 28 [(.nm 11), (.nm 12)]), (.nm 13)]) (.tup [(.nm 11), (.nm 12), (.nm 13)]) (.zp3 (.nm 2) (.nm 0) (.nm 1)) [] [10, 11, 12, 13])), (.ret (.call 54 [(.nm 5), (.nm 3), (.nm 8), (.call 56 [(.nm 5), (.nm 4), (.dct []), (.nm 9), (.call 28 [(.nm 3), (.nm 8)])])]))])),
  (.ret (.call 46 [(.nm 5), (.nm 9)]))]⟩
def kD58 : Df := ⟨s85, 3, 6, [
  (.asg (.nm 3) (.bin .Sub (.bin .LShift (.cst (.int (1))) (.bin .LShift (.cst (.int (1))) (.bi .len [(.nm 0)]))) (.cst (.int (1))))),
  (.fo (.tup [(.nm 4), (.nm 5)]) (.zp (.nm 1) (.nm 2)) [(.asg (.nm 3) (.bin .BitAnd (.nm 3) (.call 21 [(.nm 0), (.call 28 [(.nm 4), (.nm 5)])])))]),
  (.ret (.nm 3))]⟩
def kD59 : Df := ⟨s86, 4, 4, [
  (.ret (.cmp .Eq (.bin .BitAnd (.nm 2) (.call 21 [(.nm 0), (.call 28 [(.nm 1), (.nm 3)])])) (.nm 2)))]⟩
def kD60 : Df := ⟨s87, 3, 9, [
  (.asg (.nm 3) (.lst [])),
  (.fo (.nm 4) (.e (.call 42 [(.nm 1)])) [(.asg (.nm 5) (.call 58 [(.nm 0), (.nm 1), (.nm 4)])), (.asg (.nm 6) (.lc (.nm 8) (.nm 8) (.e (.call 24 [(.nm 2)])) [(.call 59 [(.nm 0), (.nm 2), (.nm 5), (.nm 8)])] [7, 8])), (.iff (.cmp .Eq (.nm 6) (.lst [])) [(.ret (.tup [(.cst (.str s88)), (.call 20 [(.nm 0), (.nm 5)])]))] []), (.ex (.bm .append (.nm 3) [(.idx (.nm 6) (.cst (.int (0))))]))]),
  (.ret (.tup [(.cst (.str s89)), (.nm 3)]))]⟩
def kD61 : Df := ⟨s90, 3, 3, [
  (.ex (.call 31 [(.nm 0), (.nm 1)])),
  (.ex (.call 10 [(.nm 0), (.nm 2)])),
  (.ret (.tup [(.call 38 [(.nm 1)]), (.call 11 [(.nm 2)])]))]⟩
def kD62 : Df := ⟨s91, 3, 6, [
  (.asg (.tup [(.nm 3), (.nm 4)]) (.call 61 [(.nm 0), (.nm 1), (.nm 2)])),
  (.asg (.nm 5) (.call 60 [(.bi .list [(.nm 0)]), (.nm 3), (.nm 4)])),
  (.iff (.cmp .Eq (.idx (.nm 5) (.cst (.int (0)))) (.cst (.str s88))) [(.ret (.nm 5))] []),
  (.ret (.tup [(.cst (.str s92)), (.call 57 [(.bi .list [(.nm 0)]), (.nm 3), (.nm 4), (.call 42 [(.nm 3)]), (.idx (.nm 5) (.cst (.int (1))))])]))]⟩
def kD63 : Df := ⟨s93, 1, 4, [
  (.ret (.lc (.bin .Add (.nm 2) (.cst (.int (1)))) (.tup [(.nm 2), (.nm 3)]) (.enm (.bm .split (.idx (.con 1) (.nm 0)) [])) [(.cmp .Eq (.nm 3) (.cst (.str s41)))] [1, 2, 3]))]⟩
def kD64 : Df := ⟨s94, 1, 5, [
  (.iff (.cmp .In (.idx (.nm 0) (.cst (.int (0)))) (.tup [(.cst (.str s45)), (.cst (.str s40))])) [(.ret (.bi .tuple [(.nm 0)]))] []),
  (.par [1, 2] [(.bm .split (.idx (.con 1) (.idx (.nm 0) (.cst (.int (0))))) []), (.lst [(.idx (.nm 0) (.cst (.int (0))))])]),
  (.fo (.tup [(.nm 3), (.nm 4)]) (.zp (.nm 1) (.slc (.nm 0) (.some (.cst (.int (1)))) .none)) [(.ex (.bm .append (.nm 2) [(.ite (.cmp .Eq (.nm 3) (.cst (.str s41))) (.call 64 [(.nm 4)]) (.ite (.cmp .Eq (.nm 3) (.cst (.str s95))) (.call 11 [(.nm 4)]) (.nm 4)))]))]),
  (.ret (.bi .tuple [(.nm 2)]))]⟩
def kD65 : Df := ⟨s96, 1, 3, [
  (.ret (.bo true [(.isi (.nm 0) [.str]), (.chn .Lt .Lt (.cst (.int (0))) (.bi .len [(.nm 0)]) (.cst (.int (9)))), (.bi .all [(.lc (.cmp .In (.nm 2) (.cst (.str s6))) (.nm 2) (.e (.nm 0)) [] [1, 2])])]))]⟩
def kD66 : Df := ⟨s97, 1, 1, [
  (.iff (.call 4 [(.nm 0), (.cst (.int (1)))]) [(.ret (.bo true [(.isi (.idx (.nm 0) (.cst (.int (0)))) [.str]), (.cmp .In (.idx (.nm 0) (.cst (.int (0)))) (.tup [(.cst (.str s98)), (.cst (.str s99))]))]))] []),
  (.ret (.bo true [(.call 4 [(.nm 0), (.cst (.int (2)))]), (.isi (.idx (.nm 0) (.cst (.int (0)))) [.str]), (.cmp .In (.idx (.nm 0) (.cst (.int (0)))) (.tup [(.cst (.str s100)), (.cst (.str s45))])), (.call 3 [(.idx (.nm 0) (.cst (.int (1))))])]))]⟩
def kD67 : Df := ⟨s101, 2, 2, [
  (.iff (.cmp .Eq (.idx (.nm 1) (.cst (.int (0)))) (.cst (.str s11))) [(.ret (.cmp .Eq (.idx (.nm 1) (.cst (.int (1)))) (.nm 0)))] []),
  (.ret (.bo true [(.cmp .NotEq (.idx (.nm 1) (.cst (.int (0)))) (.cst (.str s12))), (.bo false [(.call 67 [(.nm 0), (.idx (.nm 1) (.cst (.int (1))))]), (.call 67 [(.nm 0), (.idx (.nm 1) (.cst (.int (2))))])])]))]⟩
def kD68 : Df := ⟨s102, 1, 4, [
  (.asg (.nm 1) (.lst [])),
  (.iff (.bo false [(.cmp .Is (.nm 0) (.cst .non)), (.cmp .In (.idx (.nm 0) (.cst (.int (0)))) (.tup [(.cst (.str s45)), (.cst (.str s40))]))]) [(.ret (.nm 1))] []),
  (.fo (.tup [(.nm 2), (.nm 3)]) (.zp (.bm .split (.idx (.con 1) (.idx (.nm 0) (.cst (.int (0))))) []) (.slc (.nm 0) (.some (.cst (.int (1)))) .none)) [(.ex (.bm .extend (.nm 1) [(.ite (.cmp .Eq (.nm 2) (.cst (.str s95))) (.lst [(.nm 3)]) (.ite (.cmp .Eq (.nm 2) (.cst (.str s41))) (.call 68 [(.nm 3)]) (.lst [])))]))]),
  (.ret (.nm 1))]⟩
def kD69 : Df := ⟨s103, 2, 6, [
  (.iff (.cmp .Eq (.idx (.nm 0) (.cst (.int (0)))) (.cst (.str s45))) [(.ret (.ite (.cmp .Eq (.idx (.nm 0) (.cst (.int (1)))) (.nm 1)) (.cst .non) (.tup [(.cst (.str s45)), (.bin .Sub (.idx (.nm 0) (.cst (.int (1)))) (.ite (.cmp .Gt (.idx (.nm 0) (.cst (.int (1)))) (.nm 1)) (.cst (.int (1))) (.cst (.int (0)))))])))] []),
  (.asg (.tup [(.nm 2), (.nm 3)]) (.tup [(.bi .list [(.nm 0)]), (.call 63 [(.idx (.nm 0) (.cst (.int (0))))])])),
  (.fo (.nm 4) (.e (.nm 3)) [(.asg (.idx (.nm 2) (.nm 4)) (.call 69 [(.idx (.nm 0) (.nm 4)), (.nm 1)]))]),
  (.ret (.ite (.bi .all [(.lc (.cmp .IsNot (.idx (.nm 2) (.nm 4)) (.cst .non)) (.nm 4) (.e (.nm 3)) [] [5, 4])]) (.bi .tuple [(.nm 2)]) (.cst .non)))]⟩
def kD70 : Df := ⟨s104, 1, 1, [
  (.ret (.lst [(.bi .list [(.nm 0)]), (.cst (.int (0))), (.cst (.int (0))), (.cst (.int (19)))]))]⟩
def kD71 : Df := ⟨s105, 2, 5, [
  (.asg (.idx (.nm 0) (.cst (.int (2)))) (.bin .Add (.idx (.nm 0) (.cst (.int (2)))) (.cst (.int (1))))),
  (.wh (.bo true [(.cmp .Eq (.idx (.nm 0) (.cst (.int (1)))) (.cst (.int (0)))), (.cmp .NotEq (.idx (.nm 0) (.cst (.int (0)))) (.lst []))]) [(.asg (.nm 2) (.bi .abs [(.bm .pop (.idx (.nm 0) (.cst (.int (0)))) [(.cst (.int (0)))])])), (.asg (.idx (.nm 0) (.cst (.int (3)))) (.bin .Mod (.bi .int [(.bin .Add (.bin .Add (.bin .Mult (.idx (.nm 0) (.cst (.int (3)))) (.cst (.int (6151)))) (.nm 2)) (.cst (.int (7))))]) (.cst (.int (2147483629))))), (.asg (.idx (.nm 0) (.cst (.int (1)))) (.ite (.cmp .GtE (.nm 2) (.bin .Pow (.cst (.int (10))) (.cst (.int (18))))) (.nm 2) (.cst (.int (0)))))]),
  (.iff (.cmp .Gt (.idx (.nm 0) (.cst (.int (1)))) (.cst (.int (0)))) [(.asg (.nm 3) (.bin .Mod (.bi .int [(.idx (.nm 0) (.cst (.int (1))))]) (.nm 1))), (.asg (.idx (.nm 0) (.cst (.int (1)))) (.bin .FloorDiv (.idx (.nm 0) (.cst (.int (1)))) (.nm 1))), (.ret (.nm 3))] []),
  (.asg (.nm 4) (.bin .Mod (.bi .int [(.bin .Pow (.bin .Add (.bin .Add (.idx (.nm 0) (.cst (.int (3)))) (.bin .Mult (.cst (.int (8191))) (.idx (.nm 0) (.cst (.int (2)))))) (.cst (.int (50021)))) (.cst (.int (5))))]) (.cst (.int (2147483587))))),
  (.ret (.bin .Mod (.bin .Mod (.bi .int [(.bin .Pow (.bin .Add (.bin .Add (.bin .Mult (.nm 4) (.cst (.int (40009)))) (.bin .Mult (.cst (.int (20011))) (.idx (.nm 0) (.cst (.int (2)))))) (.cst (.int (31)))) (.cst (.int (3))))]) (.cst (.int (1000000009)))) (.nm 1)))]⟩
def kD72 : Df := ⟨s106, 2, 5, [
  (.iff (.isi (.nm 1) [.list, .tuple]) [(.iff (.bo false [(.cmp .NotEq (.isi (.nm 0) [.list]) (.isi (.nm 1) [.list])), (.cmp .NotEq (.isi (.nm 0) [.tuple]) (.isi (.nm 1) [.tuple]))]) [(.ret (.cst (.bl false)))] []), (.ret (.bo true [(.cmp .Eq (.bi .len [(.nm 0)]) (.bi .len [(.nm 1)])), (.bi .all [(.lc (.call 72 [(.nm 3), (.nm 4)]) (.tup [(.nm 3), (.nm 4)]) (.zp (.nm 0) (.nm 1)) [] [2, 3, 4])])]))] []),
  (.iff (.isi (.nm 1) [.dict]) [(.ret (.bo true [(.isi (.nm 0) [.dict]), (.call 72 [(.bi .list [(.me (.nm 0) s107 [])]), (.bi .list [(.me (.nm 1) s107 [])])])]))] []),
  (.iff (.bo false [(.isi (.nm 1) [.bool]), (.isi (.nm 0) [.bool])]) [(.ret (.bo true [(.isi (.nm 1) [.bool]), (.isi (.nm 0) [.bool]), (.cmp .Eq (.nm 0) (.nm 1))]))] []),
  (.iff (.bo false [(.cmp .Is (.nm 1) (.cst .non)), (.cmp .Is (.nm 0) (.cst .non))]) [(.ret (.bo true [(.cmp .Is (.nm 1) (.cst .non)), (.cmp .Is (.nm 0) (.cst .non))]))] []),
  (.iff (.bo false [(.cmp .NotEq (.isi (.nm 1) [.int]) (.isi (.nm 0) [.int])), (.cmp .NotEq (.isi (.nm 1) [.str]) (.isi (.nm 0) [.str]))]) [(.ret (.cst (.bl false)))] []),
  (.ret (.bo true [(.nt (.isi (.nm 0) [.list, .tuple, .dict])), (.cmp .Eq (.nm 0) (.nm 1))]))]⟩
def kD73 : Df := ⟨s108, 3, 3, [
  (.ret (.call 72 [(.lst [(.cmp .Eq (.nm 0) (.nm 1)), (.cmp .Eq (.nm 1) (.nm 0))]), (.lst [(.nm 2), (.nm 2)])]))]⟩
def kD74 : Df := ⟨s109, 1, 1, [
  (.tryb (.callv 0 []) false 0 true)]⟩
def kD75 : Df := ⟨s110, 0, 0, [
  (.ret (.tup [(.cst (.str s14)), (.tup [(.cst (.str s11)), (.cst (.str s111))]), (.tup [(.cst (.str s15)), (.tup [(.cst (.str s11)), (.cst (.str s111))]), (.tup [(.cst (.str s12))])])]))]⟩
def kD76 : Df := ⟨s112, 0, 0, [
  (.ret (.tup [(.cst (.str s15)), (.tup [(.cst (.str s11)), (.cst (.str s113))]), (.call 75 [])]))]⟩
def kD77 : Df := ⟨s114, 0, 0, [
  (.ret (.mk 14 [(.lst [(.cst (.str s113)), (.cst (.str s111))]), (.lst [(.tup [(.cst (.str s11)), (.cst (.str s113))]), (.call 76 [])]), (.call 75 [])]))]⟩
def kD78 : Df := ⟨s115, 0, 0, [
  (.ret (.tup [(.cst (.str s54)), (.tup [(.cst (.str s45)), (.cst (.int (1)))]), (.tup [(.cst (.str s45)), (.cst (.int (0)))])]))]⟩
def kD79 : Df := ⟨s116, 0, 11, [
  (.par [0, 1, 2] [(.lc (.call 77 []) (.nm 9) (.rng [(.cst (.int (4)))]) [] [8, 9]), (.tup [(.cst (.str s11)), (.cst (.str s113))]), (.tup [(.cst (.str s11)), (.cst (.str s111))])]),
  (.asg (.nm 3) (.lst [(.me (.idx (.nm 0) (.cst (.int (0)))) s117 [(.nm 1)]), (.me (.idx (.nm 0) (.cst (.int (0)))) s118 [(.cst (.int (2)))]), (.me (.idx (.nm 0) (.cst (.int (1)))) s117 [(.nm 2)]), (.me (.idx (.nm 0) (.cst (.int (1)))) s118 [(.cst (.int (2)))])])),
  (.asg (.nm 4) (.lst [(.call 73 [(.idx (.nm 0) (.cst (.int (0)))), (.idx (.nm 0) (.cst (.int (1)))), (.cst (.bl false))]), (.cmp .Eq (.me (.idx (.nm 0) (.cst (.int (0)))) s45 []) (.me (.idx (.nm 0) (.cst (.int (1)))) s45 [])), (.cmp .Eq (.me (.idx (.nm 0) (.cst (.int (0)))) s119 []) (.me (.idx (.nm 0) (.cst (.int (1)))) s119 []))])),
  (.asg (.nm 5) (.lc (.me (.nm 10) s120 []) (.nm 10) (.e (.bin .Add (.slc (.nm 0) .none (.some (.cst (.int (2))))) (.slc (.nm 0) .none (.some (.cst (.int (2))))))) [] [8, 10])),
  (.ex (.bm .extend (.nm 4) [(.lst [(.cmp .Eq (.nm 5) (.lst [(.cst (.str s118)), (.cst (.str s118)), (.cst (.str s117)), (.cst (.str s117))])), (.cmp .Eq (.me (.idx (.nm 0) (.cst (.int (0)))) s119 []) (.lst [])), (.call 73 [(.idx (.nm 0) (.cst (.int (0)))), (.idx (.nm 0) (.cst (.int (1)))), (.cst (.bl false))])])])),
  (.ex (.bm .append (.nm 4) [(.call 73 [(.idx (.nm 0) (.cst (.int (2)))), (.idx (.nm 0) (.cst (.int (3)))), (.cst (.bl true))])])),
  (.ex (.bm .extend (.nm 3) [(.lst [(.me (.idx (.nm 0) (.cst (.int (2)))) s121 [(.cst (.int (0))), (.tup [])]), (.me (.idx (.nm 0) (.cst (.int (3)))) s122 [])])])),
  (.ex (.bm .append (.nm 4) [(.call 73 [(.idx (.nm 0) (.cst (.int (2)))), (.idx (.nm 0) (.cst (.int (3)))), (.cst (.bl false))])])),
  (.asg (.nm 5) (.lst [(.me (.idx (.nm 0) (.cst (.int (2)))) s120 []), (.me (.idx (.nm 0) (.cst (.int (3)))) s120 [])])),
  (.ex (.bm .extend (.nm 4) [(.lst [(.cmp .Eq (.nm 5) (.lst [(.cst (.str s121)), (.cst (.str s122))])), (.call 73 [(.idx (.nm 0) (.cst (.int (2)))), (.idx (.nm 0) (.cst (.int (3)))), (.cst (.bl false))]), (.call 73 [(.idx (.nm 0) (.cst (.int (2)))), (.call 77 []), (.cst (.bl false))])])])),
  (.ex (.bm .extend (.nm 3) [(.lst [(.me (.idx (.nm 0) (.cst (.int (2)))) s123 [(.call 78 [])]), (.me (.idx (.nm 0) (.cst (.int (3)))) s123 [(.lst [(.cst (.str s54)), (.lst [(.cst (.str s45)), (.cst (.int (1)))]), (.lst [(.cst (.str s45)), (.cst (.int (0)))])])])])])),
  (.ex (.bm .append (.nm 4) [(.call 73 [(.idx (.nm 0) (.cst (.int (2)))), (.idx (.nm 0) (.cst (.int (3)))), (.cst (.bl true))])])),
  (.asg (.nm 6) (.tup [(.cst (.str s52)), (.tup [(.cst (.str s51)), (.call 78 []), (.tup [(.cst (.str s45)), (.cst (.int (0)))])])])),
  (.ex (.bm .extend (.nm 3) [(.lst [(.me (.idx (.nm 0) (.cst (.int (2)))) s123 [(.nm 6)]), (.me (.idx (.nm 0) (.cst (.int (3)))) s123 [(.call 78 [])])])])),
  (.ex (.bm .extend (.nm 4) [(.lst [(.call 73 [(.idx (.nm 0) (.cst (.int (2)))), (.idx (.nm 0) (.cst (.int (3)))), (.cst (.bl false))]), (.cmp .Eq (.me (.idx (.nm 0) (.cst (.int (2)))) s119 []) (.me (.idx (.nm 0) (.cst (.int (3)))) s119 []))])])),
  (.ex (.bm .extend (.nm 3) [(.lst [(.me (.idx (.nm 0) (.cst (.int (2)))) s124 [(.call 75 [])]), (.me (.idx (.nm 0) (.cst (.int (3)))) s124 [(.call 75 [])])])])),
  (.ex (.bm .extend (.nm 4) [(.lst [(.bo true [(.cmp .Is (.me (.idx (.nm 0) (.cst (.int (2)))) s92 []) (.cst .non)), (.cmp .Is (.me (.idx (.nm 0) (.cst (.int (3)))) s92 []) (.cst .non))]), (.call 73 [(.idx (.nm 0) (.cst (.int (2)))), (.idx (.nm 0) (.cst (.int (3)))), (.cst (.bl false))])])])),
  (.ex (.bm .extend (.nm 4) [(.lst [(.cmp .Eq (.me (.idx (.nm 0) (.cst (.int (2)))) s120 []) (.cst (.str s124))), (.call 72 [(.me (.idx (.nm 0) (.cst (.int (2)))) s92 []), (.nm 6)]), (.cmp .Eq (.me (.idx (.nm 0) (.cst (.int (3)))) s120 []) (.cst (.str s124)))])])),
  (.ex (.bm .extend (.nm 4) [(.lst [(.cmp .Eq (.me (.idx (.nm 0) (.cst (.int (2)))) s120 []) (.cst (.str s123))), (.cmp .Eq (.me (.idx (.nm 0) (.cst (.int (3)))) s120 []) (.cst (.str s123))), (.call 73 [(.idx (.nm 0) (.cst (.int (2)))), (.idx (.nm 0) (.cst (.int (3)))), (.cst (.bl false))])])])),
  (.ex (.bm .extend (.nm 3) [(.lst [(.me (.idx (.nm 0) (.cst (.int (2)))) s11 [(.cst (.str s125))]), (.me (.idx (.nm 0) (.cst (.int (3)))) s11 [(.cst (.str s125))])])])),
  (.ex (.bm .append (.nm 4) [(.call 73 [(.idx (.nm 0) (.cst (.int (2)))), (.idx (.nm 0) (.cst (.int (3)))), (.cst (.bl true))])])),
  (.ex (.bm .append (.nm 3) [(.me (.idx (.nm 0) (.cst (.int (2)))) s126 [(.cst (.str s127)), (.tup [(.cst (.str s45)), (.cst (.int (1)))])])])),
  (.ex (.bm .extend (.nm 4) [(.lst [(.call 73 [(.idx (.nm 0) (.cst (.int (2)))), (.idx (.nm 0) (.cst (.int (3)))), (.cst (.bl false))]), (.call 72 [(.me (.idx (.nm 0) (.cst (.int (3)))) s126 [(.cst (.str s127)), (.lst [(.cst (.str s45)), (.cst (.int (1)))])]), (.cst .non)])])])),
  (.ex (.bm .append (.nm 4) [(.call 73 [(.idx (.nm 0) (.cst (.int (2)))), (.idx (.nm 0) (.cst (.int (3)))), (.cst (.bl true))])])),
  (.ex (.bm .extend (.nm 3) [(.lst [(.me (.idx (.nm 0) (.cst (.int (2)))) s128 [(.cst (.str s127))]), (.me (.idx (.nm 0) (.cst (.int (2)))) s126 [(.cst (.str s127)), (.tup [(.cst (.str s45)), (.cst (.int (2)))])])])])),
  (.ex (.bm .extend (.nm 4) [(.lst [(.call 73 [(.idx (.nm 0) (.cst (.int (2)))), (.idx (.nm 0) (.cst (.int (3)))), (.cst (.bl false))]), (.call 73 [(.idx (.nm 0) (.cst (.int (0)))), (.cst (.int (5))), (.cst (.bl false))]), (.call 73 [(.idx (.nm 0) (.cst (.int (0)))), (.cst .non), (.cst (.bl false))])])])),
  (.ex (.bm .append (.nm 4) [(.call 73 [(.mk 14 [(.tup [(.cst (.str s113)), (.cst (.str s111))]), (.tup [(.lst [(.cst (.str s11)), (.cst (.str s113))]), (.bi .list [(.call 76 [])])]), (.bi .list [(.call 75 [])])]), (.call 77 []), (.cst (.bl true))])])),
  (.ex (.bm .append (.nm 4) [(.call 73 [(.mk 14 [(.lst [(.cst (.str s113)), (.cst (.str s111))]), (.lst [(.tup [(.cst (.str s11)), (.cst (.str s113))])]), (.call 75 [])]), (.call 77 []), (.cst (.bl false))])])),
  (.ex (.bm .append (.nm 4) [(.call 73 [(.mk 14 [(.lst [(.cst (.str s113)), (.cst (.str s111)), (.cst (.str s125))]), (.lst [(.tup [(.cst (.str s11)), (.cst (.str s113))]), (.call 76 [])]), (.call 75 [])]), (.call 77 []), (.cst (.bl false))])])),
  (.ex (.bm .append (.nm 4) [(.call 73 [(.mk 14 [(.lst [(.cst (.str s113)), (.cst (.str s111))]), (.lst [(.tup [(.cst (.str s11)), (.cst (.str s113))]), (.call 76 [])]), (.nm 2)]), (.call 77 []), (.cst (.bl false))])])),
  (.asg (.nm 7) (.lc (.call 77 []) (.nm 9) (.rng [(.cst (.int (2)))]) [] [8, 9])),
  (.ex (.bm .extend (.nm 3) [(.lst [(.me (.idx (.nm 7) (.cst (.int (0)))) s126 [(.cst (.str s113)), (.tup [(.cst (.str s99))])]), (.me (.idx (.nm 7) (.cst (.int (0)))) s126 [(.cst (.str s111)), (.tup [(.cst (.str s100)), (.cst (.int (2)))])])])])),
  (.ex (.bm .extend (.nm 3) [(.lst [(.me (.idx (.nm 7) (.cst (.int (1)))) s126 [(.cst (.str s111)), (.lst [(.cst (.str s100)), (.cst (.int (2)))])]), (.me (.idx (.nm 7) (.cst (.int (1)))) s126 [(.cst (.str s113)), (.lst [(.cst (.str s99))])])])])),
  (.ex (.bm .append (.nm 4) [(.call 73 [(.idx (.nm 7) (.cst (.int (0)))), (.idx (.nm 7) (.cst (.int (1)))), (.cst (.bl true))])])),
  (.ret (.bo true [(.bi .all [(.nm 4)]), (.call 72 [(.nm 3), (.bin .Mult (.lst [(.cst .non)]) (.cst (.int (21))))])]))]⟩
def kD80 : Df := ⟨s129, 0, 4, [
  (.asg (.nm 0) (.call 77 [])),
  (.asg (.nm 1) (.lst [(.me (.nm 0) s123 [(.call 78 [])]), (.me (.nm 0) s121 [(.cst (.int (0))), (.tup [])]), (.me (.nm 0) s126 [(.cst (.str s127)), (.tup [(.cst (.str s100)), (.cst (.int (2)))])]), (.me (.nm 0) s126 [(.cst (.str s130)), (.tup [(.cst (.str s99))])])])),
  (.par [2, 3] [(.lst [(.call 72 [(.me (.nm 0) s120 []), (.cst (.str s121))])]), (.me (.nm 0) s131 [])]),
  (.ex (.bm .extend (.nm 2) [(.lst [(.call 73 [(.nm 0), (.nm 3), (.cst (.bl true))]), (.call 72 [(.lst [(.me (.nm 3) s132 []), (.me (.nm 3) s133 [(.cst (.str s127))]), (.me (.nm 0) s133 [(.cst (.str s130))])]), (.lst [(.lst [(.cst (.str s130))]), (.un .USub (.cst (.int (1)))), (.cst .non)])])])])),
  (.ex (.bm .extend (.nm 2) [(.lst [(.call 72 [(.me (.nm 3) s134 []), (.cst (.str s121))]), (.call 73 [(.nm 0), (.nm 3), (.cst (.bl false))]), (.call 72 [(.me (.nm 3) s132 []), (.lst [(.cst (.str s130)), (.cst (.str s127))])])])])),
  (.ex (.bm .extend (.nm 2) [(.lst [(.call 72 [(.me (.nm 3) s120 []), (.cst (.str s121))]), (.call 73 [(.nm 0), (.nm 3), (.cst (.bl true))])])])),
  (.ex (.bm .append (.nm 1) [(.me (.nm 3) s128 [(.cst (.str s130))])])),
  (.ex (.bm .extend (.nm 2) [(.lst [(.call 73 [(.nm 0), (.nm 3), (.cst (.bl false))]), (.call 72 [(.lst [(.me (.nm 0) s132 []), (.me (.nm 3) s132 [])]), (.lst [(.lst [(.cst (.str s130))]), (.lst [])])])])])),
  (.ex (.bm .extend (.nm 1) [(.lst [(.me (.nm 3) s126 [(.cst (.str s130)), (.tup [(.cst (.str s99))])]), (.me (.nm 0) s117 [(.tup [(.cst (.str s12))])])])])),
  (.ex (.bm .extend (.nm 2) [(.lst [(.cmp .Is (.me (.nm 0) s134 []) (.cst .non)), (.call 73 [(.nm 0), (.nm 3), (.cst (.bl false))]), (.call 72 [(.lst [(.me (.nm 3) s134 []), (.me (.nm 3) s120 [])]), (.lst [(.cst (.str s121)), (.cst (.str s121))])])])])),
  (.ex (.bm .extend (.nm 1) [(.lst [(.me (.nm 0) s118 [(.cst (.int (1)))]), (.me (.nm 0) s122 [])])])),
  (.ex (.bm .extend (.nm 2) [(.lst [(.cmp .Is (.me (.nm 0) s92 []) (.cst .non)), (.call 72 [(.lst [(.me (.nm 0) s133 [(.cst (.str s130))]), (.me (.nm 0) s133 [(.cst (.str s127))])]), (.lst [(.cst (.int (2))), (.un .USub (.cst (.int (1))))])])])])),
  (.ex (.bm .extend (.nm 2) [(.lst [(.call 72 [(.lst [(.me (.nm 0) s120 []), (.me (.nm 0) s120 [])]), (.lst [(.cst (.str s122)), (.cst (.str s118))])]), (.call 72 [(.me (.nm 0) s92 []), (.call 78 [])])])])),
  (.ex (.bm .append (.nm 1) [(.me (.nm 3) s118 [(.cst (.int (0)))])])),
  (.ex (.bm .extend (.nm 2) [(.lst [(.cmp .Is (.me (.nm 3) s92 []) (.cst .non)), (.call 72 [(.me (.nm 3) s120 []), (.cst (.str s118))]), (.call 72 [(.me (.nm 3) s92 []), (.call 78 [])]), (.cmp .Is (.me (.nm 3) s135 []) (.cst .non))])])),
  (.ret (.bo true [(.bi .all [(.nm 2)]), (.call 72 [(.nm 1), (.bin .Mult (.lst [(.cst .non)]) (.cst (.int (10))))])]))]⟩
def kD81 : Df := ⟨s136, 0, 5, [
  (.asg (.nm 0) (.lst [(.lam (.mk 1 1 [] [(.ret (.me (.nm 0) s117 [(.cst .non)]))]))])),
  (.ex (.bm .append (.nm 0) [(.lam (.mk 1 1 [] [(.ret (.me (.nm 0) s118 [(.cst (.int (9)))]))]))])),
  (.ex (.bm .append (.nm 0) [(.lam (.mk 1 1 [] [(.ret (.me (.nm 0) s124 [(.tup [(.cst (.str s11)), (.cst (.str s137))])]))]))])),
  (.ex (.bm .append (.nm 0) [(.lam (.mk 1 1 [] [(.ret (.me (.nm 0) s11 [(.cst (.str s113))]))]))])),
  (.ex (.bm .append (.nm 0) [(.lam (.mk 1 1 [] [(.ret (.me (.nm 0) s138 [(.cst (.str s137))]))]))])),
  (.ex (.bm .append (.nm 0) [(.lam (.mk 1 1 [] [(.ret (.me (.nm 0) s138 [(.cst (.str s113))]))]))])),
  (.ex (.bm .append (.nm 0) [(.lam (.mk 1 1 [] [(.ret (.me (.nm 0) s121 [(.cst (.int (0))), (.tup [(.cst (.int (0)))])]))]))])),
  (.ex (.bm .append (.nm 0) [(.lam (.mk 1 1 [] [(.ret (.me (.nm 0) s121 [(.cst (.int (7))), (.tup [])]))]))])),
  (.ex (.bm .append (.nm 0) [(.lam (.mk 1 1 [] [(.ret (.me (.nm 0) s123 [(.tup [(.cst (.str s45)), (.cst (.int (0)))])]))]))])),
  (.ex (.bm .append (.nm 0) [(.lam (.mk 1 1 [] [(.ret (.me (.nm 0) s126 [(.cst (.str s139)), (.tup [(.cst (.str s99))])]))]))])),
  (.ex (.bm .append (.nm 0) [(.lam (.mk 1 1 [] [(.ret (.me (.nm 0) s126 [(.cst (.str s127)), (.cst .non)]))]))])),
  (.ex (.bm .append (.nm 0) [(.lam (.mk 1 1 [] [(.ret (.me (.nm 0) s128 [(.cst (.str s140))]))]))])),
  (.ex (.bm .append (.nm 0) [(.lam (.mk 1 1 [] [(.ret (.me (.nm 0) s133 [(.cst (.str s140))]))]))])),
  (.fo (.nm 3) (.e (.nm 0)) [(.asg (.nm 4) (.call 77 [])), (.asg (.nm 1) (.lst [(.me (.nm 4) s121 [(.cst (.int (0))), (.tup [])]), (.me (.nm 4) s120 [])])), (.iff (.bo false [(.nt (.call 74 [(.lam (.mk 0 2 [3, 4] [(.ret (.callv 0 [(.nm 1)]))]))])), (.nt (.call 72 [(.bin .Add (.nm 1) (.lst [(.me (.nm 4) s134 [])])), (.lst [(.cst .non), (.cst (.str s121)), (.cst (.str s121))])]))]) [(.ret (.cst (.bl false)))] [])]),
  (.asg (.nm 4) (.call 77 [])),
  (.asg (.nm 1) (.lst [(.me (.nm 4) s121 [(.cst (.int (0))), (.tup [])]), (.me (.nm 4) s120 []), (.me (.nm 4) s126 [(.cst (.str s127)), (.tup [(.cst (.str s100)), (.cst (.int (2)))])]), (.me (.nm 4) s132 []), (.me (.nm 4) s141 []), (.me (.nm 4) s142 []), (.me (.nm 4) s135 [])])),
  (.ex (.bm .extend (.nm 1) [(.lst [(.idx (.me (.nm 4) s143 []) (.cst (.int (0)))), (.me (.nm 4) s88 []), (.cmp .Eq (.me (.nm 4) s131 []) (.nm 4)), (.me (.nm 4) s119 []), (.me (.nm 4) s134 []), (.me (.nm 4) s132 [])])])),
  (.asg (.nm 2) (.lst [(.lst []), (.lst [(.cst (.str s113))]), (.lst [(.cst (.str s113)), (.cst (.str s111))]), (.lst [(.cst (.str s111))])])),
  (.ret (.call 72 [(.nm 1), (.lst [(.cst .non), (.cst (.str s121)), (.cst .non), (.lst []), (.lst [(.cst .non), (.cst .non)]), (.cst .non), (.cst .non), (.cst (.str s92)), (.nm 2), (.cst (.bl true)), (.lst []), (.cst (.str s121)), (.lst [(.cst (.str s127))])])]))]⟩
def kD82 : Df := ⟨s144, 1, 2, [
  (.asg (.nm 1) (.call 70 [(.nm 0)])),
  (.iff (.cmp .Eq (.call 71 [(.nm 1), (.cst (.int (2)))]) (.cst (.int (0)))) [(.ret (.bo true [(.call 79 []), (.call 80 []), (.call 81 [])]))] []),
  (.ret (.bo true [(.call 81 []), (.call 80 []), (.call 79 [])]))]⟩
def kD83 : Df := ⟨s145, 2, 2, [
  (.asg (.fld (.nm 0) s146) (.nm 1))]⟩
def kD84 : Df := ⟨s145, 2, 2, [
  (.asg (.fld (.nm 0) s95) (.nm 1))]⟩
def kD85 : Df := ⟨s145, 2, 2, [
  (.asg (.fld (.nm 0) s146) (.nm 1))]⟩
def kD86 : Df := ⟨s145, 2, 2, [
  (.asg (.fld (.nm 0) s147) (.nm 1))]⟩
def kD87 : Df := ⟨s145, 2, 2, [
  (.asg (.fld (.nm 0) s146) (.nm 1))]⟩
def kD88 : Df := ⟨s145, 1, 1, [
  (.asg (.fld (.nm 0) s148) (.cst (.int (0))))]⟩
def kD89 : Df := ⟨s76, 1, 3, [
  (.par [1, 2] [(.fld (.nm 0) s148), (.cst (.str s139))]),
  (.asg (.fld (.nm 0) s148) (.bin .Add (.fld (.nm 0) s148) (.cst (.int (1))))),
  (.wh (.bo false [(.cmp .Gt (.nm 1) (.cst (.int (0)))), (.cmp .Eq (.nm 2) (.cst (.str s139)))]) [(.par [2, 1] [(.bin .Add (.idx (.cst (.str s6)) (.bin .Mod (.nm 1) (.cst (.int (26))))) (.nm 2)), (.bin .FloorDiv (.nm 1) (.cst (.int (26))))])]),
  (.ret (.nm 2))]⟩
def kD90 : Df := ⟨s145, 2, 2, [
  (.asg (.fld (.nm 0) s149) (.nm 1))]⟩
def kD91 : Df := ⟨s145, 2, 2, [
  (.asg (.fld (.nm 0) s146) (.nm 1))]⟩
def kD92 : Df := ⟨s145, 2, 2, [
  (.asg (.fld (.nm 0) s11) (.nm 1))]⟩
def kD93 : Df := ⟨s145, 2, 2, [
  (.asg (.fld (.nm 0) s11) (.nm 1))]⟩
def kD94 : Df := ⟨s145, 2, 2, [
  (.asg (.fld (.nm 0) s11) (.nm 1))]⟩
def kD95 : Df := ⟨s145, 2, 2, [
  (.asg (.fld (.nm 0) s40) (.nm 1))]⟩
def kD96 : Df := ⟨s145, 2, 2, [
  (.asg (.fld (.nm 0) s150) (.nm 1))]⟩
def kD97 : Df := ⟨s145, 4, 5, [
  (.ex (.call 31 [(.nm 1), (.nm 2)])),
  (.ex (.call 10 [(.nm 1), (.nm 3)])),
  (.asg (.nm 4) (.call 14 [(.nm 1)])),
  (.asg (.fld (.nm 0) s151) (.lst [(.tup [(.cst (.str s139)), (.tup [(.bi .list [(.nm 1)]), (.call 38 [(.nm 2)]), (.call 11 [(.nm 3)]), (.nm 4), (.cst .non)])])])),
  (.asg (.fld (.nm 0) s152) (.lst [])),
  (.asg (.fld (.nm 0) s153) (.dct []))]⟩
def kD98 : Df := ⟨s154, 1, 1, [
  (.ret (.idx (.idx (.fld (.nm 0) s151) (.un .USub (.cst (.int (1))))) (.cst (.int (1)))))]⟩
def kD99 : Df := ⟨s155, 7, 7, [
  (.ex (.bm .append (.fld (.nm 0) s151) [(.tup [(.nm 1), (.tup [(.nm 2), (.nm 3), (.nm 4), (.nm 5), (.nm 6)])])])),
  (.asg (.fld (.nm 0) s152) (.lst []))]⟩
def kD100 : Df := ⟨s156, 1, 1, [
  (.ret (.bi .list [(.idx (.me (.nm 0) s154 []) (.cst (.int (0))))]))]⟩
def kD101 : Df := ⟨s45, 1, 1, [
  (.ret (.bi .list [(.idx (.me (.nm 0) s154 []) (.cst (.int (1))))]))]⟩
def kD102 : Df := ⟨s157, 1, 1, [
  (.ret (.idx (.me (.nm 0) s154 []) (.cst (.int (2)))))]⟩
def kD103 : Df := ⟨s88, 1, 3, [
  (.ret (.lc (.bi .list [(.nm 2)]) (.nm 2) (.e (.idx (.me (.nm 0) s154 []) (.cst (.int (3))))) [] [1, 2]))]⟩
def kD104 : Df := ⟨s141, 1, 8, [
  (.asg (.tup [(.nm 1), (.nm 2), (.nm 3), (.nm 4), (.nm 5)]) (.me (.nm 0) s154 [])),
  (.ret (.lc (.call 29 [(.nm 1), (.nm 4), (.nm 7)]) (.nm 7) (.e (.nm 2)) [] [6, 7]))]⟩
def kD105 : Df := ⟨s142, 1, 6, [
  (.asg (.tup [(.nm 1), (.nm 2), (.nm 3), (.nm 4), (.nm 5)]) (.me (.nm 0) s154 [])),
  (.ret (.call 29 [(.nm 1), (.nm 4), (.nm 3)]))]⟩
def kD106 : Df := ⟨s117, 2, 7, [
  (.asg (.tup [(.nm 2), (.nm 3), (.nm 4), (.nm 5), (.nm 6)]) (.me (.nm 0) s154 [])),
  (.ex (.call 10 [(.nm 2), (.nm 1)])),
  (.ex (.me (.nm 0) s155 [(.cst (.str s117)), (.nm 2), (.lst [(.star (.nm 3)), (.call 11 [(.nm 1)])]), (.nm 4), (.nm 5), (.nm 6)]))]⟩
def kD107 : Df := ⟨s158, 2, 2, [
  (.iff (.bo false [(.nt (.call 3 [(.nm 1)])), (.cmp .GtE (.nm 1) (.bi .len [(.idx (.me (.nm 0) s154 []) (.cst (.int (1))))]))]) [(.rais 8 [(.nm 1)])] [])]⟩
def kD108 : Df := ⟨s118, 2, 8, [
  (.ex (.me (.nm 0) s158 [(.nm 1)])),
  (.asg (.tup [(.nm 2), (.nm 3), (.nm 4), (.nm 5), (.nm 6)]) (.me (.nm 0) s154 [])),
  (.asg (.nm 7) (.ite (.cmp .Is (.nm 6) (.cst .non)) (.cst .non) (.call 69 [(.nm 6), (.nm 1)]))),
  (.ex (.me (.nm 0) s155 [(.cst (.str s118)), (.nm 2), (.bin .Add (.slc (.nm 3) .none (.some (.nm 1))) (.slc (.nm 3) (.some (.bin .Add (.nm 1) (.cst (.int (1))))) .none)), (.nm 4), (.nm 5), (.nm 7)]))]⟩
def kD109 : Df := ⟨s124, 2, 7, [
  (.asg (.tup [(.nm 2), (.nm 3), (.nm 4), (.nm 5), (.nm 6)]) (.me (.nm 0) s154 [])),
  (.ex (.call 10 [(.nm 2), (.nm 1)])),
  (.ex (.me (.nm 0) s155 [(.cst (.str s124)), (.nm 2), (.nm 3), (.call 11 [(.nm 1)]), (.nm 5), (.cst .non)]))]⟩
def kD110 : Df := ⟨s11, 2, 10, [
  (.asg (.tup [(.nm 2), (.nm 3), (.nm 4), (.nm 5), (.nm 6)]) (.me (.nm 0) s154 [])),
  (.iff (.bo false [(.nt (.call 5 [(.nm 1)])), (.cmp .In (.nm 1) (.nm 2))]) [(.rais 9 [(.nm 1)])] []),
  (.asg (.nm 7) (.lc (.bi .sorted [(.lst [(.star (.nm 9)), (.nm 1)])]) (.nm 9) (.e (.nm 5)) [] [8, 9])),
  (.ex (.me (.nm 0) s155 [(.cst (.str s11)), (.bi .sorted [(.lst [(.star (.nm 2)), (.nm 1)])]), (.nm 3), (.nm 4), (.bi .sorted [(.bin .Add (.nm 5) (.nm 7))]), (.nm 6)]))]⟩
def kD111 : Df := ⟨s138, 2, 14, [
  (.asg (.tup [(.nm 2), (.nm 3), (.nm 4), (.nm 5), (.nm 6)]) (.me (.nm 0) s154 [])),
  (.iff (.bo false [(.nt (.isi (.nm 1) [.str])), (.cmp .NotIn (.nm 1) (.nm 2))]) [(.rais 10 [(.nm 1)])] []),
  (.iff (.bi .any [(.lc (.call 67 [(.nm 1), (.nm 10)]) (.nm 10) (.e (.lst [(.star (.nm 3)), (.nm 4), (.star (.call 68 [(.nm 6)]))])) [] [9, 10])]) [(.rais 11 [(.nm 1)])] []),
  (.asg (.nm 7) (.bi .sorted [(.lc (.lc (.nm 12) (.nm 12) (.e (.nm 11)) [(.cmp .NotEq (.nm 12) (.nm 1))] [9, 12]) (.nm 11) (.e (.nm 5)) [] [9, 11])])),
  (.asg (.nm 8) (.lc (.nm 11) (.tup [(.nm 13), (.nm 11)]) (.enm (.nm 7)) [(.bo false [(.cmp .Eq (.nm 13) (.cst (.int (0)))), (.cmp .NotEq (.idx (.nm 7) (.bin .Sub (.nm 13) (.cst (.int (1))))) (.nm 11))])] [9, 13, 11])),
  (.ex (.me (.nm 0) s155 [(.cst (.str s138)), (.lc (.nm 12) (.nm 12) (.e (.nm 2)) [(.cmp .NotEq (.nm 12) (.nm 1))] [9, 12]), (.nm 3), (.nm 4), (.nm 8), (.nm 6)]))]⟩
def kD112 : Df := ⟨s121, 3, 9, [
  (.ex (.me (.nm 0) s158 [(.nm 1)])),
  (.asg (.tup [(.nm 3), (.nm 4), (.nm 5), (.nm 6), (.nm 7)]) (.me (.nm 0) s154 [])),
  (.iff (.nt (.call 25 [(.idx (.nm 4) (.nm 1)), (.nm 2)])) [(.rais 4 [(.nm 2)])] []),
  (.asg (.nm 8) (.bin .BitAnd (.call 19 [(.nm 3), (.nm 6)]) (.call 21 [(.nm 3), (.call 28 [(.idx (.nm 4) (.nm 1)), (.call 26 [(.nm 2)])])]))),
  (.ex (.me (.nm 0) s155 [(.cst (.str s121)), (.nm 3), (.nm 4), (.nm 5), (.call 20 [(.nm 3), (.nm 8)]), (.nm 7)]))]⟩
def kD113 : Df := ⟨s122, 1, 6, [
  (.asg (.tup [(.nm 1), (.nm 2), (.nm 3), (.nm 4), (.nm 5)]) (.me (.nm 0) s154 [])),
  (.ex (.me (.nm 0) s155 [(.cst (.str s122)), (.nm 1), (.nm 2), (.nm 3), (.call 14 [(.nm 1)]), (.nm 5)]))]⟩
def kD114 : Df := ⟨s123, 2, 8, [
  (.asg (.tup [(.nm 2), (.nm 3), (.nm 4), (.nm 5), (.nm 6)]) (.me (.nm 0) s154 [])),
  (.asg (.nm 7) (.call 39 [(.nm 2), (.nm 3), (.nm 4), (.nm 1)])),
  (.iff (.cmp .IsNot (.nm 7) (.cst .non)) [(.rais 7 [(.nm 7)])] []),
  (.ex (.me (.nm 0) s155 [(.cst (.str s123)), (.nm 2), (.nm 3), (.nm 4), (.nm 5), (.call 64 [(.nm 1)])]))]⟩
def kD115 : Df := ⟨s92, 1, 1, [
  (.ret (.idx (.me (.nm 0) s154 []) (.cst (.int (4)))))]⟩
def kD116 : Df := ⟨s135, 1, 7, [
  (.asg (.tup [(.nm 1), (.nm 2), (.nm 3), (.nm 4), (.nm 5)]) (.me (.nm 0) s154 [])),
  (.asg (.nm 6) (.me (.nm 0) s141 [])),
  (.iff (.bo false [(.cmp .Is (.nm 5) (.cst .non)), (.cmp .In (.cst .non) (.nm 6))]) [(.ret (.cst .non))] []),
  (.ret (.idx (.call 41 [(.nm 2), (.nm 6), (.dct []), (.nm 5)]) (.cst (.int (1)))))]⟩
def kD117 : Df := ⟨s143, 1, 6, [
  (.asg (.tup [(.nm 1), (.nm 2), (.nm 3), (.nm 4), (.nm 5)]) (.me (.nm 0) s154 [])),
  (.ret (.call 62 [(.nm 1), (.nm 2), (.nm 3)]))]⟩
def kD118 : Df := ⟨s159, 3, 8, [
  (.asg (.tup [(.nm 3), (.nm 4), (.nm 5), (.nm 6), (.nm 7)]) (.nm 2)),
  (.iff (.cmp .Eq (.idx (.nm 1) (.cst (.int (0)))) (.cst (.str s100))) [(.ret (.cmp .LtE (.bi .len [(.nm 6)]) (.idx (.nm 1) (.cst (.int (1))))))] []),
  (.iff (.cmp .Eq (.idx (.nm 1) (.cst (.int (0)))) (.cst (.str s45))) [(.ret (.cmp .LtE (.bi .len [(.nm 4)]) (.idx (.nm 1) (.cst (.int (1))))))] []),
  (.ret (.ite (.cmp .Eq (.idx (.nm 1) (.cst (.int (0)))) (.cst (.str s99))) (.cmp .IsNot (.nm 7) (.cst .non)) (.cmp .IsNot (.call 29 [(.nm 3), (.nm 6), (.nm 5)]) (.cst .non))))]⟩
def kD119 : Df := ⟨s126, 3, 3, [
  (.iff (.bo false [(.nt (.call 65 [(.nm 1)])), (.cmp .In (.nm 1) (.fld (.nm 0) s153))]) [(.rais 12 [(.nm 1)])] []),
  (.iff (.nt (.call 66 [(.nm 2)])) [(.rais 13 [(.nm 2)])] []),
  (.asg (.idx (.fld (.nm 0) s153) (.nm 1)) (.bi .tuple [(.nm 2)]))]⟩
def kD120 : Df := ⟨s160, 2, 2, [
  (.iff (.bo false [(.nt (.isi (.nm 1) [.str])), (.cmp .NotIn (.nm 1) (.fld (.nm 0) s153))]) [(.rais 12 [(.nm 1)])] [])]⟩
def kD121 : Df := ⟨s128, 2, 2, [
  (.ex (.me (.nm 0) s160 [(.nm 1)])),
  (.del (.fld (.nm 0) s153) (.nm 1))]⟩
def kD122 : Df := ⟨s161, 1, 1, [
  (.ex (.call 0 [(.cst (.int (0)))]))]⟩
def kD123 : Df := ⟨s132, 1, 3, [
  (.ret (.lc (.nm 2) (.nm 2) (.e (.bi .sorted [(.fld (.nm 0) s153)])) [(.me (.nm 0) s159 [(.idx (.fld (.nm 0) s153) (.nm 2)), (.me (.nm 0) s154 [])])] [1, 2]))]⟩
def kD124 : Df := ⟨s133, 2, 6, [
  (.ex (.me (.nm 0) s160 [(.nm 1)])),
  (.asg (.nm 2) (.cst .non)),
  (.fo (.tup [(.nm 3), (.tup [(.nm 4), (.nm 5)])]) (.enm (.fld (.nm 0) s151)) [(.iff (.me (.nm 0) s159 [(.idx (.fld (.nm 0) s153) (.nm 1)), (.nm 5)]) [(.asg (.nm 2) (.cst .non))] [(.iff (.cmp .Is (.nm 2) (.cst .non)) [(.asg (.nm 2) (.bin .Sub (.nm 3) (.cst (.int (1)))))] [])])]),
  (.ret (.nm 2))]⟩
def kD125 : Df := ⟨s120, 1, 1, [
  (.iff (.cmp .Eq (.bi .len [(.fld (.nm 0) s151)]) (.cst (.int (1)))) [(.ret (.cst .non))] []),
  (.ex (.bm .append (.fld (.nm 0) s152) [(.bm .pop (.fld (.nm 0) s151) [])])),
  (.ret (.idx (.idx (.fld (.nm 0) s152) (.un .USub (.cst (.int (1))))) (.cst (.int (0)))))]⟩
def kD126 : Df := ⟨s134, 1, 1, [
  (.iff (.cmp .Eq (.fld (.nm 0) s152) (.lst [])) [(.ret (.cst .non))] []),
  (.ex (.bm .append (.fld (.nm 0) s151) [(.bm .pop (.fld (.nm 0) s152) [])])),
  (.ret (.idx (.idx (.fld (.nm 0) s151) (.un .USub (.cst (.int (1))))) (.cst (.int (0)))))]⟩
def kD127 : Df := ⟨s119, 1, 4, [
  (.ret (.lc (.nm 2) (.tup [(.nm 2), (.nm 3)]) (.ez (.slc (.fld (.nm 0) s151) (.some (.cst (.int (1)))) .none)) [] [1, 2, 3]))]⟩
def kD128 : Df := ⟨s131, 1, 7, [
  (.asg (.tup [(.nm 1), (.nm 2), (.nm 3), (.nm 4), (.nm 5)]) (.idx (.idx (.fld (.nm 0) s151) (.cst (.int (0)))) (.cst (.int (1))))),
  (.asg (.nm 6) (.mk 14 [(.nm 1), (.nm 2), (.nm 3)])),
  (.asg (.tup [(.fld (.nm 6) s151), (.fld (.nm 6) s152)]) (.tup [(.bi .list [(.fld (.nm 0) s151)]), (.bi .list [(.fld (.nm 0) s152)])])),
  (.asg (.fld (.nm 6) s153) (.bi .dict [(.fld (.nm 0) s153)])),
  (.ret (.nm 6))]⟩
def kD129 : Df := ⟨s162, 2, 2, [
  (.iff (.bo false [(.nt (.isi (.nm 1) [.own 14])), (.cmp .NotEq (.fld (.nm 0) s151) (.fld (.nm 1) s151))]) [(.ret (.cst (.bl false)))] []),
  (.ret (.bo true [(.cmp .Eq (.fld (.nm 0) s152) (.fld (.nm 1) s152)), (.cmp .Eq (.fld (.nm 0) s153) (.fld (.nm 1) s153))]))]⟩
def kDC : List Cl := [⟨[], [0], true, []⟩,
  ⟨[(s145, 83)], [1, 0], true, [s146]⟩,
  ⟨[(s145, 84)], [2, 0], true, [s95]⟩,
  ⟨[(s145, 85)], [3, 0], true, [s146]⟩,
  ⟨[(s145, 86)], [4, 0], true, [s147]⟩,
  ⟨[(s145, 87)], [5, 0], true, [s146]⟩,
  ⟨[(s145, 88), (s76, 89)], [6], false, [s148]⟩,
  ⟨[(s145, 90)], [7, 0], true, [s149]⟩,
  ⟨[(s145, 91)], [8, 0], true, [s146]⟩,
  ⟨[(s145, 92)], [9, 0], true, [s11]⟩,
  ⟨[(s145, 93)], [10, 0], true, [s11]⟩,
  ⟨[(s145, 94)], [11, 0], true, [s11]⟩,
  ⟨[(s145, 95)], [12, 0], true, [s40]⟩,
  ⟨[(s145, 96)], [13, 0], true, [s150]⟩,
  ⟨[(s145, 97), (s154, 98), (s155, 99), (s156, 100), (s45, 101), (s157, 102), (s88, 103), (s141, 104), (s142, 105), (s117, 106), (s158, 107), (s118, 108), (s124, 109), (s11, 110), (s138, 111), (s121, 112), (s122, 113), (s123, 114), (s92, 115), (s135, 116), (s143, 117), (s159, 118), (s126, 119), (s160, 120), (s128, 121), (s161, 122), (s132, 123), (s133, 124), (s120, 125), (s134, 126), (s119, 127), (s131, 128), (s162, 129)], [14], false, [s151, s152, s153]⟩]
def kDs : List Df := [kD0, kD1, kD2, kD3, kD4, kD5, kD6, kD7, kD8, kD9, kD10, kD11, kD12, kD13, kD14, kD15, kD16, kD17, kD18, kD19, kD20, kD21, kD22, kD23, kD24, kD25, kD26, kD27, kD28, kD29, kD30, kD31, kD32, kD33, kD34, kD35, kD36, kD37, kD38, kD39, kD40, kD41, kD42, kD43, kD44, kD45, kD46, kD47, kD48, kD49, kD50, kD51, kD52, kD53, kD54, kD55, kD56, kD57, kD58, kD59, kD60, kD61, kD62, kD63, kD64, kD65, kD66, kD67, kD68, kD69, kD70, kD71, kD72, kD73, kD74, kD75, kD76, kD77, kD78, kD79, kD80, kD81, kD82, kD83, kD84, kD85, kD86, kD87, kD88, kD89, kD90, kD91, kD92, kD93, kD94, kD95, kD96, kD97, kD98, kD99, kD100, kD101, kD102, kD103, kD104, kD105, kD106, kD107, kD108, kD109, kD110, kD111, kD112, kD113, kD114, kD115, kD116, kD117, kD118, kD119, kD120, kD121, kD122, kD123, kD124, kD125, kD126, kD127, kD128, kD129]
def kP : Pg := ⟨kDs, kDC⟩
end RP.L93

set_option Elab.async false
set_option linter.all false
set_option maxRecDepth 100000
set_option maxHeartbeats 0
/-! RP67: it is that. -/
namespace RP
open PySem PySem.Spec PyProof.Rows L2 LamX NdefX
theorem kP_defs : k93.p.defs = L93.kP.defs := by kernel_rfl
theorem kP_clss : k93.p.clss = L93.kP.clss := by kernel_rfl
theorem kP_eq : k93.p = L93.kP := by
  have e : ∀ p q : Pg, p.defs = q.defs → p.clss = q.clss → p = q := fun p q a b => by
    cases p; cases q; cases a; cases b; rfl
  exact e _ _ kP_defs kP_clss
end RP

set_option Elab.async false
set_option linter.all false
set_option maxRecDepth 100000
set_option maxHeartbeats 0
/-! RP63: what the kernel computes for k93: the three parts, the head's run. -/
namespace RP
open PySem PySem.Spec PyProof.Rows L2 LamX NdefX

/-- the written containers alone -/
def kParts : List (Str × W) := kPairs.map fun q => (q.1, W.str q.2)
def kB : Hv := ((⟨0, .nil, none⟩ : Hv).push (.tup [.str "never"])).push (.wdc kParts)
def okB : Res W → Bool
  | .ok (.bl true) _ => true
  | _ => false
theorem kStaysF : okB ((Fx.orcF L93.kP 24).fn 81 [] kB) = true := by decide +kernel
theorem kTwinsF : okB ((Fx.orcF L93.kP 24).fn 79 [] kB) = true := by decide +kernel
theorem kCopiesF : okB ((Fx.orcF L93.kP 24).fn 80 [] kB) = true := by decide +kernel
theorem kByF {i : Nat} (h : okB ((Fx.orcF L93.kP 24).fn i [] kB) = true) : okB ((orc k93.p 24).fn i [] kB) = true := by
  rw [kP_eq, ← Fx.orcF_eq]
  exact h
theorem kStays : okB ((orc k93.p 24).fn 81 [] kB) = true := kByF kStaysF
theorem kTwins : okB ((orc k93.p 24).fn 79 [] kB) = true := kByF kTwinsF
theorem kCopies : okB ((orc k93.p 24).fn 80 [] kB) = true := kByF kCopiesF
noncomputable abbrev kSees (w : World) (s : PySem.W.SharedT) : Bool := HandSHeadRun.looksF kRow.prog (PySem.W.boot_heap w.params) s.abs
noncomputable abbrev kSeen (s : PySem.W.SharedT) := HandSHeadRun.seenQ (PySem.W.view kRow.prog [kLi]) kLoose (importedModules kRow.prog.main.body) (fun s => PySem.W.xlAt (PySem.W.view kRow.prog [kLi]) [] s && PySem.W.recOk kRow.toRowW.records s) s.abs
/-! the facts, in four parts -/
noncomputable abbrev kK (s : PySem.W.SharedT) : PySem.W.Frag := frR kN (HandSHeadRun.getT s)
noncomputable abbrev kM1 (s : PySem.W.SharedT) : List He.FnW := k93.fn.map fun d => He.fnW (kK s) d.at_
noncomputable abbrev kM2 (s : PySem.W.SharedT) : Bool × List (Option (List (Option (Str × Int)))) := (k93.fn.all fun d => d.ok (kK s), kTabs.map fun t => He.dicW (kK s) (t.1 (kK s)))
def kP3 (K : PySem.W.Frag) : Bool := k93.gl.all (glB k93 K) && (bnames.all (bltB k93 K) && (He.tupB K "NEVER" [.str "never"] && He.valsB K (He.ga K "PARTS") (kPairs.map fun q => (q.1, He.Dv.str q.2))))
noncomputable abbrev kM3 (s : PySem.W.SharedT) : Bool := kP3 (kK s) && He.tabsB (HandSHeadRun.getT s) k93.tf (kK s)
def kP4 (K : PySem.W.Frag) : Bool := (k93.clss.zipIdx.all fun q => insB k93 K q.2 q.1) && (((List.range k93.clss.length).all (isiB k93 K)) && (((List.range k93.clss.length).all (xcB k93 K)) && (((List.range k93.clss.length).all fun d => (List.range k93.clss.length).all fun c => exmB k93 K d c) &&
  (He.eqO (PySem.W.specialIn K (.builtin "object.__class__") "__get__") (some (some (.builtin "getset_descriptor.__get__"))) && (decide (PySem.W.takesIn K (.builtin "object.__class__") = some true) && decide ((k93.tf.map fun p => (He.cT K p).2).Nodup))))))
noncomputable abbrev kM4 (s : PySem.W.SharedT) : Bool := kP4 (kK s)
theorem map_two {α β γ : Type} {f : α → β} {g : α → γ} {o : Option α} {a : β} {b : γ} (h : o.map (fun s => (f s, g s)) = some (a, b)) : o.map f = some a ∧ o.map g = some b := by
  cases o with
  | none => cases h
  | some s =>
    have h : (f s, g s) = (a, b) := Option.some.inj h
    exact ⟨congrArg some (congrArg Prod.fst h), congrArg some (congrArg Prod.snd h)⟩
theorem kM13_0 (w : World) (os : OsState) : (kEnd (w.withFollow "special-get-raises" false) os).map (fun s => (kM1 s, kM3 s)) = some (k93.fn.map He.DefD.val, true) := by
  kernel_rfl
theorem kM2_0 (w : World) (os : OsState) : (kEnd (w.withFollow "special-get-raises" false) os).map kM2 = some (true, kTabs.map fun t => some (He.keysIn (w.withFollow "special-get-raises" false).params t.2)) := by
  kernel_rfl
theorem kS4_0 (w : World) (os : OsState) : (kEnd (w.withFollow "special-get-raises" false) os).map (fun s => ((kSees (w.withFollow "special-get-raises" false) s, kSeen s), kM4 s)) = some ((true, PySem.W.openGood (PySem.W.view kRow.prog [kLi]) kLoose), true) := by
  kernel_rfl
theorem kSeen0 (w : World) (os : OsState) : (kEnd (w.withFollow "special-get-raises" false) os).map (fun s => (kSees (w.withFollow "special-get-raises" false) s, kSeen s)) = some (true, PySem.W.openGood (PySem.W.view kRow.prog [kLi]) kLoose) := (map_two (kS4_0 w os)).1
theorem kM4_0 (w : World) (os : OsState) : (kEnd (w.withFollow "special-get-raises" false) os).map kM4 = some true := (map_two (kS4_0 w os)).2
theorem kM13_1 (w : World) (os : OsState) : (kEnd (w.withFollow "special-get-raises" true) os).map (fun s => (kM1 s, kM3 s)) = some (k93.fn.map He.DefD.val, true) := by
  kernel_rfl
theorem kM2_1 (w : World) (os : OsState) : (kEnd (w.withFollow "special-get-raises" true) os).map kM2 = some (true, kTabs.map fun t => some (He.keysIn (w.withFollow "special-get-raises" true).params t.2)) := by
  kernel_rfl
theorem kS4_1 (w : World) (os : OsState) : (kEnd (w.withFollow "special-get-raises" true) os).map (fun s => ((kSees (w.withFollow "special-get-raises" true) s, kSeen s), kM4 s)) = some ((true, PySem.W.openGood (PySem.W.view kRow.prog [kLi]) kLoose), true) := by
  kernel_rfl
theorem kSeen1 (w : World) (os : OsState) : (kEnd (w.withFollow "special-get-raises" true) os).map (fun s => (kSees (w.withFollow "special-get-raises" true) s, kSeen s)) = some (true, PySem.W.openGood (PySem.W.view kRow.prog [kLi]) kLoose) := (map_two (kS4_1 w os)).1
theorem kM4_1 (w : World) (os : OsState) : (kEnd (w.withFollow "special-get-raises" true) os).map kM4 = some true := (map_two (kS4_1 w os)).2
end RP

set_option Elab.async false
set_option linter.all false
set_option maxRecDepth 100000
set_option maxHeartbeats 4000000
/-! RP4: the virtual heap and the layer's heap: what stands for what. -/
namespace RP
open PySem PySem.Spec PyProof.Rows L2 LamX NdefX

/-- a local function: a lambda or an inner def -/
structure NG where
  name : Str
  qual : Str
  params : Arguments
  body : FuncBody
  scope : Scope
  cl : List (Str × Addr)
  c : Addr
abbrev NG.fd (F : NG) (doc pm ctv : Value) : FuncData :=
  { name := F.name, qualname := F.qual, params := F.params, body := F.body, scope := F.scope, globals := mainGlobals, closure := F.cl, defaults := .none, kwdefaults := .none, doc, pyModule := pm, annotations := none, code := .ref F.c, closureTuple := ctv, builtins := builtinsNs }
def FzG (H : Hp) (f : Addr) (F : NG) : Prop := ∃ (u : HO) (dd : Option Addr) (sl : Array (Option Value)) (doc pm ctv : Value), H f = some (.frz (⟨.type "function", dd, .func (F.fd doc pm ctv), sl⟩ : Obj) u)
/-- its names -/
def ngN (ps : List Str) (F : NG) : List Str := slotsOf ps F.scope (match F.body with | .expr e => cnE 100 e | .stmts b => cnSs 100 b)
def ngC (gl : List (Str × Gk)) (ps : List Str) (F : NG) : Cc := { N := ngN ps F, sc := F.scope, gl := gl }
/-- the inner function is what the compiler makes of it -/
structure Mt (gl : List (Str × Gk)) (F : NG) (l : Lm) (ps : List Str) (cs : List Nat) (b : List S) : Prop where
  pars : argNames F.params = some ps
  lm : l = .mk ps.length (ngN ps F).length cs b
  body : match F.body with
    | .expr e => ∃ n x, cE n (ngC gl ps F) e = some x ∧ b = [.ret x]
    | .stmts ss => ∃ n, cSs n (ngC gl ps F) ss = some b
  sc : NdefX.nscB (ngN ps F) ps (freesOf F.scope) F.scope = true
  ncs : cs.length = (freesOf F.scope).length
/-- its captured cells, locked while it is handed on: what they hold -/
def CelsF (H : Hp) (F : NG) : List Str → List V → Prop
  | [], [] => True
  | y :: fr, v :: vs => (∃ c oc u, F.cl.lookup y = some c ∧ H c = some (.frz oc (.own 0)) ∧ oc.data = .cell (some u) ∧ RelV v u) ∧ CelsF H F fr vs
  | _, _ => False
/-- the function object a is one of the closed over ones: its code, its cells -/
structure CloAt (gl : List (Str × Gk)) (H : Hp) (a : Addr) (l : Lm) (vs : List V) (F : NG) (ps : List Str) (cs : List Nat) (b : List S) : Prop where
  fz : FzG H a F
  co : H F.c = some (CodeO F.c F.qual)
  mt : Mt gl F l ps cs b
  cells : CelsF H F (freesOf F.scope) vs
  lock : ∀ y c, F.cl.lookup y = some c → ∃ oc v, H c = some (.frz oc (.own 0)) ∧ oc.data = .cell v
  inj : ∀ x y c, F.cl.lookup x = some c → F.cl.lookup y = some c → x = y
/-- c is a cell of the function object a -/
def Cel (H : Hp) (a c : Addr) : Prop := ∃ (od : Obj) (u : HO) (fd : FuncData) (y : Str), H a = some (.frz od u) ∧ od.data = .func fd ∧ fd.closure.lookup y = some c
/-- an iterator at its start, over a list (or else a tuple) -/
def ItAt (h : Heap) (it b : Addr) (k : Bool) : Prop := match k with
  | true => h.IsListIter it b 0
  | false => h.IsTupleIter it b 0
/-- a zip's five objects, not gone through yet -/
structure ZipAt (H : Hp) (N b : Addr) (kb : Bool) (c : Addr) (kc : Bool) (φ0 φ1 φ2 φ3 φ4 : Heap → Prop) : Prop where
  e0 : H N = some (.ext φ0)
  e1 : H (N + 1) = some (.ext φ1)
  e2 : H (N + 2) = some (.ext φ2)
  e3 : H (N + 3) = some (.ext φ3)
  e4 : H (N + 4) = some (.ext φ4)
  a0 : ∀ h, φ0 h → ItAt h N b kb
  a1 : ∀ h, φ1 h → ItAt h (N + 1) c kc
  a2 : ∀ h, φ2 h → IsPair h (N + 2) (.ref N) (.ref (N + 1))
  a3 : ∀ h, φ3 h → IsPair h (N + 3) .none .none
  a4 : ∀ h, φ4 h → IsZip h (N + 4) (N + 2) (N + 3) .none
/-- a written dict of texts -/
def WdAt (K : PySem.W.Frag) (w : World) (a : Addr) (es : List (Str × V)) : Prop := ∃ ar n, KDict K w a ar n ∧ ar.toList.length ≤ 1000 ∧ Paired (fun (p : Str × V) (e : DictEntry) => (∃ t, e.key = .str p.1 t)) es ar.toList ∧
  ∀ z, match es.find? (fun p => p.1 == z) with
    | some p => ∃ u, PySem.W.nsIn K a z = some (some u) ∧ RelV p.2 u
    | none => PySem.W.nsIn K a z = some none
/-- what is given of the text: the program, the world, the written part, the inner program, the places of defs and classes, the written dicts, the tables of code objects -/
structure Gd where
  P : Program
  w : World
  K : PySem.W.Frag
  mg : Str → Option Value
  base : Heap
  p : Pg
  F : Nat → Addr
  C : Nat → Addr
  gl : List (Str × Gk)
  con : List Addr
  Ts : List NTab
abbrev Gd.T (G : Gd) (q : Addr) : Prop := ∃ p ∈ G.Ts, p.1 = q
abbrev Gd.Tab (G : Gd) (H : Hp) : Prop := TabsN G.Ts H

def VW (G : Gd) (ren : List Addr) (v : V) : W → Prop
  | .non => v = .non
  | .bl b => v = .bl b
  | .int i => v = .int i
  | .str s => v = .str s
  | .ref n => ∃ a, ren[n]? = some a ∧ v = .ref a
  | .fn i => v = .ref (G.F i)
  | .pend _ => False
  | .zipv _ => False
abbrev VWs (G : Gd) (ren : List Addr) : List V → List W → Prop := Paired (VW G ren)
def Le (r r' : List Addr) : Prop := ∃ t, r' = r ++ t
theorem Le.refl (r : List Addr) : Le r r := ⟨[], by simp⟩
theorem Le.trans {a b c : List Addr} (h : Le a b) (k : Le b c) : Le a c := by
  obtain ⟨t, rfl⟩ := h
  obtain ⟨u, rfl⟩ := k
  exact ⟨t ++ u, by rw [List.append_assoc]⟩
theorem Le.get {r r' : List Addr} (h : Le r r') {n : Nat} {a : Addr} (e : r[n]? = some a) : r'[n]? = some a := by
  obtain ⟨t, rfl⟩ := h
  rw [List.getElem?_append_left (List.getElem?_eq_some_iff.mp e).1]
  exact e
theorem Le.push (r : List Addr) (a : Addr) : Le r (r ++ [a]) := ⟨[a], rfl⟩
theorem VW.mono {G : Gd} {r r' : List Addr} (h : Le r r') {v : V} : ∀ {w : W}, VW G r v w → VW G r' v w
  | .non, e => e
  | .bl _, e => e
  | .int _, e => e
  | .str _, e => e
  | .ref n, ⟨a, e, q⟩ => ⟨a, h.get e, q⟩
  | .fn _, e => e
  | .pend _, e => e.elim
  | .zipv _, e => e.elim
theorem VWs.mono {G : Gd} {r r' : List Addr} (h : Le r r') : ∀ {vs : List V} {ws : List W}, VWs G r vs ws → VWs G r' vs ws
  | _, _, .nil => .nil
  | _, _, .cons a t => .cons (a.mono h) (VWs.mono h t)
theorem VW.clean {G : Gd} {r : List Addr} {v : V} {w : W} (h : VW G r v w) : clean w = true := by
  cases w <;> first | rfl | exact h.elim

section
variable {α β : Type} {R : α → β → Prop}
theorem pair_len : ∀ {xs : List α} {ys : List β}, Paired R xs ys → xs.length = ys.length
  | _, _, .nil => rfl
  | _, _, .cons _ t => congrArg (· + 1) (pair_len t)
theorem pair_get : ∀ {xs : List α} {ys : List β} {i : Nat} {y : β}, Paired R xs ys → ys[i]? = some y → ∃ x, xs[i]? = some x ∧ R x y
  | _, _, _, _, .nil, e => by simp at e
  | _, _, 0, _, .cons r _, e => by simp at e; subst e; exact ⟨_, rfl, r⟩
  | _, _, i + 1, y, .cons r t, e => by
    obtain ⟨x, h1, h2⟩ := pair_get (i := i) (y := y) t (by simpa using e)
    exact ⟨x, by simpa using h1, h2⟩
theorem pair_getL : ∀ {xs : List α} {ys : List β} {i : Nat} {x : α}, Paired R xs ys → xs[i]? = some x → ∃ y, ys[i]? = some y ∧ R x y
  | _, _, _, _, .nil, e => by simp at e
  | _, _, 0, _, .cons r _, e => by simp at e; subst e; exact ⟨_, rfl, r⟩
  | _, _, i + 1, x, .cons r t, e => by
    obtain ⟨y, h1, h2⟩ := pair_getL (i := i) (x := x) t (by simpa using e)
    exact ⟨y, by simpa using h1, h2⟩
theorem pair_none {xs : List α} {ys : List β} {i : Nat} (r : Paired R xs ys) (e : ys[i]? = none) : xs[i]? = none := by
  have h1 := pair_len r
  have h2 : ys.length ≤ i := List.getElem?_eq_none_iff.mp e
  exact List.getElem?_eq_none_iff.mpr (by omega)
theorem pair_app : ∀ {xs xs' : List α} {ys ys' : List β}, Paired R xs ys → Paired R xs' ys' → Paired R (xs ++ xs') (ys ++ ys')
  | _, _, _, _, .nil, s => s
  | _, _, _, _, .cons r t, s => .cons r (pair_app t s)
theorem pair_take : ∀ {xs : List α} {ys : List β} (n : Nat), Paired R xs ys → Paired R (xs.take n) (ys.take n)
  | _, _, 0, _ => .nil
  | _, _, _ + 1, .nil => .nil
  | _, _, n + 1, .cons r t => .cons r (pair_take n t)
theorem pair_drop : ∀ {xs : List α} {ys : List β} (n : Nat), Paired R xs ys → Paired R (xs.drop n) (ys.drop n)
  | _, _, 0, r => r
  | _, _, _ + 1, .nil => .nil
  | _, _, n + 1, .cons r t => pair_drop n t
theorem pair_set {x : α} {y : β} (r : R x y) : ∀ {xs : List α} {ys : List β} (i : Nat), Paired R xs ys → Paired R (xs.set i x) (ys.set i y)
  | _, _, _, .nil => .nil
  | _, _, 0, .cons _ t => .cons r t
  | _, _, i + 1, .cons q t => .cons q (pair_set r i t)
theorem pair_erase : ∀ {xs : List α} {ys : List β} (i : Nat), Paired R xs ys → Paired R (xs.eraseIdx i) (ys.eraseIdx i)
  | _, _, _, .nil => .nil
  | _, _, 0, .cons _ t => t
  | _, _, i + 1, .cons q t => .cons q (pair_erase i t)
theorem pair_dropLast : ∀ {xs : List α} {ys : List β}, Paired R xs ys → Paired R xs.dropLast ys.dropLast
  | _, _, .nil => .nil
  | _, _, .cons _ .nil => .nil
  | _, _, .cons q (.cons r t) => .cons q (pair_dropLast (.cons r t))
theorem pair_rep {xs : List α} {ys : List β} (h : Paired R xs ys) : ∀ k : Nat, Paired R (List.replicate k xs).flatten (List.replicate k ys).flatten
  | 0 => .nil
  | k + 1 => by
    rw [List.replicate_succ, List.replicate_succ, List.flatten_cons, List.flatten_cons]
    exact pair_app h (pair_rep h k)
theorem pair_nil {xs : List α} (h : Paired R xs []) : xs = [] := by cases h; rfl
theorem pair_mono {R' : α → β → Prop} (m : ∀ a b, R a b → R' a b) : ∀ {xs : List α} {ys : List β}, Paired R xs ys → Paired R' xs ys
  | _, _, .nil => .nil
  | _, _, .cons r t => .cons (m _ _ r) (pair_mono m t)
end

/-- the entries of a dict, the fields of an instance -/
abbrev KVW (G : Gd) (ren : List Addr) : List (Key × V) → List (Key × W) → Prop := Paired fun p q => p.1 = q.1 ∧ VW G ren p.2 q.2
abbrev FVW (G : Gd) (ren : List Addr) : List (Str × V) → List (Str × W) → Prop := Paired fun p q => p.1 = q.1 ∧ VW G ren p.2 q.2
/-- the layer's object at a is the virtual one -/
def OR (G : Gd) (ren : List Addr) (H : Hp) (a : Addr) : O → Prop
  | .lst ws => ∃ vs, H a = some (.lst vs) ∧ VWs G ren vs ws
  | .tup ws => ∃ vs, SqT G.K H a vs ∧ VWs G ren vs ws
  | .rls ws => ∃ vs, ((∃ o, H a = some (.frz o (.lst vs))) ∨ (∀ H', SqL G.K H' a vs)) ∧ VWs G ren vs ws
  | .dct kvs => ∃ es, H a = some (.dK es) ∧ KVW G ren es kvs ∧ (kvs.map (·.1)).Nodup
  | .ins c fs => ∃ dx es, H a = some (.ins (G.C c) dx es) ∧ FVW G ren es fs
  | .wdc kvs => ∃ es, WdAt G.K G.w a es ∧ FVW G ren es kvs
  | .clo l cs => ∃ vs F ps c b, CloAt G.gl H a l vs F ps c b ∧ VWs G ren vs cs
  | .dead => True

/-- what may change in place -/
def mutO : O → Bool
  | .lst _ => true
  | .dct _ => true
  | .ins .. => true
  | _ => false
def Mu (ren : List Addr) (hv : Hv) (a : Addr) : Prop := ∃ n o, ren[n]? = some a ∧ hv.get n = some o ∧ mutO o = true
def isClo : O → Bool
  | .clo .. => true
  | _ => false
/-- the layer's heap stands for the virtual one -/
structure Rel (G : Gd) (ren : List Addr) (hv : Hv) (H : Hp) : Prop where
  len : ren.length = hv.n
  obj : ∀ n o a, hv.get n = some o → ren[n]? = some a → OR G ren H a o
  inj : ∀ i j a o o', ren[i]? = some a → ren[j]? = some a → hv.get i = some o → hv.get j = some o' → mutO o = true → mutO o' = true → i = j
  cinj : ∀ i j a b c o o', hv.get i = some o → hv.get j = some o' → isClo o = true → isClo o' = true → ren[i]? = some a → ren[j]? = some b → Cel H a c → Cel H b c → i = j
  zip : ∀ m x y, hv.z = some (m, x, y) → ∃ N b c φ0 φ1 φ2 φ3 φ4, ren[m]? = some (N + 4) ∧ VW G ren (.ref b) x.1 ∧ VW G ren (.ref c) y.1 ∧ ZipAt H N b x.2 c y.2 φ0 φ1 φ2 φ3 φ4
  tabs : G.Tab H
  pre : Le G.con ren
/-- an object that is kept: not one of a zip's -/
def Kpt (q : Addr) (o : HO) : Prop := ∀ φ, o = .ext φ → ∃ s, o = CodeO q s
/-- what a step of the machine may have done -/
structure Step (G : Gd) (r : List Addr) (h : Hv) (H : Hp) (r' : List Addr) (h' : Hv) (H' : Hp) : Prop where
  le : Le r r'
  keep : ∀ q o, H q = some o → Kpt q o → ¬ Mu r h q → ¬ G.T q → H' q = some o
  fresh : ∀ q, Mu r' h' q → Mu r h q ∨ H q = none ∨ ∃ o, H q = some o ∧ ¬ Kpt q o
  tab : ∀ q, G.T q → (∃ o, H q = some o ∧ Kpt q o) → ∃ o, H' q = some o ∧ Kpt q o
theorem Step.refl (G : Gd) (r : List Addr) (h : Hv) (H : Hp) : Step G r h H r h H := ⟨.refl r, fun _ _ e _ _ _ => e, fun _ m => .inl m, fun _ _ e => e⟩
theorem Step.trans {G : Gd} {r r1 r2 : List Addr} {h h1 h2 : Hv} {H H1 H2 : Hp} (a : Step G r h H r1 h1 H1) (b : Step G r1 h1 H1 r2 h2 H2) : Step G r h H r2 h2 H2 where
  le := a.le.trans b.le
  keep := fun q o e kp m t => b.keep q o (a.keep q o e kp m t) kp (fun m1 => by
    rcases a.fresh q m1 with z | z | ⟨o', z, nk⟩
    · exact m z
    · rw [z] at e; cases e
    · rw [e] at z; cases z; exact nk kp) t
  fresh := fun q m => by
    have main : (∀ o, H q = some o → Kpt q o → H1 q = some o ∨ ∃ o', H1 q = some o' ∧ Kpt q o') → (∀ o, H1 q = some o → ¬ Kpt q o) → H q = none ∨ ∃ o, H q = some o ∧ ¬ Kpt q o := fun k n => by
      cases e : H q with
      | none => exact .inl rfl
      | some o =>
        refine .inr ⟨o, rfl, fun kp => ?_⟩
        rcases k o e kp with z | ⟨o', z, z2⟩
        · exact n o z kp
        · exact n o' z z2
    have kk : ¬ Mu r h q → ∀ o, H q = some o → Kpt q o → H1 q = some o ∨ ∃ o', H1 q = some o' ∧ Kpt q o' := fun mu o e kp => by
      refine Classical.byCases (fun t : G.T q => .inr (a.tab q t ⟨o, e, kp⟩)) fun t => .inl (a.keep q o e kp mu t)
    rcases b.fresh q m with m1 | z | ⟨o, z, nk⟩
    · exact a.fresh q m1
    · exact Classical.byCases (fun mu : Mu r h q => .inl mu) fun mu => .inr (main (kk mu) fun o e => by rw [z] at e; cases e)
    · exact Classical.byCases (fun mu : Mu r h q => .inl mu) fun mu => .inr (main (kk mu) fun o' e kp => by rw [z] at e; cases e; exact nk kp)
  tab := fun q t e => b.tab q t (a.tab q t e)

/-! ### what is wanted behind a run -/
section
variable {α β : Type}
def PostG (G : Gd) (R : List Addr → Hp → β → α → Prop) (E : XK) (r : List Addr) (h : Hv) (H : Hp) (Q : β → Hp → Prop) : Res α → Prop
  | .ok a h' => ∀ (b : β) (H' : Hp) (r' : List Addr), Rel G r' h' H' → Step G r h H r' h' H' → R r' H' b a → Q b H'
  | .ex c _ h' => ∀ (d : Addr) (H' : Hp) (r' : List Addr), Rel G r' h' H' → Step G r h H r' h' H' → E (.ref (G.C c)) (some d) H'
  | .no => False
theorem PostG.rebase {G : Gd} {R : List Addr → Hp → β → α → Prop} {E : XK} {r r1 : List Addr} {h h1 : Hv} {H H1 : Hp} {Q : β → Hp → Prop} (s : Step G r h H r1 h1 H1) : ∀ {x : Res α}, PostG G R E r h H Q x → PostG G R E r1 h1 H1 Q x
  | .ok _ _, p => fun b H' r' rel st q => p b H' r' rel (s.trans st) q
  | .ex _ _ _, p => fun d H' r' rel st => p d H' r' rel (s.trans st)
  | .no, p => p
theorem PostG.imp {G : Gd} {R : List Addr → Hp → β → α → Prop} {E : XK} {r : List Addr} {h : Hv} {H : Hp} {Q Q' : β → Hp → Prop} (f : ∀ b H', Q b H' → Q' b H') : ∀ {x : Res α}, PostG G R E r h H Q x → PostG G R E r h H Q' x
  | .ok _ _, p => fun b H' r' rel st q => f _ _ (p b H' r' rel st q)
  | .ex _ _ _, p => p
  | .no, p => p
/-- one run behind another -/
theorem PostG.bind {γ δ : Type} {G : Gd} {R : List Addr → Hp → β → α → Prop} {R' : List Addr → Hp → δ → γ → Prop} {E : XK} {r : List Addr} {h : Hv} {H : Hp} {Q : δ → Hp → Prop} {f : α → Hv → Res γ} :
    ∀ {x : Res α}, PostG G R' E r h H Q (x.bind f) →
      PostG G R E r h H (fun b H1 => ∃ r1 h1 a, Rel G r1 h1 H1 ∧ Step G r h H r1 h1 H1 ∧ R r1 H1 b a ∧ PostG G R' E r1 h1 H1 Q (f a h1)) x
  | .ok a h', p => fun b H' r' rel st q => ⟨r', h', a, rel, st, q, PostG.rebase st p⟩
  | .ex _ _ _, p => p
  | .no, p => p
theorem PostG.ok {G : Gd} {R : List Addr → Hp → β → α → Prop} {E : XK} {r : List Addr} {h : Hv} {H : Hp} {Q : β → Hp → Prop} {a : α} {b : β} (p : PostG G R E r h H Q (.ok a h)) (rel : Rel G r h H) (q : R r H b a) : Q b H := p b H r rel (.refl ..) q
end
abbrev RVal (G : Gd) : List Addr → Hp → V → W → Prop := fun r _ v w => VW G r v w
abbrev RVals (G : Gd) : List Addr → Hp → List V → List W → Prop := fun r _ vs ws => VWs G r vs ws
abbrev RId {α : Type} : List Addr → Hp → α → α → Prop := fun _ _ a b => a = b

/-! ### objects, steps -/
theorem OR.mono {G : Gd} {r r' : List Addr} {H : Hp} {a : Addr} (l : Le r r') : ∀ {o : O}, OR G r H a o → OR G r' H a o
  | .lst _, ⟨vs, e, q⟩ => ⟨vs, e, q.mono l⟩
  | .tup _, ⟨vs, e, q⟩ => ⟨vs, e, q.mono l⟩
  | .rls _, ⟨vs, e, q⟩ => ⟨vs, e, q.mono l⟩
  | .dct _, ⟨es, e, q, n⟩ => ⟨es, e, pair_mono (fun _ _ x => ⟨x.1, x.2.mono l⟩) q, n⟩
  | .ins _ _, ⟨dx, es, e, q⟩ => ⟨dx, es, e, pair_mono (fun _ _ x => ⟨x.1, x.2.mono l⟩) q⟩
  | .wdc _, ⟨es, e, q⟩ => ⟨es, e, pair_mono (fun _ _ x => ⟨x.1, x.2.mono l⟩) q⟩
  | .clo _ _, ⟨vs, F, ps, c, b, e, q⟩ => ⟨vs, F, ps, c, b, e, q.mono l⟩
  | .dead, _ => trivial
/-- what stands at an address that may be written -/
def muH : HO → Bool
  | .lst _ => true
  | .dK _ => true
  | .ins .. => true
  | _ => false
/-- what a local function and the tables need of a change -/
structure Kp (H H' : Hp) : Prop where
  frz : ∀ q o u, H q = some (.frz o u) → H' q = some (.frz o u)
  code : ∀ q s, H q = some (CodeO q s) → H' q = some (CodeO q s)
theorem Kp.trans {H H1 H2 : Hp} (a : Kp H H1) (b : Kp H1 H2) : Kp H H2 := ⟨fun q o u e => b.frz q o u (a.frz q o u e), fun q s e => b.code q s (a.code q s e)⟩
theorem Kp.of {H H' : Hp} (k : ∀ q o, H q = some o → muH o = false → H' q = some o) : Kp H H' := ⟨fun q o u e => k q _ e rfl, fun q s e => k q _ e rfl⟩
theorem FzG.kp {H H' : Hp} {f : Addr} {F : NG} (k : Kp H H') (h : FzG H f F) : FzG H' f F := let ⟨u, dd, sl, doc, pm, ctv, e⟩ := h; ⟨u, dd, sl, doc, pm, ctv, k.frz _ _ _ e⟩
theorem CelsF.kp {H H' : Hp} {F : NG} (k : Kp H H') : ∀ {cs : List Str} {vs : List V}, CelsF H F cs vs → CelsF H' F cs vs
  | [], [], _ => trivial
  | _ :: _, _ :: _, ⟨⟨c, oc, u, e2, e3, e4, e5⟩, t⟩ => ⟨⟨c, oc, u, e2, k.frz _ _ _ e3, e4, e5⟩, CelsF.kp k t⟩
  | [], _ :: _, h => h.elim
  | _ :: _, [], h => h.elim
theorem CloAt.kp {gl : List (Str × Gk)} {H H' : Hp} {a : Addr} {l : Lm} {vs : List V} {F : NG} {ps : List Str} {cs : List Nat} {b : List S} (k : Kp H H') (h : CloAt gl H a l vs F ps cs b) : CloAt gl H' a l vs F ps cs b where
  fz := h.fz.kp k
  co := k.code _ _ h.co
  mt := h.mt
  cells := h.cells.kp k
  lock := fun y c e => let ⟨oc, v, e1, e2⟩ := h.lock y c e; ⟨oc, v, k.frz _ _ _ e1, e2⟩
  inj := h.inj
theorem TabsN.keeps {T : List NTab} {H H' : Hp} (h : TabsN T H) (k : Kp H H') (kt : ∀ q ps, H q = some (.tbl ps) → H' q = some (.tbl ps)) : TabsN T H' := fun p hp => by
  obtain ⟨ps, h1, h2, h3⟩ := (show TabN H p.1 p.2 from h p hp)
  refine ⟨ps, kt _ _ h1, h2, fun pos cv hc => ?_⟩
  obtain ⟨c, e1, e2⟩ := h3 pos cv hc
  exact ⟨c, e1, k.code _ _ e2⟩
theorem ZipAt.keeps {H H' : Hp} {N b c : Addr} {kb kc : Bool} {φ0 φ1 φ2 φ3 φ4 : Heap → Prop} (k : ∀ q φ, H q = some (.ext φ) → H' q = some (.ext φ)) (z : ZipAt H N b kb c kc φ0 φ1 φ2 φ3 φ4) : ZipAt H' N b kb c kc φ0 φ1 φ2 φ3 φ4 :=
  { z with e0 := k _ _ z.e0, e1 := k _ _ z.e1, e2 := k _ _ z.e2, e3 := k _ _ z.e3, e4 := k _ _ z.e4 }
theorem SqT.kp {K : PySem.W.Frag} {H H' : Hp} {a : Addr} {vs : List V} (h : SqT K H a vs) (k : ∀ q o, H q = some o → muH o = false → H' q = some o) : SqT K H' a vs := by
  rcases h with (h | ⟨o, h⟩) | h
  · exact .inl (.inl (k _ _ h rfl))
  · exact .inl (.inr ⟨o, k _ _ h rfl⟩)
  · exact .inr h
/-- a cell of a function object that is handed on is locked -/
theorem CloAt.cel {gl : List (Str × Gk)} {H : Hp} {a : Addr} {l : Lm} {vs : List V} {F : NG} {ps : List Str} {cs : List Nat} {b : List S} (h : CloAt gl H a l vs F ps cs b) {c : Addr} (z : Cel H a c) : ∃ u, H c = some u := by
  obtain ⟨u, dd, sl, doc, pm, ctv, e⟩ := h.fz
  obtain ⟨od, u', fd, y, e2, e3, e4⟩ := z
  rw [e] at e2
  cases e2
  cases e3
  obtain ⟨oc, v, q, _⟩ := h.lock y c e4
  exact ⟨_, q⟩
theorem CloAt.back {gl : List (Str × Gk)} {H H' : Hp} {a : Addr} {l : Lm} {vs : List V} {F : NG} {ps : List Str} {cs : List Nat} {b : List S} (h : CloAt gl H a l vs F ps cs b) (k : ∀ o u, H a = some (.frz o u) → H' a = some (.frz o u)) {c : Addr} (z : Cel H' a c) : Cel H a c := by
  obtain ⟨u, dd, sl, doc, pm, ctv, e⟩ := h.fz
  obtain ⟨od, u', fd, y, e2, e3, e4⟩ := z
  rw [k _ _ e] at e2
  cases e2
  exact ⟨_, _, _, y, e, e3, e4⟩

section
variable {G : Gd} {r : List Addr} {h : Hv} {H H' : Hp}
/-- an object where nothing written has changed, itself neither -/
theorem OR.stay {b : Addr} (kk : ∀ q o, H q = some o → muH o = false → H' q = some o) : ∀ {o : O}, (mutO o = true → H' b = H b) → OR G r H b o → OR G r H' b o := by
  intro o m q
  cases o with
  | lst ws => obtain ⟨vs, e, z⟩ := q; exact ⟨vs, by rw [m rfl]; exact e, z⟩
  | tup ws => obtain ⟨vs, e, z⟩ := q; exact ⟨vs, SqT.kp e kk, z⟩
  | rls ws =>
    obtain ⟨vs, e, z⟩ := q
    refine ⟨vs, ?_, z⟩
    rcases e with ⟨o, e⟩ | e
    · exact .inl ⟨o, kk _ _ e rfl⟩
    · exact .inr e
  | dct kvs => obtain ⟨es, e, z⟩ := q; exact ⟨es, by rw [m rfl]; exact e, z⟩
  | ins c fs => obtain ⟨dx, es, e, z⟩ := q; exact ⟨dx, es, by rw [m rfl]; exact e, z⟩
  | wdc kvs => exact q
  | clo l cs => obtain ⟨vs, F, ps, c, bb, e, z⟩ := q; exact ⟨vs, F, ps, c, bb, e.kp (.of kk), z⟩
  | dead => trivial
/-- a changeable object is tracked -/
theorem OR.there {a : Addr} : ∀ {o : O}, mutO o = true → OR G r H a o → ∃ x, H a = some x ∧ muH x = true
  | .lst _, _, ⟨_, e, _⟩ => ⟨_, e, rfl⟩
  | .dct _, _, ⟨_, e, _⟩ => ⟨_, e, rfl⟩
  | .ins _ _, _, ⟨_, _, e, _⟩ => ⟨_, e, rfl⟩
  | .tup _, m, _ => nomatch m
  | .rls _, m, _ => nomatch m
  | .wdc _, m, _ => nomatch m
  | .clo _ _, m, _ => nomatch m
  | .dead, m, _ => nomatch m
theorem Mu.there (rel : Rel G r h H) {q : Addr} (m : Mu r h q) : ∃ x, H q = some x ∧ muH x = true := let ⟨n, o, e, g, mo⟩ := m; OR.there mo (rel.obj n o q g e)
theorem Mu.not (rel : Rel G r h H) {q : Addr} {x : HO} (e : H q = some x) (m : muH x = false) : ¬ Mu r h q := fun z => by
  obtain ⟨y, e2, m2⟩ := Mu.there rel z
  rw [e] at e2; cases e2; rw [m] at m2; cases m2
theorem T.tbl (rel : Rel G r h H) {q : Addr} (t : G.T q) : ∃ ps, H q = some (.tbl ps) := by
  obtain ⟨p, hp, rfl⟩ := t
  obtain ⟨ps, e, _⟩ := (show TabN H p.1 p.2 from rel.tabs p hp)
  exact ⟨ps, e⟩
theorem T.not (rel : Rel G r h H) {q : Addr} {x : HO} (e : H q = some x) (m : ∀ ps, x ≠ .tbl ps) : ¬ G.T q := fun t => by
  obtain ⟨ps, z⟩ := T.tbl rel t
  rw [e] at z; cases z; exact m ps rfl
theorem Rel.at_ (rel : Rel G r h H) {n : Nat} {o : O} (e : h.get n = some o) : ∃ a, r[n]? = some a ∧ OR G r H a o := by
  have hn : n < r.length := by rw [rel.len]; exact Hv.get_lt e
  exact ⟨r[n], by simp [hn], rel.obj n o _ e (by simp [hn])⟩
theorem get_new (rel : Rel G r h H) (p : Addr) : (r ++ [p])[h.n]? = some p := by
  rw [← rel.len, List.getElem?_append_right (Nat.le_refl _)]
  simp
theorem get_old (rel : Rel G r h H) {p : Addr} {n : Nat} {a : Addr} {o : O} (e : h.get n = some o) (q : (r ++ [p])[n]? = some a) : r[n]? = some a := by
  rwa [List.getElem?_append_left (by rw [rel.len]; exact Hv.get_lt e)] at q
theorem OR.clo {a : Addr} {o : O} (c : isClo o = true) (w : OR G r H a o) : ∃ l vs F ps cs b, CloAt G.gl H a l vs F ps cs b := by
  cases o with
  | clo l ws => obtain ⟨vs, F, ps, cs, b, z, _⟩ := w; exact ⟨_, _, _, _, _, _, z⟩
  | _ => exact nomatch c
/-- a virtual object more, for a heap that has kept what stands -/
theorem Rel.pushG (rel : Rel G r h H) {p : Addr} {o : O} (kk : ∀ q o, H q = some o → muH o = false → H' q = some o) (km : ∀ q o, H q = some o → muH o = true → H' q = some o) (hp : mutO o = true → ¬ Mu r h p) (tb : G.Tab H')
    (cl : isClo o = true → ∀ c, Cel H' p c → H c = none) (new : OR G (r ++ [p]) H' p o) : Rel G (r ++ [p]) (h.push o) H' where
  len := by rw [List.length_append, rel.len]; rfl
  obj := fun n o' a e q => by
    rw [Hv.get_push] at e
    by_cases hn : n = h.n
    · rw [if_pos hn] at e
      cases e
      rw [hn, get_new rel] at q
      cases q
      exact new
    · rw [if_neg hn] at e
      have w := rel.obj n o' a e (get_old rel e q)
      refine OR.mono (Le.push r p) (OR.stay kk (fun m => ?_) w)
      obtain ⟨y, hy, my⟩ := OR.there m w
      rw [hy, km _ _ hy my]
  inj := fun i j a o1 o2 e1 e2 q1 q2 m1 m2 => by
    rw [Hv.get_push] at q1 q2
    have old : ∀ (k : Nat) (o' : O), k ≠ h.n → h.get k = some o' → (r ++ [p])[k]? = some a → mutO o' = true → mutO o = true → a ≠ p := fun k o' hk e q m mo z => by
      exact hp mo ⟨k, o', by rw [← z]; exact get_old rel e q, e, m⟩
    have newp : ∀ k, k = h.n → (r ++ [p])[k]? = some a → a = p := fun k hk q => by
      rw [hk, get_new rel] at q
      cases q; rfl
    by_cases hi : i = h.n
    · by_cases hj : j = h.n
      · rw [hi, hj]
      · rw [if_neg hj] at q2
        rw [if_pos hi] at q1
        cases q1
        exact absurd (newp i hi e1) (old j o2 hj q2 e2 m2 m1)
    · rw [if_neg hi] at q1
      by_cases hj : j = h.n
      · rw [if_pos hj] at q2
        cases q2
        exact absurd (newp j hj e2) (old i o1 hi q1 e1 m1 m2)
      · rw [if_neg hj] at q2
        exact rel.inj i j a o1 o2 (get_old rel q1 e1) (get_old rel q2 e2) q1 q2 m1 m2
  cinj := fun i j a b c o1 o2 q1 q2 c1 c2 e1 e2 z1 z2 => by
    rw [Hv.get_push] at q1 q2
    have lk : ∀ (k : Nat) (ok : O) (x : Addr), h.get k = some ok → isClo ok = true → (r ++ [p])[k]? = some x → Cel H' x c → Cel H x c ∧ ∃ u, H c = some u := fun k ok x g cc e z => by
      obtain ⟨l, vs, F, ps, cs, bb, C⟩ := OR.clo cc (rel.obj k ok x g (get_old rel g e))
      have z' := C.back (fun o u e => kk _ _ e rfl) z
      exact ⟨z', C.cel z'⟩
    have nw : ∀ (k : Nat) (x : Addr), k = h.n → (r ++ [p])[k]? = some x → x = p := fun k x hk e => by
      rw [hk, get_new rel] at e
      cases e; rfl
    by_cases hi : i = h.n
    · by_cases hj : j = h.n
      · rw [hi, hj]
      · rw [if_neg hj] at q2
        rw [if_pos hi] at q1
        cases q1
        obtain ⟨_, u, hu⟩ := lk j o2 b q2 c2 e2 z2
        rw [nw i a hi e1] at z1
        rw [cl c1 c z1] at hu; cases hu
    · rw [if_neg hi] at q1
      obtain ⟨y1, u, hu⟩ := lk i o1 a q1 c1 e1 z1
      by_cases hj : j = h.n
      · rw [if_pos hj] at q2
        cases q2
        rw [nw j b hj e2] at z2
        rw [cl c2 c z2] at hu; cases hu
      · rw [if_neg hj] at q2
        exact rel.cinj i j a b c o1 o2 q1 q2 c1 c2 (get_old rel q1 e1) (get_old rel q2 e2) y1 (lk j o2 b q2 c2 e2 z2).1
  zip := fun m x y e => by
    obtain ⟨N, b, c, φ0, φ1, φ2, φ3, φ4, e1, e2, e3, z⟩ := rel.zip m x y e
    exact ⟨N, b, c, φ0, φ1, φ2, φ3, φ4, (Le.push r p).get e1, e2.mono (Le.push r p), e3.mono (Le.push r p), z.keeps fun q φ e => kk q _ e rfl⟩
  tabs := tb
  pre := rel.pre.trans (Le.push r p)
theorem Rel.kp_tabs (rel : Rel G r h H) (kk : ∀ q o, H q = some o → muH o = false → H' q = some o) : G.Tab H' := TabsN.keeps rel.tabs (.of kk) fun q ps e => kk q _ e rfl
/-- a new object -/
theorem Rel.push (rel : Rel G r h H) {p : Addr} {x : HO} {o : O} (hp : H p = none) (hc : isClo o = false) (new : OR G (r ++ [p]) (upd H p x) p o) : Rel G (r ++ [p]) (h.push o) (upd H p x) :=
  have k : ∀ q o, H q = some o → upd H p x q = some o := fun q o e => by rw [upd_ne (ne_of_none e hp)]; exact e
  rel.pushG (fun q o e _ => k q o e) (fun q o e _ => k q o e) (fun _ mu => by obtain ⟨x, hx, _⟩ := Mu.there rel mu; rw [hp] at hx; cases hx) (rel.kp_tabs fun q o e _ => k q o e) (fun z => by rw [hc] at z; cases z) new
theorem Step.push (rel : Rel G r h H) {p : Addr} {x : HO} {o : O} (hp : H p = none) : Step G r h H (r ++ [p]) (h.push o) (upd H p x) where
  le := Le.push r p
  keep := fun q o' e _ _ _ => by rw [upd_ne (ne_of_none e hp)]; exact e
  fresh := fun q ⟨n, o', e, q', m⟩ => by
    rw [Hv.get_push] at q'
    by_cases hn : n = h.n
    · rw [hn, get_new rel] at e
      cases e
      exact .inr (.inl hp)
    · rw [if_neg hn] at q'
      exact .inl ⟨n, o', get_old rel q' e, q', m⟩
  tab := fun q _ ⟨o', e, k⟩ => ⟨o', by rw [upd_ne (ne_of_none e hp)]; exact e, k⟩
/-- an object that the virtual heap doesn't know -/
theorem Rel.ext (rel : Rel G r h H) {p : Addr} {x : HO} (hp : H p = none) : Rel G r h (upd H p x) := by
  have k : ∀ q o, H q = some o → upd H p x q = some o := fun q o e => by rw [upd_ne (ne_of_none e hp)]; exact e
  exact {
    len := rel.len
    obj := fun n o a e q => by
      have w := rel.obj n o a e q
      refine OR.stay (fun q o e _ => k q o e) (fun m => ?_) w
      obtain ⟨y, hy, my⟩ := OR.there m w
      rw [hy, k _ _ hy]
    inj := rel.inj
    cinj := fun i j a b c o1 o2 q1 q2 c1 c2 e1 e2 z1 z2 => by
      have back : ∀ (n : Nat) (ok : O) (b : Addr), h.get n = some ok → isClo ok = true → r[n]? = some b → Cel (upd H p x) b c → Cel H b c := fun n ok b q ck e z => by
        obtain ⟨l, vs, F, ps, cs, bb, C⟩ := OR.clo ck (rel.obj n ok b q e)
        exact C.back (fun o u e => k _ _ e) z
      exact rel.cinj i j a b c o1 o2 q1 q2 c1 c2 e1 e2 (back i o1 a q1 c1 e1 z1) (back j o2 b q2 c2 e2 z2)
    zip := fun m x y e => by
      obtain ⟨N, b, c, φ0, φ1, φ2, φ3, φ4, e1, e2, e3, z⟩ := rel.zip m x y e
      exact ⟨N, b, c, φ0, φ1, φ2, φ3, φ4, e1, e2, e3, z.keeps fun q φ e => k q _ e⟩
    tabs := rel.kp_tabs fun q o e _ => k q o e
    pre := rel.pre }
theorem Step.ext (rel : Rel G r h H) {p : Addr} {x : HO} (hp : H p = none) : Step G r h H r h (upd H p x) where
  le := .refl r
  keep := fun q o e _ _ _ => by rw [upd_ne (ne_of_none e hp)]; exact e
  fresh := fun q m => .inl m
  tab := fun q _ ⟨o, e, kp⟩ => ⟨o, by rw [upd_ne (ne_of_none e hp)]; exact e, kp⟩
/-- an object changed in place -/
theorem Rel.set (rel : Rel G r h H) {n : Nat} {a : Addr} {x y : HO} {o o' : O} (e : h.get n = some o) (ea : r[n]? = some a) (m : mutO o = true) (hx : H a = some x) (mx : muH x = true) (hc : isClo o' = false) (new : OR G r (upd H a y) a o') : Rel G r (h.set n o') (upd H a y) := by
  have kk : ∀ q o, H q = some o → muH o = false → upd H a y q = some o := fun q o e mo => by
    rw [upd_ne]
    · exact e
    · rintro rfl
      rw [hx] at e; cases e
      rw [mx] at mo; cases mo
  exact {
    len := rel.len
    obj := fun k ok b ek q => by
      rw [Hv.get_set (Hv.get_lt e)] at ek
      by_cases hk : k = n
      · rw [if_pos hk] at ek
        cases ek
        rw [hk, ea] at q
        cases q
        exact new
      · rw [if_neg hk] at ek
        refine OR.stay kk (fun mk => upd_ne fun z => hk ?_) (rel.obj k ok b ek q)
        exact rel.inj k n b ok o q (by rw [z]; exact ea) ek e mk m
    inj := fun i j b o1 o2 e1 e2 q1 q2 m1 m2 => by
      rw [Hv.get_set (Hv.get_lt e)] at q1 q2
      have real : ∀ (k : Nat) (ok : O), (if k = n then some o' else h.get k) = some ok → mutO ok = true → ∃ oz, h.get k = some oz ∧ mutO oz = true := fun k ok q mk => by
        by_cases hk : k = n
        · rw [hk]; exact ⟨o, e, m⟩
        · rw [if_neg hk] at q; exact ⟨ok, q, mk⟩
      obtain ⟨z1, y1, w1⟩ := real i o1 q1 m1
      obtain ⟨z2, y2, w2⟩ := real j o2 q2 m2
      exact rel.inj i j b z1 z2 e1 e2 y1 y2 w1 w2
    cinj := fun i j b1 b2 c o1 o2 q1 q2 c1 c2 e1 e2 z1 z2 => by
      rw [Hv.get_set (Hv.get_lt e)] at q1 q2
      have real : ∀ (k : Nat) (ok : O) (b : Addr), (if k = n then some o' else h.get k) = some ok → isClo ok = true → r[k]? = some b → Cel (upd H a y) b c → h.get k = some ok ∧ Cel H b c := fun k ok b q ck e z => by
        by_cases hk : k = n
        · rw [if_pos hk] at q; cases q; rw [hc] at ck; cases ck
        · rw [if_neg hk] at q
          obtain ⟨l, vs, F, ps, cs, bb, C⟩ := OR.clo ck (rel.obj k ok b q e)
          exact ⟨q, C.back (fun o u e => kk _ _ e rfl) z⟩
      obtain ⟨y1, w1⟩ := real i o1 b1 q1 c1 e1 z1
      obtain ⟨y2, w2⟩ := real j o2 b2 q2 c2 e2 z2
      exact rel.cinj i j b1 b2 c o1 o2 y1 y2 c1 c2 e1 e2 w1 w2
    zip := fun m x y e => by
      obtain ⟨N, b, c, φ0, φ1, φ2, φ3, φ4, e1, e2, e3, z⟩ := rel.zip m x y e
      exact ⟨N, b, c, φ0, φ1, φ2, φ3, φ4, e1, e2, e3, z.keeps fun q φ e => kk q _ e rfl⟩
    tabs := rel.kp_tabs kk
    pre := rel.pre }
theorem Step.set (rel : Rel G r h H) {n : Nat} {a : Addr} {y : HO} {o o' : O} (e : h.get n = some o) (ea : r[n]? = some a) (m : mutO o = true) : Step G r h H r (h.set n o') (upd H a y) where
  le := .refl r
  keep := fun q o'' eq _ mu _ => by
    rw [upd_ne]
    · exact eq
    · rintro rfl
      exact mu ⟨n, o, ea, e, m⟩
  fresh := fun q ⟨k, o1, ek, qk, m1⟩ => by
    rw [Hv.get_set (Hv.get_lt e)] at qk
    by_cases hk : k = n
    · exact .inl ⟨n, o, by rw [← hk]; exact ek, e, m⟩
    · rw [if_neg hk] at qk
      exact .inl ⟨k, o1, ek, qk, m1⟩
  tab := fun q t ⟨o'', eq, k⟩ => by
    refine ⟨o'', ?_, k⟩
    rw [upd_ne]
    · exact eq
    · rintro rfl
      obtain ⟨x, hx, mx⟩ := Mu.there rel ⟨n, o, ea, e, m⟩
      obtain ⟨ps, z⟩ := T.tbl rel t
      rw [hx] at z; cases z; cases mx
/-- an object that the virtual heap doesn't know, changed -/
theorem Rel.free (rel : Rel G r h H) {a : Addr} {x y : HO} (hx : H a = some x) (mx : muH x = true) (nm : ¬ Mu r h a) : Rel G r h (upd H a y) := by
  have kk : ∀ q o, H q = some o → muH o = false → upd H a y q = some o := fun q o e mo => by
    rw [upd_ne]
    · exact e
    · rintro rfl
      rw [hx] at e; cases e
      rw [mx] at mo; cases mo
  exact {
    len := rel.len
    obj := fun n o b e q => OR.stay kk (fun m => upd_ne fun z => nm ⟨n, o, by rw [← z]; exact q, e, m⟩) (rel.obj n o b e q)
    inj := rel.inj
    cinj := fun i j a' b' c o1 o2 q1 q2 c1 c2 e1 e2 z1 z2 => by
      have back : ∀ (n : Nat) (ok : O) (b : Addr), h.get n = some ok → isClo ok = true → r[n]? = some b → Cel (upd H a y) b c → Cel H b c := fun n ok b q ck e z => by
        obtain ⟨l, vs, F, ps, cs, bb, C⟩ := OR.clo ck (rel.obj n ok b q e)
        exact C.back (fun o u e => kk _ _ e rfl) z
      exact rel.cinj i j a' b' c o1 o2 q1 q2 c1 c2 e1 e2 (back i o1 a' q1 c1 e1 z1) (back j o2 b' q2 c2 e2 z2)
    zip := fun m x y e => by
      obtain ⟨N, b, c, φ0, φ1, φ2, φ3, φ4, e1, e2, e3, z⟩ := rel.zip m x y e
      exact ⟨N, b, c, φ0, φ1, φ2, φ3, φ4, e1, e2, e3, z.keeps fun q φ e => kk q _ e rfl⟩
    tabs := rel.kp_tabs kk
    pre := rel.pre }
theorem Step.free {r0 : List Addr} {h0 : Hv} {H0 : Hp} (s : Step G r0 h0 H0 r h H) {a : Addr} {y : HO} (n : H0 a = none) : Step G r0 h0 H0 r h (upd H a y) where
  le := s.le
  keep := fun q o e kp m t => by rw [upd_ne (ne_of_none e n)]; exact s.keep q o e kp m t
  fresh := s.fresh
  tab := fun q t ⟨o, e, kp⟩ => by
    obtain ⟨o', e', kp'⟩ := s.tab q t ⟨o, e, kp⟩
    exact ⟨o', by rw [upd_ne (ne_of_none e n)]; exact e', kp'⟩
/-- .. taken up -/
theorem Rel.adopt (rel : Rel G r h H) {a : Addr} {o : O} (nm : ¬ Mu r h a) (hc : isClo o = false) (new : OR G (r ++ [a]) H a o) : Rel G (r ++ [a]) (h.push o) H :=
  rel.pushG (fun q o e _ => e) (fun q o e _ => e) (fun _ => nm) rel.tabs (fun z => by rw [hc] at z; cases z) new
theorem Step.adopt {r0 : List Addr} {h0 : Hv} {H0 : Hp} (s : Step G r0 h0 H0 r h H) (rel : Rel G r h H) {a : Addr} {o : O} (n : H0 a = none) : Step G r0 h0 H0 (r ++ [a]) (h.push o) H where
  le := s.le.trans (Le.push r a)
  keep := s.keep
  fresh := fun q ⟨k, o', e, q', m⟩ => by
    rw [Hv.get_push] at q'
    by_cases hk : k = h.n
    · rw [hk, get_new rel] at e
      cases e
      exact .inr (.inl n)
    · rw [if_neg hk] at q'
      exact s.fresh q ⟨k, o', get_old rel q' e, q', m⟩
  tab := s.tab
/-- what a step keeps for local functions -/
theorem Step.kp (rel : Rel G r h H) {r' : List Addr} {h' : Hv} (s : Step G r h H r' h' H') : Kp H H' where
  frz := fun q o u e => s.keep q _ e (fun φ z => nomatch z) (Mu.not rel e rfl) (T.not rel e fun ps z => nomatch z)
  code := fun q c e => s.keep q _ e (fun φ z => ⟨c, rfl⟩) (Mu.not rel e rfl) (T.not rel e codeO_ne)
end
end RP

set_option Elab.async false
set_option linter.all false
set_option maxRecDepth 100000
set_option maxHeartbeats 4000000
/-! RP5: readings by the machine; operators. -/
namespace RP
open PySem PySem.Spec PyProof.Rows L2

/-- a local function's value, a zip's: D tells which -/
abbrev DK := Hp → V → W → Prop
def DOk (D : DK) : Prop := ∀ (H H' : Hp) (v : V) (w : W), D H v w → Kp H H' → D H' v w
def VX (G : Gd) (D : DK) (r : List Addr) (H : Hp) (v : V) : W → Prop
  | .pend l => D H v (.pend l)
  | .zipv n => (∃ a, r[n]? = some a ∧ v = .ref a) ∧ D H v (.zipv n)
  | w => VW G r v w
theorem VX.of {G : Gd} {D : DK} {r : List Addr} {H : Hp} {v : V} {w : W} (h : VW G r v w) : VX G D r H v w := by
  cases w <;> first | exact h | exact h.elim
theorem VX.to {G : Gd} {D : DK} {r : List Addr} {H : Hp} {v : V} {w : W} (h : VX G D r H v w) (c : clean w = true) : VW G r v w := by
  cases w <;> first | exact h | exact nomatch c
structure EnvR (G : Gd) (D : DK) (r : List Addr) (H : Hp) (σ : L2.St) (env : Env) : Prop where
  len : σ.length = env.length
  val : ∀ (i : Nat) (w : W), env[i]? = some (some w) → ∃ v, σ[i]? = some (some v) ∧ VX G D r H v w
section
variable {G : Gd} {D : DK} {r r' : List Addr} {h h' : Hv} {H H' : Hp} {σ : L2.St} {env : Env}
theorem VX.kp (hD : DOk D) (l : Le r r') (k : Kp H H') {v : V} {w : W} (x : VX G D r H v w) : VX G D r' H' v w := by
  cases w with
  | pend l => exact hD H H' v _ x k
  | zipv n =>
    obtain ⟨⟨a, e, q⟩, d⟩ := x
    exact ⟨⟨a, l.get e, q⟩, hD H H' v _ d k⟩
  | _ => exact VX.of (VW.mono l (VX.to x rfl))
theorem VX.step (hD : DOk D) (rel : Rel G r h H) (s : Step G r h H r' h' H') {v : V} {w : W} (x : VX G D r H v w) : VX G D r' H' v w := x.kp hD s.le (s.kp rel)
theorem EnvR.step (hD : DOk D) (rel : Rel G r h H) (s : Step G r h H r' h' H') (x : EnvR G D r H σ env) : EnvR G D r' H' σ env :=
  ⟨x.len, fun i w e => let ⟨v, e1, e2⟩ := x.val i w e; ⟨v, e1, e2.step hD rel s⟩⟩
end

/-- the reading of a run -/
def tM {α β : Type} (G : Gd) (D : DK) (E : XK) (R : List Addr → Hp → β → α → Prop) (ev : Env → Hv → Res α) (σ : L2.St) (H : Hp) (Q : β → Hp → Prop) : Prop :=
  ∃ r h env, Rel G r h H ∧ EnvR G D r H σ env ∧ PostG G R E r h H Q (ev env h)
abbrev tE (G : Gd) (D : DK) (E : XK) (ev : Env → Hv → Res W) : TE := tM G D E (RVal G) ev
abbrev tEs (G : Gd) (D : DK) (E : XK) (ev : Env → Hv → Res (List W)) : TA := tM G D E (RVals G) ev
abbrev tB (G : Gd) (D : DK) (E : XK) (ev : Env → Hv → Res Bool) : TT := tM G D E RId ev
theorem PE.imp {X : Cx} {e : Expr} {t t' : TE} (h : PE X e t) (f : ∀ σ H Q, t' σ H Q → t σ H Q) : PE X e t' := ⟨fun pins s σ H Q I w => h.run pins s σ H Q I (f σ H Q w)⟩
theorem PT.imp {X : Cx} {e : Expr} {t t' : TT} (h : PT X e t) (f : ∀ σ H Q, t' σ H Q → t σ H Q) : PT X e t' := ⟨fun pins s σ H Q I w => h.run pins s σ H Q I (f σ H Q w)⟩
theorem PW.imp {X : Cx} {e : Expr} {t t' : TT} (h : PW X e t) (f : ∀ σ H Q, t' σ H Q → t σ H Q) : PW X e t' := ⟨fun wh pins s σ H Q I w => h.run wh pins s σ H Q I (f σ H Q w)⟩
theorem PA.imp {X : Cx} {es : List Expr} {t t' : TA} (h : PA X es t) (f : ∀ σ H Q, t' σ H Q → t σ H Q) : PA X es t' := ⟨fun pos pins s σ H Q I w => h.run pos pins s σ H Q I (f σ H Q w)⟩
theorem PS.imp {X : Cx} {st : Stmt} {t t' : TS} (h : PS X st t) (f : ∀ D σ H, t' D σ H → t D σ H) : PS X st t' := ⟨fun pins s σ H D I w => h.run pins s σ H D I (f D σ H w)⟩
theorem PSs.imp {X : Cx} {st : List Stmt} {t t' : TS} (h : PSs X st t) (f : ∀ D σ H, t' D σ H → t D σ H) : PSs X st t' := ⟨fun pins s σ H D I w => h.run pins s σ H D I (f D σ H w)⟩
theorem OpR.imp {X : Cx} {f : Value → Value → Sem Value} {r r' : R2} (h : OpR X f r) (k : ∀ x y H Q, r' x y H Q → r x y H Q) : OpR X f r' := fun pins s σ H x y v u Q I rx ry w => h pins s σ H x y v u Q I rx ry (k x y H Q w)
theorem UnR.imp {X : Cx} {f : Value → Sem Value} {r r' : V → Hp → VK → Prop} (h : UnR X f r) (k : ∀ x H Q, r' x H Q → r x H Q) : UnR X f r' := fun pins s σ H x v Q I rx w => h pins s σ H x v Q I rx (k x H Q w)
theorem IxR.imp {X : Cx} {r r' : R2} (h : IxR X r) (k : ∀ x y H Q, r' x y H Q → r x y H Q) : IxR X r' := fun va sl pins s σ H x y v u Q I rx ry w => h va sl pins s σ H x y v u Q I rx ry (k x y H Q w)
theorem CallR.imp {X : Cx} {f : Value} {r r' : List V → Hp → VK → Prop} (h : CallR X f r) (k : ∀ xs H Q, r' xs H Q → r xs H Q) : CallR X f r' := fun pins s σ H xs us Q I rx w => h pins s σ H xs us Q I rx (k xs H Q w)
section
variable {α β γ δ : Type} {G : Gd} {D : DK} {E : XK}
/-- first a run, then what hangs on its value -/
theorem tM.bind {R : List Addr → Hp → β → α → Prop} {R' : List Addr → Hp → δ → γ → Prop} (hD : DOk D) {ev : Env → Hv → Res α} {f : Env → α → Hv → Res γ} {σ : L2.St} {H : Hp} {Q : δ → Hp → Prop} (t : tM G D E R' (fun env h => (ev env h).bind (f env)) σ H Q) :
    tM G D E R ev σ H (fun b H1 => ∃ r1 h1 env a, Rel G r1 h1 H1 ∧ EnvR G D r1 H1 σ env ∧ R r1 H1 b a ∧ PostG G R' E r1 h1 H1 Q (f env a h1)) := by
  obtain ⟨r, h, env, rel, er, p⟩ := t
  exact ⟨r, h, env, rel, er, p.bind.imp fun b H1 ⟨r1, h1, a, rel1, st, q, p1⟩ => ⟨r1, h1, env, a, rel1, er.step hD rel st, q, p1⟩⟩
theorem tM.imp {R : List Addr → Hp → β → α → Prop} {ev : Env → Hv → Res α} {σ : L2.St} {H : Hp} {Q Q' : β → Hp → Prop} (t : tM G D E R ev σ H Q) (k : ∀ b H', Q b H' → Q' b H') : tM G D E R ev σ H Q' := by
  obtain ⟨r, h, env, rel, er, p⟩ := t
  exact ⟨r, h, env, rel, er, p.imp k⟩
theorem tM.no {R : List Addr → Hp → β → α → Prop} {σ : L2.St} {H : Hp} {Q : β → Hp → Prop} {P : Prop} (t : tM G D E R (fun _ _ => .no) σ H Q) : P := by
  obtain ⟨r, h, env, rel, er, p⟩ := t
  exact p.elim
end
/-- a sharper end -/
theorem PostG.map {α β : Type} {G : Gd} {R R' : List Addr → Hp → β → α → Prop} {E : XK} {r : List Addr} {h : Hv} {H : Hp} {Q : β → Hp → Prop} (f : ∀ r H b a, R' r H b a → R r H b a) : ∀ {x : Res α}, PostG G R E r h H Q x → PostG G R' E r h H Q x
  | .ok _ _, p => fun b H' r' rel st q => p b H' r' rel st (f _ _ _ _ q)
  | .ex _ _ _, p => p
  | .no, p => p
/-! ### statements, targets -/
inductive OutB where
  | nx (σ : L2.St) | rt (v : V) | bk (σ : L2.St) | ct (σ : L2.St)
def ROut (G : Gd) (D : DK) (r : List Addr) (H : Hp) : OutB → Out → Prop
  | .nx σ, .nx env => EnvR G D r H σ env
  | .rt v, .rt w => VW G r v w
  | .bk σ, .bk env => EnvR G D r H σ env
  | .ct σ, .ct env => EnvR G D r H σ env
  | _, _ => False
def endsOf (Dn : Ends) : OutB → Hp → Prop
  | .nx σ, H => Dn.nx σ H
  | .rt v, H => Dn.rt v H
  | .bk σ, H => Dn.bk σ H
  | .ct σ, H => Dn.ct σ H
abbrev tS (G : Gd) (D : DK) (E : XK) (ev : Env → Hv → Res Out) : TS := fun Dn σ H => tM G D E (ROut G D) ev σ H (endsOf Dn)
abbrev REnv (G : Gd) (D : DK) : List Addr → Hp → L2.St → Env → Prop := fun r H σ env => EnvR G D r H σ env
def tG (G : Gd) (D : DK) (E : XK) (ev : W → Env → Hv → Res Env) : TG := fun v σ H Q => ∃ r h env w, Rel G r h H ∧ EnvR G D r H σ env ∧ VX G D r H v w ∧ PostG G (REnv G D) E r h H Q (ev w env h)
def tGs (G : Gd) (D : DK) (E : XK) (ev : List W → Env → Hv → Res Env) : TGs := fun vs σ H Q => ∃ r h env ws, Rel G r h H ∧ EnvR G D r H σ env ∧ VWs G r vs ws ∧ PostG G (REnv G D) E r h H Q (ev ws env h)
end RP

set_option Elab.async false
set_option linter.all false
set_option maxRecDepth 100000
set_option maxHeartbeats 4000000
/-! RP6: operators by values. -/
namespace RP
open PySem PySem.Spec PyProof.Rows L2

section
variable {G : Gd} {E : XK} {r : List Addr} {h : Hv} {H : Hp} {Q : VK}
theorem post_new (rel : Rel G r h H) {o : O} {x : HO} {p : Addr} (hc : isClo o = false) (P : PostG G (RVal G) E r h H Q (.ok (.ref h.n) (h.push o))) (hp : H p = none) (new : OR G (r ++ [p]) (upd H p x) p o) : Q (.ref p) (upd H p x) :=
  P (.ref p) (upd H p x) (r ++ [p]) (rel.push hp hc new) (Step.push rel hp) ⟨p, get_new rel p, rfl⟩
theorem post_lst (rel : Rel G r h H) {ws : List W} {vs : List V} {p : Addr} (P : PostG G (RVal G) E r h H Q (.ok (.ref h.n) (h.push (.lst ws)))) (hp : H p = none) (v : VWs G r vs ws) : Q (.ref p) (upd H p (.lst vs)) :=
  post_new rel rfl P hp ⟨vs, upd_same, v.mono (Le.push r p)⟩
theorem post_tup (rel : Rel G r h H) {ws : List W} {vs : List V} {p : Addr} (P : PostG G (RVal G) E r h H Q (.ok (.ref h.n) (h.push (.tup ws)))) (hp : H p = none) (v : VWs G r vs ws) : Q (.ref p) (upd H p (.tup vs)) :=
  post_new rel rfl P hp ⟨vs, SqT.of upd_same, v.mono (Le.push r p)⟩
theorem post_val (rel : Rel G r h H) {w : W} {v : V} (P : PostG G (RVal G) E r h H Q (.ok w h)) (q : VW G r v w) : Q v H := PostG.ok P rel q
theorem szl : sizeLine = 16777216 := sizeLine_eq
/-- a virtual sequence is read -/
theorem seq_at (rel : Rel G r h H) {w : W} {ws : List W} {x : V} (hw : VW G r x w) (e : seqOf h w = some ws) : ∃ a vs, x = .ref a ∧ (SqL G.K H a vs ∨ SqT G.K H a vs) ∧ VWs G r vs ws ∧ (isLst h w = true → SqL G.K H a vs) ∧ (isLst h w = false → SqT G.K H a vs) := by
  cases w with
  | ref n =>
    obtain ⟨a, ea, rfl⟩ := hw
    cases q : h.get n with
    | none => simp only [seqOf, q] at e; cases e
    | some o =>
      simp only [seqOf, q] at e
      have w := rel.obj n o a q ea
      cases o with
      | lst xs =>
        cases e
        obtain ⟨vs, e1, e2⟩ := w
        exact ⟨a, vs, rfl, .inl (.of e1), e2, fun _ => .of e1, fun z => by simp [isLst, q] at z⟩
      | tup xs =>
        cases e
        obtain ⟨vs, e1, e2⟩ := w
        exact ⟨a, vs, rfl, .inr e1, e2, fun z => by simp [isLst, q] at z, fun _ => e1⟩
      | rls xs =>
        cases e
        obtain ⟨vs, e1, e2⟩ := w
        have l : SqL G.K H a vs := by
          rcases e1 with ⟨o, e1⟩ | e1
          · exact .inl (.inr ⟨o, e1⟩)
          · exact e1 H
        exact ⟨a, vs, rfl, .inl l, e2, fun _ => l, fun z => by simp [isLst, q] at z⟩
      | _ => cases e
  | _ => cases e
/-- two-place operations -/
def rV (G : Gd) (E : XK) (f : Hv → W → W → Res W) : R2 := fun x y H Q => ∃ r h w1 w2, Rel G r h H ∧ VW G r x w1 ∧ VW G r y w2 ∧ PostG G (RVal G) E r h H Q (f h w1 w2)
def rV1 (G : Gd) (E : XK) (f : Hv → W → Res W) : V → Hp → VK → Prop := fun x H Q => ∃ r h w1, Rel G r h H ∧ VW G r x w1 ∧ PostG G (RVal G) E r h H Q (f h w1)
end
section
variable {X : Cx} {G : Gd} {E : XK}
theorem rIR {G : Gd} {r : List Addr} {x : V} {i : Int} (h : VW G r x (.int i)) : x = .int i := h
theorem op_never {f : Value → Value → Sem Value} : OpR X f (fun _ _ _ _ => False) := fun _ _ _ _ _ _ _ _ _ _ _ _ z => z.elim
theorem op_addV (hK : X.K = G.K) : OpR X (binaryOp .Add) (rV G E fun h a b => binW h .Add a b) := by
  refine OpR.imp ((op_add.or op_add_str).or (op_cat.or op_catT)) ?_
  rw [hK]
  rintro x y H Q ⟨r, h, w1, w2, rel, v1, v2, P⟩
  have nope : ∀ {T : Prop}, PostG G (RVal G) E r h H Q (seqAdd h w1 w2) → (∀ n m, w1 = .ref n → w2 = .ref m → T) → T := fun {T} P k => by
    cases w1 <;> cases w2 <;> first | exact (show False from P).elim | exact k _ _ rfl rfl
  cases w1 with
  | int i =>
    cases w2 with
    | int j => exact .inl (.inl ⟨i, j, v1, v2, post_val rel P rfl⟩)
    | _ => exact (show False from P).elim
  | str a =>
    cases w2 with
    | str b =>
      have P' : PostG G (RVal G) E r h H Q (if a.length + b.length ≤ 16777216 then .ok (.str (a ++ b)) h else .no) := P
      by_cases z : a.length + b.length ≤ 16777216
      · rw [if_pos z] at P'
        exact .inl (.inr ⟨a, b, v1, v2, by rw [szl]; exact z, post_val rel P' rfl⟩)
      · rw [if_neg z] at P'
        exact P'.elim
    | _ => exact (show False from P).elim
  | ref n =>
    cases w2 with
    | ref m =>
      obtain ⟨a, ea, rfl⟩ := v1
      obtain ⟨b, eb, rfl⟩ := v2
      have P' : PostG G (RVal G) E r h H Q (seqAdd h (.ref n) (.ref m)) := P
      unfold seqAdd at P'
      cases q1 : h.get n with
      | none => simp only [q1] at P'; exact P'.elim
      | some o1 =>
        cases q2 : h.get m with
        | none => simp only [q1, q2] at P'; cases o1 <;> exact P'.elim
        | some o2 =>
          simp only [q1, q2] at P'
          have g1 := rel.obj n o1 a q1 ea
          have g2 := rel.obj m o2 b q2 eb
          cases o1 with
          | lst xs =>
            cases o2 with
            | lst ys =>
              simp only at P'
              obtain ⟨vs, e1, z1⟩ := g1
              obtain ⟨us, e2, z2⟩ := g2
              by_cases z : xs.length + ys.length ≤ 16777216
              · rw [if_pos z] at P'
                exact .inr (.inl ⟨a, b, vs, us, rfl, rfl, e1, e2, by rw [szl, pair_len z1, pair_len z2]; exact z, fun p hp => post_lst rel P' hp (pair_app z1 z2)⟩)
              · rw [if_neg z] at P'; exact P'.elim
            | _ => exact P'.elim
          | tup xs =>
            cases o2 with
            | tup ys =>
              simp only at P'
              obtain ⟨vs, e1, z1⟩ := g1
              obtain ⟨us, e2, z2⟩ := g2
              by_cases z : xs.length + ys.length ≤ 16777216
              · rw [if_pos z] at P'
                cases xs with
                | nil => exact P'.elim
                | cons x0 xs =>
                  refine .inr (.inr ⟨a, b, vs, us, rfl, rfl, e1, e2, fun n0 => ?_, by rw [szl, pair_len z1, pair_len z2]; exact z, fun n0 => ?_, fun n0 p hp => ?_⟩)
                  · rw [n0] at z1; cases z1
                  · rw [n0] at z2
                    cases z2
                    exact post_val rel P' ⟨a, ea, rfl⟩
                  · cases ys with
                    | nil => exact absurd (pair_nil z2) n0
                    | cons y0 ys => exact post_tup rel P' hp (pair_app z1 z2)
              · rw [if_neg z] at P'; exact P'.elim
            | _ => exact P'.elim
          | _ => exact P'.elim
    | _ => exact (show False from P).elim
  | _ => cases w2 <;> exact (show False from P).elim

theorem binI {F : Value → Value → Sem Value} {C : Int → Int → Prop} {gg : Int → Int → V} {ev : Hv → W → W → Res W} (hf : OpR X F (rI C gg))
    (he : ∀ (h : Hv) (w1 w2 : W) (r : List Addr) (H : Hp) (Q : VK), PostG G (RVal G) E r h H Q (ev h w1 w2) → ∃ i j z, w1 = .int i ∧ w2 = .int j ∧ C i j ∧ ev h w1 w2 = .ok z h ∧ VW G r (gg i j) z) : OpR X F (rV G E ev) := by
  refine OpR.imp hf ?_
  rintro x y H Q ⟨r, h, w1, w2, rel, v1, v2, P⟩
  obtain ⟨i, j, z, rfl, rfl, c, e, q⟩ := he h w1 w2 r H Q P
  rw [e] at P
  exact ⟨i, j, v1, v2, c, post_val rel P q⟩
theorem rI_of {F : Value → Value → Sem Value} {gg : Int → Int → V} (h : OpR X F (rI0 gg)) : OpR X F (rI (fun _ _ => True) gg) := OpR.imp h fun _ _ _ _ ⟨i, j, e1, e2, _, q⟩ => ⟨i, j, e1, e2, q⟩
theorem op_subV : OpR X (binaryOp .Sub) (rV G E fun h a b => binW h .Sub a b) := by
  refine binI (rI_of op_sub) fun h w1 w2 r H Q P => ?_
  cases w1 <;> cases w2 <;> first | exact (show False from P).elim | exact ⟨_, _, _, rfl, rfl, trivial, rfl, rfl⟩
theorem op_andV : OpR X (binaryOp .BitAnd) (rV G E fun h a b => binW h .BitAnd a b) := by
  refine binI (rI_of op_and) fun h w1 w2 r H Q P => ?_
  cases w1 <;> cases w2 <;> first | exact (show False from P).elim | exact ⟨_, _, _, rfl, rfl, trivial, rfl, rfl⟩
theorem op_orV : OpR X (binaryOp .BitOr) (rV G E fun h a b => binW h .BitOr a b) := by
  refine binI (rI_of op_or) fun h w1 w2 r H Q P => ?_
  cases w1 <;> cases w2 <;> first | exact (show False from P).elim | exact ⟨_, _, _, rfl, rfl, trivial, rfl, rfl⟩
theorem if_ok {c : Prop} [Decidable c] {r : List Addr} {h : Hv} {H : Hp} {Q : VK} {z : W} (P : PostG G (RVal G) E r h H Q (if c then .ok z h else .no)) : c ∧ (if c then Res.ok z h else .no) = .ok z h := by
  by_cases q : c
  · exact ⟨q, if_pos q⟩
  · rw [if_neg q] at P; exact P.elim
theorem op_fdivV : OpR X (binaryOp .FloorDiv) (rV G E fun h a b => binW h .FloorDiv a b) := by
  refine binI op_fdivN fun h w1 w2 r H Q P => ?_
  cases w1 <;> cases w2 <;> first | exact (show False from P).elim | exact ⟨_, _, _, rfl, rfl, (if_ok P).1, (if_ok P).2, rfl⟩
theorem op_modV : OpR X (binaryOp .Mod) (rV G E fun h a b => binW h .Mod a b) := by
  refine binI op_modN fun h w1 w2 r H Q P => ?_
  cases w1 <;> cases w2 <;> first | exact (show False from P).elim | exact ⟨_, _, _, rfl, rfl, (if_ok P).1, (if_ok P).2, rfl⟩
theorem op_powV : OpR X (binaryOp .Pow) (rV G E fun h a b => binW h .Pow a b) := by
  refine binI op_pow fun h w1 w2 r H Q P => ?_
  cases w1 <;> cases w2 <;> first | exact (show False from P).elim | exact ⟨_, _, _, rfl, rfl, (if_ok P).1, (if_ok P).2, rfl⟩
theorem op_shlV : OpR X (binaryOp .LShift) (rV G E fun h a b => binW h .LShift a b) := by
  refine binI op_shl fun h w1 w2 r H Q P => ?_
  cases w1 <;> cases w2 <;> first | exact (show False from P).elim | exact ⟨_, _, _, rfl, rfl, (if_ok P).1, (if_ok P).2, rfl⟩
theorem op_shrV : OpR X (binaryOp .RShift) (rV G E fun h a b => binW h .RShift a b) := by
  refine binI op_shr fun h w1 w2 r H Q P => ?_
  cases w1 <;> cases w2 <;> first | exact (show False from P).elim | exact ⟨_, _, _, rfl, rfl, (if_ok P).1, (if_ok P).2, rfl⟩
theorem op_mulV : OpR X (binaryOp .Mult) (rV G E fun h a b => binW h .Mult a b) := by
  refine OpR.imp (op_mul.or op_rep) ?_
  rintro x y H Q ⟨r, h, w1, w2, rel, v1, v2, P⟩
  cases w1 with
  | int i =>
    cases w2 with
    | int j =>
      obtain ⟨c, e⟩ := if_ok P
      have P' : PostG G (RVal G) E r h H Q (if (-(2 ^ 64) < i ∧ i < 2 ^ 64) ∨ (-(2 ^ 64) < j ∧ j < 2 ^ 64) then .ok (.int (i * j)) h else .no) := P
      rw [if_pos c] at P'
      exact .inl ⟨i, j, v1, v2, c, post_val rel P' rfl⟩
    | _ => exact (show False from P).elim
  | ref n =>
    cases w2 with
    | int k =>
      obtain ⟨a, ea, rfl⟩ := v1
      cases q : h.get n with
      | none => simp only [binW, q] at P; exact P.elim
      | some o =>
        simp only [binW, q] at P
        have w := rel.obj n o a q ea
        cases o with
        | lst xs =>
          obtain ⟨vs, e1, e2⟩ := w
          simp only at P
          by_cases c : -(2 ^ 63) ≤ k ∧ k < 2 ^ 63 ∧ xs.length * k.toNat ≤ 16777216
          · rw [if_pos c] at P
            exact .inr ⟨a, k, vs, rfl, v2, e1, c.1, c.2.1, by rw [szl, pair_len e2]; exact c.2.2, fun p hp => post_lst rel P hp (pair_rep e2 _)⟩
          · rw [if_neg c] at P; exact P.elim
        | _ => exact P.elim
    | _ => exact (show False from P).elim
  | _ => cases w2 <;> exact (show False from P).elim
theorem op_binV (hK : X.K = G.K) (o : Operator) : OpR X (binaryOp o) (rV G E fun h a b => binW h o a b) := by
  cases o with
  | Add => exact op_addV hK
  | Sub => exact op_subV
  | Mult => exact op_mulV
  | FloorDiv => exact op_fdivV
  | Mod => exact op_modV
  | Pow => exact op_powV
  | LShift => exact op_shlV
  | RShift => exact op_shrV
  | BitAnd => exact op_andV
  | BitOr => exact op_orV
  | _ =>
    refine OpR.imp op_never ?_
    rintro x y H Q ⟨r, h, w1, w2, rel, v1, v2, P⟩
    cases w1 <;> cases w2 <;> exact (show False from P).elim
theorem op_unV (o : UnaryOp) (ho : o ≠ .Not) : UnR X (unaryOp o) (rV1 G E fun h a => match unW o a with | some w => .ok w h | none => .no) := by
  have fin : ∀ {F : Value → Sem Value} {gg : Int → V}, UnR X F (rU gg) → (∀ (i : Int) (r : List Addr), ∃ z, unW o (.int i) = some z ∧ VW G r (gg i) z) → (∀ a, (∀ i, a ≠ .int i) → unW o a = none) → UnR X F (rV1 G E fun h a => match unW o a with | some w => .ok w h | none => .no) := fun {F gg} hf h1 h2 => by
    refine UnR.imp hf ?_
    rintro x H Q ⟨r, h, w1, rel, v1, P⟩
    by_cases c : ∃ i, w1 = .int i
    · obtain ⟨i, rfl⟩ := c
      obtain ⟨z, e, q⟩ := h1 i r
      simp only [e] at P
      exact ⟨i, v1, post_val rel P q⟩
    · simp only [h2 w1 fun i e => c ⟨i, e⟩] at P
      exact P.elim
  cases o with
  | USub => exact fin un_neg (fun i r => ⟨_, rfl, rfl⟩) fun a n => by cases a <;> first | rfl | exact absurd rfl (n _)
  | Invert => exact fin un_inv (fun i r => ⟨_, rfl, rfl⟩) fun a n => by cases a <;> first | rfl | exact absurd rfl (n _)
  | Not => exact absurd rfl ho
  | UAdd =>
    intro pins s σ H x v Q I rx w
    obtain ⟨r, h, w1, rel, v1, P⟩ := w
    cases w1 <;> exact (show False from P).elim
end
end RP

set_option Elab.async false
set_option linter.all false
set_option maxRecDepth 100000
set_option maxHeartbeats 4000000
/-! RP7: comparisons, truth, items. -/
namespace RP
open PySem PySem.Spec PyProof.Rows L2

section
variable {G : Gd} {r : List Addr} {h : Hv} {H : Hp}
theorem mapM_cons_some {α β : Type} {f : α → Option β} {a : α} {l : List α} {ys : List β} (e : (a :: l).mapM f = some ys) : ∃ y t, f a = some y ∧ l.mapM f = some t ∧ ys = y :: t := by
  rw [List.mapM_cons] at e
  cases h1 : f a with
  | none => rw [h1] at e; cases e
  | some y =>
    rw [h1] at e
    cases h2 : l.mapM f with
    | none => rw [h2] at e; cases e
    | some t =>
      rw [h2] at e
      cases e
      exact ⟨y, t, rfl, rfl, rfl⟩
theorem rd_all {k : Nat} (ih : ∀ (w : W) (v : V) (d : PyData), VW G r v w → rd h k w = some d → Dp G.K H v d) : ∀ {vs : List V} {ws : List W} {ds : List PyData}, VWs G r vs ws → ws.mapM (rd h k) = some ds → DpAll G.K H vs ds
  | _, _, ds, .nil, e => by
    have : ds = [] := by simpa using e.symm
    subst this
    exact .nil
  | _, _, ds, .cons a t, e => by
    obtain ⟨y, ys, e1, e2, rfl⟩ := mapM_cons_some e
    exact .cons (ih _ _ _ a e1) (rd_all ih t e2)
theorem rd_dp (rel : Rel G r h H) : ∀ (k : Nat) (w : W) (v : V) (d : PyData), VW G r v w → rd h k w = some d → Dp G.K H v d
  | 0, _, _, _, _, e => nomatch e
  | k + 1, w, v, d, q, e => by
    have ih := rd_dp rel k
    cases w with
    | non => cases e; rw [show v = .non from q]; exact .non
    | bl b => cases e; rw [show v = .bl b from q]; exact .bl b
    | int i => cases e; rw [show v = .int i from q]; exact .int i
    | str s => cases e; rw [show v = .str s from q]; exact .str s
    | ref n =>
      obtain ⟨a, ea, rfl⟩ := q
      simp only [rd] at e
      cases g : h.get n with
      | none => rw [g] at e; cases e
      | some o =>
        rw [g] at e
        have w := rel.obj n o a g ea
        cases o with
        | lst xs =>
          obtain ⟨vs, e1, e2⟩ := w
          simp only at e
          cases m : xs.mapM (rd h k) with
          | none => rw [m] at e; cases e
          | some ds => rw [m] at e; cases e; exact .lst (.of e1) (rd_all ih e2 m)
        | rls xs =>
          obtain ⟨vs, e1, e2⟩ := w
          simp only at e
          have l : SqL G.K H a vs := by
            rcases e1 with ⟨o, e1⟩ | e1
            · exact .inl (.inr ⟨o, e1⟩)
            · exact e1 H
          cases m : xs.mapM (rd h k) with
          | none => rw [m] at e; cases e
          | some ds => rw [m] at e; cases e; exact .lst l (rd_all ih e2 m)
        | tup xs =>
          obtain ⟨vs, e1, e2⟩ := w
          simp only at e
          cases m : xs.mapM (rd h k) with
          | none => rw [m] at e; cases e
          | some ds => rw [m] at e; cases e; exact .tup e1 (rd_all ih e2 m)
        | _ => cases e
    | _ => cases e
theorem rdD_dp (rel : Rel G r h H) {w : W} {v : V} {d : PyData} (q : VW G r v w) (e : rdD h w = some d) : Dp G.K H v d ∧ SeqAt.shaped d = true := by
  unfold rdD at e
  cases g : rd h 62 w with
  | none => rw [g] at e; cases e
  | some d' =>
    rw [g] at e
    simp only at e
    split at e
    · rename_i s
      cases e
      exact ⟨rd_dp rel 62 w v d q g, s⟩
    · cases e
theorem vw_ref {n : Nat} {v : V} (q : VW G r v (.ref n)) : ∃ a, r[n]? = some a ∧ v = .ref a := q
end
/-- a comparison's value -/
def rB (f : Hv → W → W → Option Bool) : Hv → W → W → Res W := fun h a b => match f h a b with
  | some k => .ok (.bl k) h
  | none => .no
section
variable {X : Cx} {G : Gd} {E : XK}
theorem rB_ok {f : Hv → W → W → Option Bool} {r : List Addr} {h : Hv} {H : Hp} {Q : VK} {a b : W} (P : PostG G (RVal G) E r h H Q (rB f h a b)) (rel : Rel G r h H) : ∃ k, f h a b = some k ∧ Q (.bl k) H := by
  unfold rB at P
  cases e : f h a b with
  | none => rw [e] at P; exact P.elim
  | some k => rw [e] at P; exact ⟨k, rfl, post_val rel P rfl⟩
theorem cmpB {op : CmpOp} {f : Hv → W → W → Option Bool} {R : R2} (ho : OpR X (compareOp op) R)
    (k : ∀ (r : List Addr) (h : Hv) (H : Hp) (x y : V) (a b : W) (z : Bool) (Q : VK), Rel G r h H → VW G r x a → VW G r y b → f h a b = some z → Q (.bl z) H → R x y H Q) : OpR X (compareOp op) (rV G E (rB f)) := by
  refine OpR.imp ho ?_
  rintro x y H Q ⟨r, h, a, b, rel, va, vb, P⟩
  obtain ⟨z, e, q⟩ := rB_ok P rel
  exact k r h H x y a b z Q rel va vb e q
theorem OpR.split {f : Value → Value → Sem Value} {R R' : R2} (c : Prop) (h1 : c → OpR X f R) (h2 : ¬ c → OpR X f R) : OpR X f R := by
  by_cases z : c
  · exact h1 z
  · exact h2 z
theorem opr_or {f : Value → Value → Sem Value} {R R' : R2} (a : OpR X f R) (b : OpR X f R') : OpR X f (fun x y H Q => R x y H Q ∨ R' x y H Q) := fun pins s σ H x y v u Q I rx ry w => w.elim (a pins s σ H x y v u Q I rx ry) (b pins s σ H x y v u Q I rx ry)
/-! ### is -/
theorem op_isV : OpR X (compareOp .Is) (rV G E (rB fun h => cmpW h .Is)) := by
  intro pins s σ H x y v u Q I rx ry ⟨r, h, a, b, rel, va, vb, P⟩
  obtain ⟨k, e, q⟩ := rB_ok P rel
  cases b with
  | non =>
    cases e
    cases (show y = .non from vb)
    cases (show u = Value.none from ry)
    refine is_none_gen ⟨.bl (isNon a), H, I, ?_, q⟩
    rw [rx.none_iff]
    show Value.bool _ = Value.bool _
    congr 1
    cases a with
    | non => rw [show x = .non from va]; rfl
    | bl _ => rw [show x = _ from va]; rfl
    | int _ => rw [show x = _ from va]; rfl
    | str _ => rw [show x = _ from va]; rfl
    | fn _ => rw [show x = _ from va]; rfl
    | ref _ => obtain ⟨_, _, rfl⟩ := va; rfl
    | pend _ => exact va.elim
    | zipv _ => exact va.elim
  | _ => cases e
theorem op_isnotV : OpR X (compareOp .IsNot) (rV G E (rB fun h => cmpW h .IsNot)) := by
  intro pins s σ H x y v u Q I rx ry ⟨r, h, a, b, rel, va, vb, P⟩
  obtain ⟨k, e, q⟩ := rB_ok P rel
  cases b with
  | non =>
    cases e
    cases (show y = .non from vb)
    cases (show u = Value.none from ry)
    refine isnot_none_gen ⟨.bl (!isNon a), H, I, ?_, q⟩
    rw [rx.none_iff]
    show Value.bool _ = Value.bool _
    congr 1
    cases a with
    | non => rw [show x = .non from va]; rfl
    | bl _ => rw [show x = _ from va]; rfl
    | int _ => rw [show x = _ from va]; rfl
    | str _ => rw [show x = _ from va]; rfl
    | fn _ => rw [show x = _ from va]; rfl
    | ref _ => obtain ⟨_, _, rfl⟩ := va; rfl
    | pend _ => exact va.elim
    | zipv _ => exact va.elim
  | _ => cases e
/-! ### order -/
theorem op_gtV : OpR X (compareOp .Gt) (rV G E (rB fun h => cmpW h .Gt)) := cmpB op_gt fun r h H x y a b z Q rel va vb e q => by
  cases a <;> cases b <;> first | (cases e; exact ⟨_, _, va, vb, q⟩) | cases e
theorem op_leV : OpR X (compareOp .LtE) (rV G E (rB fun h => cmpW h .LtE)) := cmpB op_le fun r h H x y a b z Q rel va vb e q => by
  cases a <;> cases b <;> first | (cases e; exact ⟨_, _, va, vb, q⟩) | cases e
theorem op_geV : OpR X (compareOp .GtE) (rV G E (rB fun h => cmpW h .GtE)) := cmpB op_ge fun r h H x y a b z Q rel va vb e q => by
  cases a <;> cases b <;> first | (cases e; exact ⟨_, _, va, vb, q⟩) | cases e
/-! ### equality -/
theorem eqP_dp {r : List Addr} {h : Hv} {H : Hp} {x y : V} {a b : W} {z : Bool} (rel : Rel G r h H) (va : VW G r x a) (vb : VW G r y b) (e : eqP h a b = some z) : ∃ d d', Dp G.K H x d ∧ Dp G.K H y d' ∧ SeqAt.shaped d = true ∧ SeqAt.shaped d' = true ∧ PyData.eqv d d' = z := by
  unfold eqP at e
  cases g1 : rdD h a with
  | none => rw [g1] at e; cases e
  | some d =>
    cases g2 : rdD h b with
    | none => rw [g1, g2] at e; cases e
    | some d' =>
      rw [g1, g2] at e
      cases e
      exact ⟨d, d', (rdD_dp rel va g1).1, (rdD_dp rel vb g2).1, (rdD_dp rel va g1).2, (rdD_dp rel vb g2).2, rfl⟩
theorem op_neV (hK : X.K = G.K) (hu : X.A.units + 64 < cLine) : OpR X (compareOp .NotEq) (rV G E (rB fun h => cmpW h .NotEq)) := cmpB (op_neD hu) fun r h H x y a b z Q rel va vb e q => by
  have e' : (match dctOf h a, dctOf h b with | none, none => (eqP h a b).map (!·) | _, _ => none) = some z := e
  have e2 : (eqP h a b).map (!·) = some z := by
    cases g1 : dctOf h a <;> cases g2 : dctOf h b <;> simp only [g1, g2] at e' <;> first | exact e' | cases e'
  cases g : eqP h a b with
  | none => rw [g] at e2; cases e2
  | some k =>
    rw [g] at e2
    cases e2
    obtain ⟨d, d', h1, h2, s1, s2, rfl⟩ := eqP_dp rel va vb g
    rw [hK]
    exact ⟨d, d', h1, h2, s1, s2, q⟩
/-! ### less -/
theorem isLst_at {r : List Addr} {h : Hv} {H : Hp} (rel : Rel G r h H) {w : W} {x : V} (hw : VW G r x w) (l : isLst h w = true) : ∃ a ws vs, x = .ref a ∧ seqOf h w = some ws ∧ SqL G.K H a vs ∧ VWs G r vs ws := by
  have ex : ∃ ws, seqOf h w = some ws := by
    cases w with
    | ref n =>
      simp only [isLst] at l
      cases g : h.get n with
      | none => rw [g] at l; cases l
      | some o => rw [g] at l; simp only [seqOf, g]; cases o <;> first | exact ⟨_, rfl⟩ | cases l
    | _ => cases l
  obtain ⟨ws, e⟩ := ex
  obtain ⟨a, vs, rfl, _, q, k, _⟩ := seq_at rel hw e
  exact ⟨a, ws, vs, rfl, e, k l, q⟩
theorem strs_of : ∀ {ws : List W} {l : List Str}, strsOf ws = some l → ws = l.map .str
  | [], _, e => by cases e; rfl
  | w :: ws, l, e => by
    cases w with
    | str s =>
      have e' : (strsOf ws).map (s :: ·) = some l := e
      cases g : strsOf ws with
      | none => rw [g] at e'; cases e'
      | some t => rw [g] at e'; cases e'; rw [strs_of g]; rfl
    | _ => cases e
theorem strs_vs {r : List Addr} : ∀ {l : List Str} {vs : List V}, VWs G r vs (l.map .str) → vs = l.map V.str
  | [], _, .nil => rfl
  | s :: l, _, .cons a t => by rw [show _ = V.str s from a, strs_vs t]; rfl
theorem dp_strs {K : PySem.W.Frag} {H : Hp} : ∀ l : List Str, DpAll K H (l.map V.str) (l.map PyData.str)
  | [] => .nil
  | s :: l => .cons (.str s) (dp_strs l)
theorem alike_strs : ∀ l m : List Str, PySem.W.alikeAll (l.map PyData.str) (m.map PyData.str) = true
  | [], _ => by cases ‹List Str› <;> rfl
  | _ :: _, [] => rfl
  | a :: l, b :: m => by
    show (PySem.W.alike (.str a) (.str b) && PySem.W.alikeAll (l.map PyData.str) (m.map PyData.str)) = true
    rw [alike_strs l m]; rfl
theorem lt_strs : ∀ l m : List Str, PySem.W.dataLt (.list (l.map PyData.str)) (.list (m.map PyData.str)) = ltStrs l m
  | [], [] => by rw [PySem.W.dataLt_list]; rfl
  | [], _ :: _ => by rw [PySem.W.dataLt_list]; rfl
  | _ :: _, [] => by rw [PySem.W.dataLt_list]; rfl
  | a :: l, b :: m => by
    have ih := lt_strs l m
    rw [PySem.W.dataLt_list] at ih ⊢
    show PyProof.Rows.lexLt itemOrd (PySem.W.keyToksAll (.str a :: l.map PyData.str)) (PySem.W.keyToksAll (.str b :: m.map PyData.str)) = _
    have e : PyData.eqv (.str a) (.str b) = decide (a = b) := by
      simp only [PyData.eqv, Bool.beq_eq_decide_eq]
    by_cases z : a = b
    · rw [PySem.W.dataLt_all_yes rfl (by rw [e]; simp [z]), ih]
      simp [ltStrs, z]
    · rw [PySem.W.dataLt_all_no rfl (by rw [e]; simp [z]), PySem.W.dataLt_str]
      simp [ltStrs, z]
def rLtRows (K : PySem.W.Frag) : R2 := fun x y H Q => ∃ a b l m, x = .ref a ∧ y = .ref b ∧ SqL K H a (l.map V.str) ∧ SqL K H b (m.map V.str) ∧ Q (.bl (ltStrs l m)) H
theorem depth_strs : ∀ l : List Str, PyData.depthAll (l.map PyData.str) = 0
  | [] => rfl
  | _ :: l => by
    show max 0 (PyData.depthAll (l.map PyData.str)) = 0
    rw [depth_strs l]; rfl
theorem op_ltRows (hu : X.A.units + 64 < cLine) : OpR X (compareOp .Lt) (rLtRows X.K) := by
  intro pins s σ H x y v u Q I rx ry h
  obtain ⟨a, b, l, m, rfl, rfl, ha, hb, q⟩ := h
  obtain ⟨as, r1⟩ := Dp.reads I (.list (l.map PyData.str)) _ v (.lst ha (dp_strs l)) rx
  obtain ⟨bs, r2⟩ := Dp.reads I (.list (m.map PyData.str)) _ u (.lst hb (dp_strs m)) ry
  have k := PySem.W.rcLt_alike _ _ X.A s v u as bs r1 r2 (alike_strs l m) (fun z => nomatch z) (by
    have e1 : (PyData.list (l.map PyData.str)).depth ≤ 1 := by
      show PyData.depthAll (l.map PyData.str) + 1 ≤ 1
      rw [depth_strs]; omega
    have := Nat.min_le_left (PyData.list (l.map PyData.str)).depth (PyData.list (m.map PyData.str)).depth
    omega)
  exact k X.prog X.w _ _ ⟨.bl _, H, I, by rw [← lt_strs]; rfl, q⟩
theorem op_ltV (hK : X.K = G.K) (hu : X.A.units + 64 < cLine) : OpR X (compareOp .Lt) (rV G E (rB fun h => cmpW h .Lt)) := cmpB (opr_or op_lt (opr_or op_lt_str (op_ltRows hu))) fun r h H x y a b z Q rel va vb e q => by
  have rows : (if isLst h a && isLst h b then (match (seqOf h a).bind strsOf, (seqOf h b).bind strsOf with
      | some x, some y => some (ltStrs x y)
      | _, _ => none) else none) = some z → rLtRows X.K x y H Q := fun e => by
    split at e
    · rename_i l
      obtain ⟨l1, l2⟩ := Bool.and_eq_true_iff.mp l
      obtain ⟨p, ws, vs, rfl, e1, s1, q1⟩ := isLst_at rel va l1
      obtain ⟨p2, ws2, vs2, rfl, e2, s2, q2⟩ := isLst_at rel vb l2
      rw [e1, e2] at e
      cases g1 : strsOf ws with
      | none => simp only [Option.bind_some, g1] at e; cases e
      | some l =>
        cases g2 : strsOf ws2 with
        | none => simp only [Option.bind_some, g1, g2] at e; cases e
        | some m =>
          simp only [Option.bind_some, g1, g2] at e
          cases e
          rw [strs_of g1] at q1
          rw [strs_of g2] at q2
          rw [strs_vs q1] at s1
          rw [strs_vs q2] at s2
          exact ⟨p, p2, l, m, rfl, rfl, by rw [hK]; exact s1, by rw [hK]; exact s2, q⟩
    · cases e
  cases a with
  | int i =>
    cases b with
    | int j => cases e; exact .inl ⟨i, j, va, vb, q⟩
    | _ => exact .inr (.inr (rows e))
  | str i =>
    cases b with
    | str j => cases e; exact .inr (.inl ⟨i, j, va, vb, q⟩)
    | _ => exact .inr (.inr (rows e))
  | _ => exact .inr (.inr (rows e))
/-! ### equal -/
/-- the entries ks meet equal ones of ls -/
inductive HitsD (K : PySem.W.Frag) (H : Hp) (ls : List (Key × V)) : List (Key × V) → Bool → Prop
  | nil : HitsD K H ls [] true
  | miss {k : Key} {v : V} {r : List (Key × V)} : valV ls k = none → HitsD K H ls ((k, v) :: r) false
  | hit {k : Key} {v y : V} {r : List (Key × V)} {d d' : PyData} {e b : Bool} : valV ls k = some y → Dp K H v d → Dp K H y d' → SeqAt.shaped d = true → SeqAt.shaped d' = true → PyData.eqv d d' = e → HitsD K H ls r b → HitsD K H ls ((k, v) :: r) (e && b)
theorem dct_at {r : List Addr} {h : Hv} {H : Hp} (rel : Rel G r h H) {w : W} {x : V} {ks : List (Key × W)} (hw : VW G r x w) (e : dctOf h w = some ks) : ∃ n a es, w = .ref n ∧ h.get n = some (.dct ks) ∧ r[n]? = some a ∧ x = .ref a ∧ H a = some (.dK es) ∧ KVW G r es ks ∧ (ks.map (·.1)).Nodup := by
  cases w with
  | ref n =>
    obtain ⟨a, ea, rfl⟩ := hw
    simp only [dctOf] at e
    cases g : h.get n with
    | none => rw [g] at e; cases e
    | some o =>
      rw [g] at e
      cases o with
      | dct kvs =>
        cases e
        obtain ⟨es, q1, q2, q3⟩ := rel.obj n _ a g ea
        exact ⟨n, a, es, rfl, g, ea, rfl, q1, q2, q3⟩
      | _ => cases e
  | _ => cases e
theorem look_val {r : List Addr} : ∀ {es : List (Key × V)} {ks : List (Key × W)} (k : Key), KVW G r es ks → (match lookK ks k with | some w => ∃ v, valV es k = some v ∧ VW G r v w | none => valV es k = none)
  | [], [], k, .nil => rfl
  | p :: es, (a, w) :: ks, k, .cons ⟨h1, h2⟩ t => by
    have ih := look_val k t
    have h1 : p.1 = a := h1
    by_cases z : a = k
    · simp only [lookK, if_pos z]
      exact ⟨p.2, valV_pos (h1.trans z), h2⟩
    · simp only [lookK, if_neg z]
      rw [valV_neg (by rw [h1]; exact z)]
      exact ih
def rEqDct (K : PySem.W.Frag) : R2 := fun x y H Q => ∃ a b ks ls z, x = .ref a ∧ y = .ref b ∧ H a = some (.dK ks) ∧ H b = some (.dK ls) ∧
  (ks.length = ls.length → HitsD K H ls ks z) ∧ Q (.bl (ks.length == ls.length && z)) H
theorem hits_p {A : Around} {pins : List (Addr × Obj)} {σ : L2.St} {H : Hp} {s : Shared} (I : Inv X pins σ H s) (hu : A.units + 64 < cLine) {ls : List (Key × V)} {vb : List (Key × Value)} (rb : KV ls vb) :
    ∀ {ks : List (Key × V)} {va : List (Key × Value)} {z : Bool}, KV ks va → HitsD X.K H ls ks z → PySem.W.KeqHitsP X.prog X.w A s vb va z
  | _, _, _, .nil, .nil => .nil
  | (k, v) :: _, (key, v') :: _, _, .cons ⟨h1, h2⟩ t, .miss m => by
    have h1 : k = key := h1
    subst h1
    refine .miss ?_
    have rr : RelO none (valueAt vb k) := by rw [← m]; exact rb.val _
    cases e : valueAt vb k with
    | none => rfl
    | some u => rw [e] at rr; exact rr.elim
  | (k, v) :: _, (key, v') :: _, _, .cons ⟨h1, h2⟩ t, .hit (y := y0) m dv dy s1 s2 e q => by
    have h1 : k = key := h1
    subst h1
    have rr : RelO (some y0) (valueAt vb k) := by rw [← m]; exact rb.val _
    obtain ⟨y, hy, ry⟩ := rr.some_of
    obtain ⟨as, r1⟩ := Dp.reads I _ _ _ dv h2
    obtain ⟨bs, r2⟩ := Dp.reads I _ _ _ dy ry
    subst e
    exact .hit hy (SeqAt.EqAt.eqP (SeqAt.eqAt_reads _ _ _ _ _ _ _ _ r1 r2 (SeqAt.canLay_of_shaped s1) (SeqAt.canLay_of_shaped s2) (SeqAt.room_of_shaped s1 hu))) (hits_p I hu rb t q)
theorem op_eqDct (hu : X.A.units + 65 < cLine) : OpR X (compareOp .Eq) (rEqDct X.K) := by
  intro pins s σ H x y v u Q I rx ry h
  obtain ⟨a, b, ks, ls, z, rfl, rfl, ha, hb, hh, q⟩ := h
  cases (show v = Value.ref a from rx)
  cases (show u = Value.ref b from ry)
  obtain ⟨_, ya, va, ra, da⟩ := (show ObjOk X.prog X.w H s.heap a (.dK ks) from I.hok a _ ha)
  obtain ⟨_, yb, vb, rb, db⟩ := (show ObjOk X.prog X.w H s.heap b (.dK ls) from I.hok b _ hb)
  refine PySem.W.rcP_dicts (knd := mixKind X.prog X.w) (r := z) ya yb da db (by omega) (fun hl => hits_p I (by show X.A.units + 1 + 64 < cLine; omega) rb ra (hh (by rw [ra.length, rb.length]; exact hl))) _ _ ?_
  rw [show (va.length == vb.length && z) = (ks.length == ls.length && z) by rw [ra.length, rb.length]]
  exact ⟨.bl _, H, I, rfl, q⟩
theorem eqKs_hits {r : List Addr} {h : Hv} {H : Hp} (rel : Rel G r h H) {ls' : List (Key × W)} {ls : List (Key × V)} (rl : KVW G r ls ls') : ∀ {ks' : List (Key × W)} {ks : List (Key × V)} {z : Bool}, KVW G r ks ks' → eqKs h ls' ks' = some z → HitsD G.K H ls ks z
  | [], [], z, .nil, e => by cases e; exact .nil
  | (k, w) :: ks', (k', v) :: ks, z, .cons ⟨h1, h2⟩ t, e => by
    have h1 : k' = k := h1
    have h2 : VW G r v w := h2
    subst h1
    have lk := look_val k' rl
    have e' : (match lookK ls' k' with
      | none => some false
      | some v => (match eqP h w v, eqKs h ls' ks' with
        | some e, some b => some (e && b)
        | _, _ => none)) = some z := e
    cases g : lookK ls' k' with
    | none =>
      rw [g] at lk e'
      cases e'
      exact .miss lk
    | some w2 =>
      rw [g] at lk e'
      obtain ⟨v2, l1, l2⟩ := lk
      cases g1 : eqP h w w2 with
      | none => simp only [g1] at e'; cases e'
      | some b1 =>
        cases g2 : eqKs h ls' ks' with
        | none => simp only [g1, g2] at e'; cases e'
        | some b2 =>
          simp only [g1, g2] at e'
          cases e'
          obtain ⟨d, d', p1, p2, s1, s2, q⟩ := eqP_dp rel h2 l2 g1
          exact .hit l1 p1 p2 s1 s2 q (eqKs_hits rel rl t g2)
theorem op_eqVV (hK : X.K = G.K) (hu : X.A.units + 65 < cLine) : OpR X (compareOp .Eq) (rV G E (rB fun h => cmpW h .Eq)) := cmpB (opr_or (op_eqD (by omega)) (op_eqDct hu)) fun r h H x y a b z Q rel va vb e q => by
  have e' : eqW h a b = some z := e
  unfold eqW at e'
  cases g1 : dctOf h a with
  | none =>
    cases g2 : dctOf h b with
    | none =>
      simp only [g1, g2] at e'
      obtain ⟨d, d', h1, h2, s1, s2, rfl⟩ := eqP_dp rel va vb e'
      rw [hK]
      exact .inl ⟨d, d', h1, h2, s1, s2, q⟩
    | some ls => simp only [g1, g2] at e'; cases e'
  | some ks =>
    cases g2 : dctOf h b with
    | none => simp only [g1, g2] at e'; cases e'
    | some ls =>
      simp only [g1, g2] at e'
      obtain ⟨_, a1, es, _, _, _, rfl, hA, kA, nA⟩ := dct_at rel va g1
      obtain ⟨_, b1, fs, _, _, _, rfl, hB, kB, nB⟩ := dct_at rel vb g2
      have l1 := pair_len kA
      have l2 := pair_len kB
      rw [hK]
      by_cases c : ks.length = ls.length
      · rw [if_pos c] at e'
        exact .inr ⟨a1, b1, es, fs, z, rfl, rfl, hA, hB, fun _ => eqKs_hits rel kB kA e', by rw [show (es.length == fs.length) = true by simp; omega]; exact q⟩
      · rw [if_neg c] at e'
        cases e'
        exact .inr ⟨a1, b1, es, fs, false, rfl, rfl, hA, hB, fun z => absurd (by omega) c, by rw [Bool.and_false]; exact q⟩
/-! ### membership -/
theorem flat_v {r : List Addr} {v : V} {w : W} (q : VW G r v w) (f : flatW w = true) : flatV v = true := by
  cases w <;> first | (rw [show v = _ from q]; rfl) | cases f
theorem leaf_eq {r : List Addr} {x y : V} {a b : W} (qa : VW G r x a) (qb : VW G r y b) (fa : flatW a = true) (fb : flatW b = true) : eqV x y = leafEq a b := by
  cases a <;> cases b <;> first | (rw [show x = _ from qa, show y = _ from qb]; rfl) | (simp [flatW] at fa; done) | (simp [flatW] at fb; done)
theorem flat_all {r : List Addr} {x : V} {a : W} (qa : VW G r x a) (fa : flatW a = true) : ∀ {vs : List V} {ws : List W}, VWs G r vs ws → ws.all flatW = true → vs.all flatV = true ∧ inV x vs = ws.any fun y => leafEq y a
  | _, _, .nil, _ => ⟨rfl, rfl⟩
  | _, _, .cons q t, f => by
    rw [List.all_cons, Bool.and_eq_true] at f
    obtain ⟨h1, h2⟩ := flat_all qa fa t f.2
    refine ⟨by rw [List.all_cons, h1, flat_v q f.1]; rfl, ?_⟩
    unfold inV at h2 ⊢
    rw [List.any_cons, List.any_cons, h2, leaf_eq q qa f.1 fa]
/-- y in d, a dict -/
def rInDct : R2 := fun y x H Q => ∃ a o, x = .ref a ∧ DGet H a y o ∧ Q (.bl o.isSome) H
def rNotInDct : R2 := fun y x H Q => ∃ a o, x = .ref a ∧ DGet H a y o ∧ Q (.bl (!o.isSome)) H
theorem op_inDct (hu : X.A.units + 1 < cLine) : OpR X (compareOp .In) rInDct := by
  intro pins s σ H y x iv u Q I ry rx ⟨a, o, ex, g, q⟩
  subst ex
  obtain rfl : u = Value.ref a := rx
  exact d_in hu I g ry fun s3 I3 => ⟨.bl o.isSome, H, I3, rfl, q⟩
theorem op_notInDct (hu : X.A.units + 1 < cLine) : OpR X (compareOp .NotIn) rNotInDct := by
  intro pins s σ H y x iv u Q I ry rx ⟨a, o, ex, g, q⟩
  subst ex
  obtain rfl : u = Value.ref a := rx
  exact d_notIn hu I g ry fun s3 I3 => ⟨.bl (!o.isSome), H, I3, rfl, q⟩
/-- z in d, a written dict -/
def rInKd (K : PySem.W.Frag) (w : World) (neg : Bool) : R2 := fun x y H Q => ∃ (d : Addr) (ar : Array DictEntry) (n : Nat) (z : Str) (o : Option Value), KDict K w d ar n ∧ x = .str z ∧ y = .ref d ∧ PySem.W.nsIn K d z = some o ∧ Q (.bl (if neg then !o.isSome else o.isSome)) H
theorem op_inKd : OpR X (compareOp .In) (rInKd X.K X.w false) := by
  intro pins s σ H x y v u Q I rx ry ⟨d, ar, n, z, o, D, e1, e2, e3, q⟩
  exact op_in_kd D pins s σ H x y v u Q I rx ry ⟨z, o, e1, e2, e3, q⟩
theorem op_notInKd : OpR X (compareOp .NotIn) (rInKd X.K X.w true) := by
  intro pins s σ H x y v u Q I rx ry ⟨d, ar, n, z, o, D, e1, e2, e3, q⟩
  exact op_notIn_kd D pins s σ H x y v u Q I rx ry ⟨z, o, e1, e2, e3, q⟩
theorem key_of {r : List Addr} {v : V} {w : W} {k : Key} (q : VW G r v w) (e : keyOf w = some k) : v = kV k := by
  cases w <;> first | (cases e; exact q) | cases e
theorem lookF_find : ∀ {es : List (Str × V)} {kvs : List (Str × W)} {r : List Addr} (z : Str), FVW G r es kvs → (match lookF kvs z with | some w => ∃ p, es.find? (fun p => p.1 == z) = some p ∧ VW G r p.2 w | none => es.find? (fun p => p.1 == z) = none)
  | [], [], _, _, .nil => rfl
  | p :: es, (a, w) :: ks, r, z, .cons ⟨h1, h2⟩ t => by
    have ih := lookF_find z t
    have h1 : p.1 = a := h1
    by_cases c : a = z
    · simp only [lookF, if_pos c]
      exact ⟨p, by rw [List.find?_cons]; simp [h1, c], h2⟩
    · simp only [lookF, if_neg c]
      have : (p.1 == z) = false := by rw [h1]; simpa using c
      rw [List.find?_cons, this]
      exact ih
theorem wd_look {r : List Addr} {K : PySem.W.Frag} {w : World} {a : Addr} {es : List (Str × V)} {kvs : List (Str × W)} (D : WdAt K w a es) (f : FVW G r es kvs) (z : Str) : ∃ ar n, KDict K w a ar n ∧ (match lookF kvs z with
    | some x => ∃ v u, PySem.W.nsIn K a z = some (some u) ∧ RelV v u ∧ VW G r v x
    | none => PySem.W.nsIn K a z = some none) := by
  obtain ⟨ar, n, D, _, _, k⟩ := D
  refine ⟨ar, n, D, ?_⟩
  have k := k z
  have l := lookF_find z f
  cases g : lookF kvs z with
  | none =>
    rw [g] at l
    rw [l] at k
    exact k
  | some x =>
    rw [g] at l
    obtain ⟨p, l1, l2⟩ := l
    rw [l1] at k
    obtain ⟨u, k1, k2⟩ := k
    exact ⟨p.2, u, k1, k2, l2⟩
/-- what a membership asks, by kinds -/
theorem in_cases {r : List Addr} {h : Hv} {H : Hp} {x y : V} {a b : W} {z : Bool} (rel : Rel G r h H) (va : VW G r x a) (vb : VW G r y b) (e : inW h a b = some z) :
    (∃ i j, x = .str i ∧ y = .str j ∧ z = !(Builtin.Str.occurrences j i 0 j.length 1).isEmpty) ∨ (∃ p o, y = .ref p ∧ DGet H p x o ∧ z = o.isSome) ∨
    (∃ (d : Addr) (ar : Array DictEntry) (n : Nat) (t : Str) (o : Option Value), KDict G.K G.w d ar n ∧ x = .str t ∧ y = .ref d ∧ PySem.W.nsIn G.K d t = some o ∧ z = o.isSome) ∨
    (∃ p xs, y = .ref p ∧ SqT G.K H p xs ∧ flatV x = true ∧ xs.all flatV = true ∧ z = inV x xs) ∨
    (∃ d ds, Dp G.K H x d ∧ Dp G.K H y (.list ds) ∧ SeqAt.shaped d = true ∧ SeqAt.shaped (.list ds) = true ∧ z = ds.any fun q => PyData.eqv q d) := by
  cases b with
  | str j =>
    cases a with
    | str i => cases e; exact .inl ⟨i, j, va, vb, rfl⟩
    | _ => cases e
  | ref n =>
    obtain ⟨p, ep, rfl⟩ := vb
    have e' : (match h.get n with
      | some (.dct kvs) => (match keyOf a with
        | some k => some (lookK kvs k).isSome
        | none => none)
      | some (.wdc kvs) => (match a with
        | .str s => some (lookF kvs s).isSome
        | _ => none)
      | some (.clo ..) => none
      | some (.tup xs) => if flatW a && xs.all flatW then some (xs.any fun y => leafEq y a) else none
      | _ => (match rdD h a, rdD h (.ref n) with
        | some d, some (.list ds) => some (ds.any fun z => PyData.eqv z d)
        | _, _ => none)) = some z := by cases a <;> exact e
    have dat : (match rdD h a, rdD h (.ref n) with
        | some d, some (.list ds) => some (ds.any fun z => PyData.eqv z d)
        | _, _ => none) = some z → ∃ d ds, Dp G.K H x d ∧ Dp G.K H (.ref p) (.list ds) ∧ SeqAt.shaped d = true ∧ SeqAt.shaped (.list ds) = true ∧ z = ds.any fun q => PyData.eqv q d := fun e => by
      cases g1 : rdD h a with
      | none => simp only [g1] at e; cases e
      | some d =>
        cases g2 : rdD h (.ref n) with
        | none => simp only [g1, g2] at e; cases e
        | some d2 =>
          simp only [g1, g2] at e
          cases d2 with
          | list ds =>
            cases e
            obtain ⟨q1, s1⟩ := rdD_dp rel va g1
            obtain ⟨q2, s2⟩ := rdD_dp rel (v := .ref p) (show VW G r (.ref p) (.ref n) from ⟨p, ep, rfl⟩) g2
            exact ⟨d, ds, q1, q2, s1, s2, rfl⟩
          | _ => cases e
    cases g : h.get n with
    | none => rw [g] at e'; exact .inr (.inr (.inr (.inr (dat e'))))
    | some o =>
      rw [g] at e'
      have w := rel.obj n o p g ep
      cases o with
      | dct kvs =>
        simp only at e'
        obtain ⟨es, hA, kA, nA⟩ := w
        cases gk : keyOf a with
        | none => rw [gk] at e'; cases e'
        | some k =>
          rw [gk] at e'
          cases e'
          have lk := look_val k kA
          refine .inr (.inl ⟨p, valV es k, rfl, by rw [key_of va gk]; exact DGet.k hA, ?_⟩)
          cases gl : lookK kvs k with
          | none => rw [gl] at lk; rw [lk]; rfl
          | some w2 => rw [gl] at lk; obtain ⟨v2, l1, _⟩ := lk; rw [l1]; rfl
      | wdc kvs =>
        simp only at e'
        obtain ⟨es, D, f⟩ := w
        cases a with
        | str t =>
          cases e'
          obtain ⟨ar, m, D, l⟩ := wd_look D f t
          cases gl : lookF kvs t with
          | none => rw [gl] at l; exact .inr (.inr (.inl ⟨p, ar, m, t, none, D, va, rfl, l, rfl⟩))
          | some w2 => rw [gl] at l; obtain ⟨v, u, l1, _⟩ := l; exact .inr (.inr (.inl ⟨p, ar, m, t, some u, D, va, rfl, l1, rfl⟩))
        | _ => cases e'
      | tup xs =>
        simp only at e'
        obtain ⟨vs, s, q⟩ := w
        split at e'
        · rename_i f
          cases e'
          obtain ⟨f1, f2⟩ := Bool.and_eq_true_iff.mp f
          obtain ⟨h1, h2⟩ := flat_all va f1 q f2
          exact .inr (.inr (.inr (.inl ⟨p, vs, rfl, s, flat_v va f1, h1, h2.symm⟩)))
        · cases e'
      | clo _ _ => cases e'
      | _ => exact .inr (.inr (.inr (.inr (dat e'))))
  | _ => cases a <;> cases e
theorem op_inV (hK : X.K = G.K) (hw : X.w = G.w) (hu : X.A.units + 65 < cLine) : OpR X (compareOp .In) (rV G E (rB fun h => cmpW h .In)) := cmpB (opr_or op_in_str (opr_or (op_inDct (by omega)) (opr_or op_inKd (opr_or op_in_seq (op_inD hu))))) fun r h H x y a b z Q rel va vb e q => by
  rcases in_cases rel va vb e with ⟨i, j, e1, e2, rfl⟩ | ⟨p, o, e1, e2, rfl⟩ | ⟨d, ar, n, t, o, D, e1, e2, e3, rfl⟩ | ⟨p, xs, e1, s, f, fs, rfl⟩ | ⟨d, ds, p1, p2, s1, s2, rfl⟩
  · exact .inl ⟨i, j, e1, e2, q⟩
  · exact .inr (.inl ⟨p, o, e1, e2, q⟩)
  · rw [hK, hw]; exact .inr (.inr (.inl ⟨d, ar, n, t, o, D, e1, e2, e3, q⟩))
  · rw [hK]; exact .inr (.inr (.inr (.inl ⟨p, xs, e1, .inr s, f, fs, q⟩)))
  · rw [hK]; exact .inr (.inr (.inr (.inr ⟨d, ds, p1, p2, s1, s2, q⟩)))
theorem op_notInV (hK : X.K = G.K) (hw : X.w = G.w) (hu : X.A.units + 65 < cLine) : OpR X (compareOp .NotIn) (rV G E (rB fun h => cmpW h .NotIn)) := cmpB (opr_or op_notIn_str (opr_or (op_notInDct (by omega)) (opr_or op_notInKd (opr_or op_notIn_seq (op_notInD hu))))) fun r h H x y a b z Q rel va vb e q => by
  have e' : (inW h a b).map (!·) = some z := e
  cases g : inW h a b with
  | none => rw [g] at e'; cases e'
  | some z0 =>
    rw [g] at e'
    cases e'
    rcases in_cases rel va vb g with ⟨i, j, e1, e2, rfl⟩ | ⟨p, o, e1, e2, rfl⟩ | ⟨d, ar, n, t, o, D, e1, e2, e3, rfl⟩ | ⟨p, xs, e1, s, f, fs, rfl⟩ | ⟨d, ds, p1, p2, s1, s2, rfl⟩
    · exact .inl ⟨i, j, e1, e2, q⟩
    · exact .inr (.inl ⟨p, o, e1, e2, q⟩)
    · rw [hK, hw]; exact .inr (.inr (.inl ⟨d, ar, n, t, o, D, e1, e2, e3, q⟩))
    · rw [hK]; exact .inr (.inr (.inr (.inl ⟨p, xs, e1, .inr s, f, fs, q⟩)))
    · rw [hK]; exact .inr (.inr (.inr (.inr ⟨d, ds, p1, p2, s1, s2, q⟩)))
theorem op_cmpV (hK : X.K = G.K) (hw : X.w = G.w) (hu : X.A.units + 65 < cLine) (o : CmpOp) : OpR X (compareOp o) (rV G E (rB fun h => cmpW h o)) := by
  cases o with
  | Eq => exact op_eqVV hK hu
  | NotEq => exact op_neV hK (by omega)
  | Lt => exact op_ltV hK (by omega)
  | LtE => exact op_leV
  | Gt => exact op_gtV
  | GtE => exact op_geV
  | Is => exact op_isV
  | IsNot => exact op_isnotV
  | In => exact op_inV hK hw hu
  | NotIn => exact op_notInV hK hw hu
end
end RP

set_option Elab.async false
set_option linter.all false
set_option maxRecDepth 100000
set_option maxHeartbeats 4000000
/-! RP8: truth, items, cuts, built-ins. -/
namespace RP
open PySem PySem.Spec PyProof.Rows L2

section
variable {X : Cx} {G : Gd} {E : XK} {r : List Addr} {h : Hv} {H : Hp}
theorem isEmpty_pair {α β : Type} {R : α → β → Prop} {xs : List α} {ys : List β} (p : Paired R xs ys) : (!ys.isEmpty) = !xs.isEmpty := by cases p <;> rfl
theorem truth_v (rel : Rel G r h H) {v : V} {w : W} {b : Bool} (q : VW G r v w) (e : truth h w = some b) : TruV G.K v H b := by
  cases w with
  | non => cases e; rw [show v = .non from q]; rfl
  | bl k => cases e; rw [show v = .bl b from q]; rfl
  | int i => cases e; rw [show v = .int i from q]; rfl
  | str s =>
    have e' : (if s.length ≤ sizeLine then some ((s.length : Int) != 0) else none) = some b := e
    rw [show v = .str s from q]
    split at e'
    · rename_i z; cases e'; exact ⟨z, rfl⟩
    · cases e'
  | ref n =>
    obtain ⟨a, ea, rfl⟩ := q
    simp only [truth] at e
    cases g : h.get n with
    | none => rw [g] at e; cases e
    | some o =>
      rw [g] at e
      have w := rel.obj n o a g ea
      cases o with
      | lst xs => cases e; obtain ⟨vs, e1, e2⟩ := w; exact .inl ⟨vs, .of e1, isEmpty_pair e2⟩
      | rls xs =>
        cases e
        obtain ⟨vs, e1, e2⟩ := w
        refine .inl ⟨vs, ?_, isEmpty_pair e2⟩
        rcases e1 with ⟨o, e1⟩ | e1
        · exact .inl (.inr ⟨o, e1⟩)
        · exact e1 H
      | tup xs => cases e; obtain ⟨vs, e1, e2⟩ := w; exact .inr (.inl ⟨vs, e1, isEmpty_pair e2⟩)
      | dct kvs => cases e; obtain ⟨es, e1, e2, _⟩ := w; exact .inr (.inr ⟨es, e1, isEmpty_pair e2⟩)
      | _ => cases e
  | _ => cases e
/-! ### items -/
def rO (f : Hv → W → W → Option W) : Hv → W → W → Res W := fun h a b => match f h a b with
  | some w => .ok w h
  | none => .no
theorem rO_ok {f : Hv → W → W → Option W} {Q : VK} {a b : W} (P : PostG G (RVal G) E r h H Q (rO f h a b)) (rel : Rel G r h H) : ∃ w, f h a b = some w ∧ ∀ v, VW G r v w → Q v H := by
  unfold rO at P
  cases e : f h a b with
  | none => rw [e] at P; exact P.elim
  | some w => rw [e] at P; exact ⟨w, rfl, fun v q => post_val rel P q⟩
theorem ixP_eq (n : Nat) (i : Int) : ixP n i = ixN n i := rfl
theorem atI_of {α : Type} {xs : List α} {i : Int} {j : Nat} {v : α} (e : ixP xs.length i = some j) (q : xs[j]? = some v) : atI xs i = some v := by
  unfold atI
  rw [← ixP_eq, e]
  exact q
def rIxDct : R2 := fun x y H Q => ∃ a v, x = .ref a ∧ DGet H a y (some v) ∧ Q v H
theorem ix_dct (hu : X.A.units + 1 < cLine) : IxR X rIxDct := by
  intro value slice pins s σ H x y v u Q I rx ry ⟨a, z, ex, g, q⟩ hs
  subst ex
  obtain rfl : v = Value.ref a := rx
  exact tail_any (dict_typeIs I g) PySem.F.slot_dict_getitem.lookup (d_getItem hu I g ry fun w' s3 I3 rw' => ⟨z, H, I3, rw', q⟩) hs
theorem ix_all (hu : X.A.units + 1 < cLine) : IxR X (fun x y H Q => rIx X.K x y H Q ∨ rIxDct x y H Q ∨ rIxD X.K X.w x y H Q) := (IxR.or ix_seq (IxR.or (ix_dct hu) ix_kdict))
theorem ix_V (hK : X.K = G.K) (hw : X.w = G.w) (hu : X.A.units + 1 < cLine) : IxR X (rV G E (rO fun h => idxW h)) := by
  refine IxR.imp (ix_all hu) ?_
  rintro x y H Q ⟨r, h, a, b, rel, va, vb, P⟩
  obtain ⟨w, e, k⟩ := rO_ok P rel
  rw [hK, hw]
  cases a with
  | str s =>
    cases b with
    | int i =>
      have e' : (if s.length ≤ 16777216 then (match ixP s.cps.toList.length i with
        | some j => (s.cps.toList[j]?).map fun c => W.str ⟨#[c]⟩
        | none => none) else none) = some w := e
      split at e'
      · rename_i z
        cases g : ixP s.cps.toList.length i with
        | none => rw [g] at e'; cases e'
        | some j =>
          rw [g] at e'
          simp only at e'
          cases g2 : s.cps.toList[j]? with
          | none => rw [g2] at e'; cases e'
          | some c =>
            rw [g2] at e'
            cases e'
            exact .inl (.inr (.inr ⟨s, i, c, va, vb, by rw [szl]; exact z, atI_of g g2, k _ rfl⟩))
      · cases e'
    | _ => cases e
  | ref n =>
    obtain ⟨p, ep, rfl⟩ := va
    have e' : refIx h n b = some w := e
    have sq : (match seqOf h (.ref n) with
        | some xs => seqIx xs b
        | none => none) = some w → rIx G.K (.ref p) y H Q := fun e => by
      cases g : seqOf h (.ref n) with
      | none => rw [g] at e; cases e
      | some xs =>
        rw [g] at e
        cases b with
        | int i =>
          simp only [seqIx] at e
          cases g2 : ixP xs.length i with
          | none => rw [g2] at e; cases e
          | some j =>
            rw [g2] at e
            obtain ⟨a', vs, e1, e2, e3, _, _⟩ := seq_at rel (x := .ref p) (show VW G r (.ref p) (.ref n) from ⟨p, ep, rfl⟩) g
            cases e1
            obtain ⟨v, e4, e5⟩ := pair_get e3 e
            have l := pair_len e3
            have at_ : atI vs i = some v := atI_of (by rw [l]; exact g2) e4
            rcases e2 with e2 | e2
            · exact .inl ⟨p, vs, i, v, rfl, vb, e2, at_, k v e5⟩
            · exact .inr (.inl ⟨p, vs, i, v, rfl, vb, e2, at_, k v e5⟩)
        | _ => cases e
    unfold refIx at e'
    cases g : h.get n with
    | none => rw [g] at e'; exact .inl (sq e')
    | some o =>
      rw [g] at e'
      have ob := rel.obj n o p g ep
      cases o with
      | dct kvs =>
        simp only at e'
        obtain ⟨es, hA, kA, nA⟩ := ob
        cases gk : keyOf b with
        | none => rw [gk] at e'; cases e'
        | some kk =>
          rw [gk] at e'
          have lk := look_val kk kA
          rw [show lookK kvs kk = some w from e'] at lk
          obtain ⟨v2, l1, l2⟩ := lk
          refine .inr (.inl ⟨p, v2, rfl, ?_, k v2 l2⟩)
          rw [key_of vb gk, ← l1]
          exact DGet.k hA
      | wdc kvs =>
        simp only at e'
        obtain ⟨es, D, f⟩ := ob
        cases b with
        | str t =>
          obtain ⟨ar, m, D, l⟩ := wd_look D f t
          rw [show lookF kvs t = some w from e'] at l
          obtain ⟨v, u, l1, l2, l3⟩ := l
          exact .inr (.inr ⟨p, t, v, rfl, vb, ⟨ar, m, u, D.at_, D.lit, l1, l2⟩, k v l3⟩)
        | _ => cases e'
      | _ => exact .inl (sq e')
  | _ => cases b <;> cases e
/-! ### cuts -/
theorem cutP_eq (n d : Nat) (o : Option Int) : cutP n d o = HT.sIx n d o := by cases o <;> rfl
theorem cut_pair {vs : List V} {ws : List W} (q : VWs G r vs ws) (lo hi : Option Int) : VWs G r (cutV vs lo hi) (cutW ws lo hi) := by
  unfold cutV cutW
  rw [cutP_eq, cutP_eq, pair_len q]
  exact pair_take _ (pair_drop _ q)
def rSlV (G : Gd) (E : XK) : V → Option Int → Option Int → Hp → VK → Prop := fun x lo hi H Q => ∃ r h w, Rel G r h H ∧ VW G r x w ∧ PostG G (RVal G) E r h H Q (slcW h w lo hi)
theorem sl_V (hK : X.K = G.K) : SlR X (rSlV G E) := by
  intro pins s σ H x v vl vu lo hi sl Q I rx hsl pl pu ⟨r, h, w, rel, q, P⟩
  refine (SlR.or sl_list sl_tup) pins s σ H x v vl vu lo hi sl Q I rx hsl pl pu ?_
  rw [hK]
  cases w with
  | ref n =>
    obtain ⟨a, ea, rfl⟩ := q
    simp only [slcW] at P
    cases g : h.get n with
    | none => rw [g] at P; exact P.elim
    | some o =>
      rw [g] at P
      have ob := rel.obj n o a g ea
      cases o with
      | lst xs =>
        obtain ⟨vs, e1, e2⟩ := ob
        exact .inl ⟨a, vs, rfl, .of e1, fun p hp => post_lst rel P hp (cut_pair e2 lo hi)⟩
      | tup xs =>
        obtain ⟨vs, e1, e2⟩ := ob
        simp only at P
        by_cases c : cutP xs.length 0 lo = 0 ∧ cutP xs.length xs.length hi = xs.length
        · rw [if_pos c] at P; exact P.elim
        · rw [if_neg c] at P
          refine .inr ⟨a, vs, rfl, e1, ?_, fun p hp => post_tup rel P hp (cut_pair e2 lo hi)⟩
          rw [← cutP_eq, ← cutP_eq, pair_len e2]
          exact c
      | _ => exact P.elim
  | _ => exact (show False from P).elim
end
end RP

set_option Elab.async false
set_option linter.all false
set_option maxRecDepth 100000
set_option maxHeartbeats 4000000
/-! RP9: sorting. -/
namespace RP
open PySem PySem.Spec PyProof.Rows L2

section
variable {κ β γ : Type} {lt : κ → κ → Bool}
theorem ins_perm (x : κ × β) : ∀ l : List (κ × β), (insG lt x l).Perm (x :: l)
  | [] => .refl _
  | y :: r => by
    unfold insG
    split
    · exact .refl _
    · exact ((ins_perm x r).cons y).trans (.swap x y r)
theorem isort_perm : ∀ l : List (κ × β), (isortG lt l).Perm l
  | [] => .refl _
  | x :: r => (ins_perm x _).trans ((isort_perm r).cons x)
theorem ins_map (f : β → γ) (x : κ × β) : ∀ l : List (κ × β), (insG lt x l).map (fun p => (p.1, f p.2)) = insG lt (x.1, f x.2) (l.map fun p => (p.1, f p.2))
  | [] => rfl
  | y :: r => by
    unfold insG
    by_cases c : lt x.1 y.1 = true
    · rw [if_pos c, List.map_cons, List.map_cons]
      show _ = if lt x.1 y.1 = true then _ else _
      rw [if_pos c]
    · rw [if_neg c, List.map_cons, ins_map f x r]
      show _ = if lt x.1 y.1 = true then _ else _
      rw [if_neg c]
theorem isort_map (f : β → γ) : ∀ l : List (κ × β), (isortG lt l).map (fun p => (p.1, f p.2)) = isortG lt (l.map fun p => (p.1, f p.2))
  | [] => rfl
  | x :: r => by
    show (insG lt x (isortG lt r)).map _ = insG lt (x.1, f x.2) (isortG lt (r.map fun p => (p.1, f p.2)))
    rw [ins_map, isort_map f r]
theorem strict_map (f : β → γ) : ∀ l : List (κ × β), strictG lt (l.map fun p => (p.1, f p.2)) = strictG lt l
  | [] => rfl
  | [x] => rfl
  | x :: y :: r => by
    show (lt x.1 y.1 && strictG lt ((y :: r).map fun p => (p.1, f p.2))) = (lt x.1 y.1 && strictG lt (y :: r))
    rw [strict_map f (y :: r)]
theorem strict_pair (tr : ∀ a b c, lt a b = true → lt b c = true → lt a c = true) : ∀ l : List (κ × β), strictG lt l = true → l.Pairwise fun a b => lt a.1 b.1 = true
  | [], _ => .nil
  | [x], _ => by simp
  | x :: y :: r, h => by
    have h : (lt x.1 y.1 && strictG lt (y :: r)) = true := h
    obtain ⟨h1, h2⟩ := Bool.and_eq_true_iff.mp h
    have ih := strict_pair tr (y :: r) h2
    refine .cons (fun z hz => ?_) ih
    rcases List.mem_cons.mp hz with e | e
    · rw [e]; exact h1
    · exact tr _ _ _ h1 (List.rel_of_pairwise_cons ih e)
theorem pair_mem {α : Type} {R : α → α → Prop} : ∀ {l : List α}, l.Pairwise R → ∀ a ∈ l, ∀ b ∈ l, a = b ∨ R a b ∨ R b a
  | [], _, _, h, _, _ => nomatch h
  | x :: l, .cons hx t, a, ha, b, hb => by
    rcases List.mem_cons.mp ha with e | e
    · rcases List.mem_cons.mp hb with f | f
      · exact .inl (e.trans f.symm)
      · exact .inr (.inl (e ▸ hx b f))
    · rcases List.mem_cons.mp hb with f | f
      · exact .inr (.inr (f ▸ hx a e))
      · exact pair_mem t a e b f
end
section
variable {κ β : Type} {lt : κ → κ → Bool} {enc : κ → PyData}
theorem dlt_trans (x y z : PyData) (h1 : PySem.W.dataLt x y = true) (h2 : PySem.W.dataLt y z = true) : PySem.W.dataLt x z = true := lex_trans _ _ _ h1 h2
theorem dlt_irr (x : PyData) : PySem.W.dataLt x x = false := lex_irrefl _
theorem dlt_asym {x y : PyData} (h1 : PySem.W.dataLt x y = true) : PySem.W.dataLt y x = false := by
  cases h : PySem.W.dataLt y x with
  | false => rfl
  | true => have := dlt_trans _ _ _ h1 h; rw [dlt_irr] at this; cases this
theorem dlt_le {x y z : PyData} (h1 : PySem.W.dataLt y x = false) (h2 : PySem.W.dataLt z y = false) : PySem.W.dataLt z x = false := by
  cases h : PySem.W.dataLt z x with
  | false => rfl
  | true =>
    cases g : PySem.W.dataLt y z with
    | true => rw [dlt_trans _ _ _ g h] at h1; cases h1
    | false =>
      have e : PySem.W.keyToks y = PySem.W.keyToks z := lex_total _ _ g h2
      have : PySem.W.dataLt y x = PySem.W.dataLt z x := by unfold PySem.W.dataLt; rw [e]
      rw [this, h] at h1; cases h1
theorem merge_isort (he : ∀ a b, PySem.W.dataLt (enc a) (enc b) = lt a b) (l : List (κ × β)) (hs : strictG lt (isortG lt l) = true) : l.mergeSort (PySem.W.dataLe false fun p => enc p.1) = isortG lt l := by
  have hp := strict_pair (fun a b c h1 h2 => by rw [← he] at h1 h2 ⊢; exact dlt_trans _ _ _ h1 h2) _ hs
  refine List.Perm.eq_of_pairwise (le := fun a b => (PySem.W.dataLe false (fun p : κ × β => enc p.1)) a b = true) (fun a b ha hb h1 h2 => ?_) (List.pairwise_mergeSort (fun a b c h1 h2 => ?_) (fun a b => ?_) l) (hp.imp fun {a b} h => ?_) ((List.mergeSort_perm l _).trans (isort_perm l).symm)
  · rw [PySem.W.dataLe_eq] at h1 h2
    simp only [cond_false, he, Bool.not_eq_true'] at h1 h2
    have ha' := (isort_perm (lt := lt) l).mem_iff.mpr ((List.mergeSort_perm l _).mem_iff.mp ha)
    rcases pair_mem hp a ha' b hb with e | e | e
    · exact e
    · rw [h2] at e; cases e
    · rw [h1] at e; cases e
  · rw [PySem.W.dataLe_eq] at h1 h2 ⊢
    simp only [cond_false, Bool.not_eq_true'] at h1 h2 ⊢
    exact dlt_le h1 h2
  · rw [PySem.W.dataLe_eq]
    simp only [cond_false]
    cases h : PySem.W.dataLt (enc b.1) (enc a.1) with
    | false => rfl
    | true => rw [dlt_asym h]; rfl
  · rw [PySem.W.dataLe_eq]
    simp only [cond_false, Bool.not_eq_true']
    exact dlt_asym (by rw [he]; exact h)
end
section
variable {X : Cx} {κ : Type} {lt : κ → κ → Bool} {enc : κ → PyData}
/-- sorted(xs), the items by keys of data that all differ -/
def rSortG (K : PySem.W.Frag) (lt : κ → κ → Bool) (enc : κ → PyData) : List V → Hp → VK → Prop := fun xs H Q => ∃ (a : Addr) (l : List (κ × V)), xs = [.ref a] ∧ SqL K H a (l.map (·.2)) ∧ (∀ p ∈ l, Dp K H p.2 (enc p.1)) ∧ strictG lt (isortG lt l) = true ∧
  ∀ p, H p = none → Q (.ref p) (upd H p (.lst ((isortG lt l).map (·.2))))
theorem each_vals : ∀ {l : List (κ × V)} {us : List Value}, Vals (l.map (·.2)) us → PySem.W.EachIs (fun (v : Value) (b : κ × V) => RelV b.2 v) us l
  | [], _, .nil => .nil
  | _ :: _, _, .cons a t => .cons a (each_vals t)
theorem vals_each : ∀ {l : List (κ × V)} {us : List Value}, PySem.W.EachIs (fun (v : Value) (b : κ × V) => RelV b.2 v) us l → Vals (l.map (·.2)) us
  | [], _, .nil => .nil
  | _ :: _, _, .cons a t => .cons a (vals_each t)
theorem each_reads {pins : List (Addr × Obj)} {σ : L2.St} {H : Hp} {s : Shared} (I : Inv X pins σ H s) : ∀ {l : List (κ × V)} {us : List Value}, Vals (l.map (·.2)) us → (∀ p ∈ l, Dp X.K H p.2 (enc p.1)) → PySem.W.EachIs (fun (v : Value) (b : κ × V) => ∃ as, Reads s.heap v (enc b.1) as) us l
  | [], _, .nil, _ => .nil
  | p :: _, _, .cons a t, h => .cons (Dp.reads I _ _ _ (h p (List.mem_cons_self ..)) a) (each_reads I t fun q hq => h q (List.mem_cons_of_mem _ hq))
theorem cr_sortG (he : ∀ a b, PySem.W.dataLt (enc a) (enc b) = lt a b) (hal : ∀ a b, PySem.W.alike (enc a) (enc b) = true) (hso : ∀ a, enc a ≠ .none ∧ ∀ xs, enc a ≠ .tuple xs) (hdp : ∀ a, (enc a).depth ≤ 1) (hu : X.A.units + 64 < cLine) :
    CallR X (.builtin "sorted") (rSortG X.K lt enc) := by
  intro pins s σ H xs us Q I r ⟨a, l, ex, hl, hd, hs, q⟩
  subst ex
  obtain ⟨u, eu, rx⟩ := vals1 r
  subst eu
  cases rx
  obtain ⟨its, rv, pl, hz⟩ := I.list hl
  have hz' : l.length ≤ sizeLine := by rw [List.length_map] at hz; exact hz
  have e1 : PySem.W.AllAlike (l.map fun p => enc p.1) := PySem.W.AllAlike.of (enc := fun p : κ × V => enc p.1) fun b b' => hal b.1 b'.1
  have e2 : PySem.W.Sortable (l.map fun p => enc p.1) := PySem.W.Sortable.others (enc := fun p : κ × V => enc p.1) fun b => hso b.1
  refine PySem.W.sorted_data (enc := fun p : κ × V => enc p.1) (R := fun (v : Value) (b : κ × V) => RelV b.2 v) pl.isList (each_vals rv) (each_reads I rv hd) e1 e2 hz' (fun b _ => by have := hdp b.1; omega) fun out ho eo => ?_
  rw [merge_isort he l hs] at eo
  have vo := vals_each eo
  obtain ⟨c, hc⟩ := sortedAll_at s.heap its out.toArray
  refine ⟨.ref (s.heap.objs.size + 1), upd H (s.heap.objs.size + 1) (.lst ((isortG lt l).map (·.2))), I.laid (t' := s.toks) (fun b o e => sortedAll_old e) (Nat.le_succ _) ?_, rfl, q _ (I.hok.fresh (Nat.le_succ _))⟩
  refine ⟨?_, out, c, vo, hc⟩
  rw [List.length_map, (isort_perm l).length_eq]
  exact hz'
end
end RP

set_option Elab.async false
set_option linter.all false
set_option maxRecDepth 100000
set_option maxHeartbeats 4000000
/-! RP10: built-in functions. -/
namespace RP
open PySem PySem.Spec PyProof.Rows L2

section
variable {X : Cx} {G : Gd} {E : XK}
def rVs (G : Gd) (E : XK) (f : Hv → List W → Res W) : List V → Hp → VK → Prop := fun xs H Q => ∃ r h ws, Rel G r h H ∧ VWs G r xs ws ∧ PostG G (RVal G) E r h H Q (f h ws)
theorem callr_or {f : Value} {R R' : List V → Hp → VK → Prop} (a : CallR X f R) (b : CallR X f R') : CallR X f (fun xs H Q => R xs H Q ∨ R' xs H Q) := fun pins s σ H xs us Q I r w => w.elim (a pins s σ H xs us Q I r) (b pins s σ H xs us Q I r)
theorem one_of {r : List Addr} {xs : List V} {w : W} (q : VWs G r xs [w]) : ∃ v, xs = [v] ∧ VW G r v w := by
  cases q with
  | cons a t => cases t; exact ⟨_, rfl, a⟩
/-- a call of one argument, else nothing -/
theorem call1 {f : Value} {R : List V → Hp → VK → Prop} {b : Bi} (ho : CallR X f R) (hb : ∀ (h : Hv) (ws : List W), (∀ w, ws ≠ [w]) → biW h b ws = .no)
    (k : ∀ (r : List Addr) (h : Hv) (H : Hp) (x : V) (w : W) (Q : VK), Rel G r h H → VW G r x w → PostG G (RVal G) E r h H Q (biW h b [w]) → R [x] H Q) : CallR X f (rVs G E fun h => biW h b) := by
  refine CallR.imp ho ?_
  rintro xs H Q ⟨r, h, ws, rel, q, P⟩
  by_cases c : ∃ w, ws = [w]
  · obtain ⟨w, rfl⟩ := c
    obtain ⟨v, rfl, q'⟩ := one_of q
    exact k r h H v w Q rel q' P
  · have P : PostG G (RVal G) E r h H Q (biW h b ws) := P
    rw [hb h ws fun w e => c ⟨w, e⟩] at P
    exact P.elim
theorem bi_one (b : Bi) (h : Hv) (ws : List W) (n : ∀ w, ws ≠ [w]) : biW h b ws = .no := by
  match ws with
  | [] => rfl
  | [w] => exact absurd rfl (n w)
  | _ :: _ :: _ => rfl
/-- what a reference is -/
theorem ref_obj {r : List Addr} {h : Hv} {H : Hp} (rel : Rel G r h H) {n : Nat} {x : V} {o : O} (q : VW G r x (.ref n)) (e : h.get n = some o) : ∃ a, x = .ref a ∧ r[n]? = some a ∧ OR G r H a o := by
  obtain ⟨a, ea, rfl⟩ := q
  exact ⟨a, rfl, ea, rel.obj n o a e ea⟩
theorem bi_len (hK : X.K = G.K) : CallR X (.builtin "len") (rVs G E fun h => biW h .len) := call1 (callr_or call_len call_lenD) (bi_one _) fun r h H x w Q rel q P => by
  rw [hK]
  have sq : ∀ ws, seqOf h w = some ws → PostG G (RVal G) E r h H Q (.ok (.int ws.length) h) → ∃ y n, [x] = [y] ∧ LenV G.K y H n ∧ Q (.int n) H := fun ws e P => by
    obtain ⟨a, vs, rfl, e1, e2, _, _⟩ := seq_at rel q e
    refine ⟨_, vs.length, rfl, ?_, by rw [pair_len e2]; exact post_val rel P rfl⟩
    rcases e1 with e1 | e1
    · exact .inl ⟨vs, e1, rfl⟩
    · exact .inr ⟨vs, e1, rfl⟩
  cases w with
  | str s =>
    have P' : PostG G (RVal G) E r h H Q (if s.length ≤ 16777216 then .ok (.int s.length) h else .no) := P
    split at P'
    · rename_i z
      exact .inl ⟨x, s.length, rfl, by rw [show x = .str s from q]; exact ⟨by rw [szl]; exact z, rfl⟩, post_val rel P' rfl⟩
    · exact P'.elim
  | ref n =>
    have P' : PostG G (RVal G) E r h H Q (match seqOf h (.ref n) with
      | some xs => .ok (.int xs.length) h
      | none => (match dctOf h (.ref n) with
        | some kvs => .ok (.int kvs.length) h
        | none => .no)) := P
    cases g : seqOf h (.ref n) with
    | some ws => rw [g] at P'; exact .inl (sq ws g P')
    | none =>
      rw [g] at P'
      simp only at P'
      cases g2 : dctOf h (.ref n) with
      | none => rw [g2] at P'; exact P'.elim
      | some kvs =>
        rw [g2] at P'
        obtain ⟨_, a, es, _, _, _, rfl, hA, kA, _⟩ := dct_at rel q g2
        exact .inr ⟨a, es, rfl, hA, by rw [pair_len kA]; exact post_val rel P' rfl⟩
  | _ => exact (show False from P).elim
/-- list(d) of a written dict -/
def rListKd (K : PySem.W.Frag) (w : World) : List V → Hp → VK → Prop := fun xs H Q => ∃ (d : Addr) (es : List (Str × V)), xs = [.ref d] ∧ WdAt K w d es ∧ ∀ p, H p = none → Q (.ref p) (upd H p (.lst (es.map fun e => V.str e.1)))
theorem call_listKd (hc : X.calm = true) : CallR X (.type "list") (rListKd X.K X.w) := by
  intro pins s σ H xs us Q I r ⟨d, es, ex, ⟨ar, n, D, sz, pr, _⟩, q⟩
  subst ex
  obtain ⟨u, eu, rx⟩ := vals1 r
  subst eu
  cases rx
  have ho : s.heap.get? d = some ⟨.type "dict", none, .dict ar n, #[]⟩ := I.kIn _ _ D.at_
  have hl : ar.size = es.length := by
    have := pair_len pr
    rw [Array.length_toList] at this
    exact this.symm
  have hz : ar.size ≤ sizeLine := by
    rw [Array.length_toList] at sz
    rw [szl]; omega
  refine PySem.W.kdl_call (kdl_raw D.low (by exact ⟨rfl, rfl, rfl⟩) rfl) (I.ok.hd hc) ho hz fun h' tk acc' c' kp e it => ?_
  refine ⟨.ref s.heap.objs.size, upd H s.heap.objs.size (.lst (es.map fun e => V.str e.1)), I.laid (t' := tk) kp (Nat.le_refl _) (show ObjOk X.prog X.w _ _ _ (.lst _) from ⟨by rw [List.length_map, ← hl]; exact hz, acc'.toList, c', ?_, by rw [Array.toArray_toList]; exact e⟩), rfl, q _ (I.hok.fresh (Nat.le_refl _))⟩
  refine vals_of_at (by rw [List.length_map, ← hl, ← it.1]; exact Array.length_toList.symm) fun j x w h1 h2 => ?_
  obtain ⟨en, hen, rfl⟩ := it.2 j w (by rw [← Array.getElem?_toList]; exact h2)
  obtain ⟨p, hp, t, ht⟩ := pair_get pr (by rw [Array.getElem?_toList]; exact hen)
  rw [List.getElem?_map, hp] at h1
  cases h1
  exact ⟨t, ht⟩
theorem wd_keys {r : List Addr} : ∀ {es : List (Str × V)} {kvs : List (Str × W)}, FVW G r es kvs → VWs G r (es.map fun e => V.str e.1) (kvs.map fun kv => W.str kv.1)
  | _, _, .nil => .nil
  | _, _, .cons ⟨h1, _⟩ t => .cons (show V.str _ = V.str _ by rw [show _ = _ from h1]) (wd_keys t)
theorem bi_list (hK : X.K = G.K) (hw : X.w = G.w) (hc : X.calm = true) : CallR X (.type "list") (rVs G E fun h => biW h .list) := call1 (callr_or call_list_of (call_listKd hc)) (bi_one _) fun r h H x w Q rel q P => by
  rw [hK, hw]
  cases w with
  | ref n =>
    have P' : PostG G (RVal G) E r h H Q (match h.get n with
      | some (.wdc kvs) => .ok (.ref h.n) (h.push (.lst (kvs.map fun kv => .str kv.1)))
      | _ => (match seqOf h (.ref n) with
        | some xs => .ok (.ref h.n) (h.push (.lst xs))
        | none => .no)) := P
    have sq : PostG G (RVal G) E r h H Q (match seqOf h (.ref n) with
        | some xs => .ok (.ref h.n) (h.push (.lst xs))
        | none => .no) → ∃ p ys, [x] = [.ref p] ∧ (SqL G.K H p ys ∨ SqT G.K H p ys) ∧ ∀ l, H l = none → Q (.ref l) (upd H l (.lst ys)) := fun P => by
      cases g : seqOf h (.ref n) with
      | none => rw [g] at P; exact P.elim
      | some ws =>
        rw [g] at P
        obtain ⟨a, vs, rfl, e1, e2, _, _⟩ := seq_at rel q g
        exact ⟨a, vs, rfl, e1, fun l hl => post_lst rel P hl e2⟩
    cases g : h.get n with
    | none => rw [g] at P'; exact .inl (sq P')
    | some o =>
      rw [g] at P'
      cases o with
      | wdc kvs =>
        obtain ⟨a, rfl, _, es, D, f⟩ := ref_obj rel q g
        exact .inr ⟨a, es, rfl, D, fun l hl => post_lst rel P' hl (wd_keys f)⟩
      | _ => exact .inl (sq P')
  | _ => exact (show False from P).elim
theorem bi_tuple (hK : X.K = G.K) : CallR X (.type "tuple") (rVs G E fun h => biW h .tuple) := call1 call_tuple_of (bi_one _) fun r h H x w Q rel q P => by
  rw [hK]
  cases w with
  | ref n =>
    have P' : PostG G (RVal G) E r h H Q (match h.get n with
      | some (.tup _) => .ok (.ref n) h
      | some (.lst xs) => .ok (.ref h.n) (h.push (.tup xs))
      | _ => .no) := P
    cases g : h.get n with
    | none => rw [g] at P'; exact P'.elim
    | some o =>
      rw [g] at P'
      cases o with
      | tup xs =>
        obtain ⟨a, rfl, ea, vs, e1, e2⟩ := ref_obj rel q g
        exact ⟨a, vs, rfl, .inr ⟨e1, post_val rel P' ⟨a, ea, rfl⟩⟩⟩
      | lst xs =>
        obtain ⟨a, rfl, ea, vs, e1, e2⟩ := ref_obj rel q g
        exact ⟨a, vs, rfl, .inl ⟨.of e1, fun l hl => post_tup rel P' hl e2⟩⟩
      | _ => exact P'.elim
  | _ => exact (show False from P).elim
theorem bls_of : ∀ {ws : List W} {l : List Bool}, blsOf ws = some l → ws = l.map .bl
  | [], l, e => by cases e; rfl
  | w :: ws, l, e => by
    cases w with
    | bl s =>
      have e' : (blsOf ws).map (s :: ·) = some l := e
      cases g : blsOf ws with
      | none => rw [g] at e'; cases e'
      | some t => rw [g] at e'; cases e'; rw [bls_of g]; rfl
    | _ => cases e
theorem bls_vs {r : List Addr} : ∀ {l : List Bool} {vs : List V}, VWs G r vs (l.map .bl) → vs = l.map V.bl
  | [], _, .nil => rfl
  | s :: l, _, .cons a t => by rw [show _ = V.bl s from a, bls_vs t]; rfl
theorem ints_of : ∀ {ws : List W} {l : List Int}, intsOf ws = some l → ws = l.map .int
  | [], l, e => by cases e; rfl
  | w :: ws, l, e => by
    cases w with
    | int s =>
      have e' : (intsOf ws).map (s :: ·) = some l := e
      cases g : intsOf ws with
      | none => rw [g] at e'; cases e'
      | some t => rw [g] at e'; cases e'; rw [ints_of g]; rfl
    | _ => cases e
theorem ints_vs {r : List Addr} : ∀ {l : List Int} {vs : List V}, VWs G r vs (l.map .int) → vs = l.map V.int
  | [], _, .nil => rfl
  | s :: l, _, .cons a t => by rw [show _ = V.int s from a, ints_vs t]; rfl
/-- a list of plain values -/
theorem lst_plain {α : Type} {f : List W → Option (List α)} {c : α → W} {c' : α → V} {r : List Addr} {h : Hv} {H : Hp} {x : V} {w : W} {l : List α} (rel : Rel G r h H) (q : VW G r x w)
    (hf : ∀ {ws l}, f ws = some l → ws = l.map c) (hv : ∀ {l : List α} {vs : List V}, VWs G r vs (l.map c) → vs = l.map c') (k : isLst h w = true) (e : (seqOf h w).bind f = some l) : ∃ a, x = .ref a ∧ SqL G.K H a (l.map c') := by
  obtain ⟨a, ws, vs, rfl, e1, s1, q1⟩ := isLst_at rel q k
  rw [e1] at e
  have g1 : f ws = some l := e
  rw [hf g1] at q1
  rw [hv q1] at s1
  exact ⟨a, rfl, s1⟩
theorem bi_all (hK : X.K = G.K) (hc : X.calm = true) : CallR X (.builtin "all") (rVs G E fun h => biW h .all) := call1 (cr_all hc) (bi_one _) fun r h H x w Q rel q P => by
  have P : PostG G (RVal G) E r h H Q (if isLst h w then (match (seqOf h w).bind blsOf with | some bs => .ok (.bl (bs.all id)) h | none => .no) else .no) := P
  split at P
  · rename_i k
    cases e : (seqOf h w).bind blsOf with
    | none => rw [e] at P; exact P.elim
    | some bs =>
      rw [e] at P
      obtain ⟨a, rfl, s⟩ := lst_plain rel q (f := blsOf) (c := W.bl) (c' := V.bl) bls_of bls_vs k e
      exact ⟨a, bs, rfl, by rw [hK]; exact s, post_val rel P rfl⟩
  · exact P.elim
theorem bi_any (hK : X.K = G.K) (hc : X.calm = true) : CallR X (.builtin "any") (rVs G E fun h => biW h .any) := call1 (cr_any hc) (bi_one _) fun r h H x w Q rel q P => by
  have P : PostG G (RVal G) E r h H Q (if isLst h w then (match (seqOf h w).bind blsOf with | some bs => .ok (.bl (bs.any id)) h | none => .no) else .no) := P
  split at P
  · rename_i k
    cases e : (seqOf h w).bind blsOf with
    | none => rw [e] at P; exact P.elim
    | some bs =>
      rw [e] at P
      obtain ⟨a, rfl, s⟩ := lst_plain rel q (f := blsOf) (c := W.bl) (c' := V.bl) bls_of bls_vs k e
      exact ⟨a, bs, rfl, by rw [hK]; exact s, post_val rel P rfl⟩
  · exact P.elim
theorem bi_sum (hK : X.K = G.K) (hc : X.calm = true) : CallR X (.builtin "sum") (rVs G E fun h => biW h .sum) := call1 (cr_sum hc) (bi_one _) fun r h H x w Q rel q P => by
  have P : PostG G (RVal G) E r h H Q (if isLst h w then (match (seqOf h w).bind intsOf with | some bs => .ok (.int bs.sum) h | none => .no) else .no) := P
  split at P
  · rename_i k
    cases e : (seqOf h w).bind intsOf with
    | none => rw [e] at P; exact P.elim
    | some bs =>
      rw [e] at P
      obtain ⟨a, rfl, s⟩ := lst_plain rel q (f := intsOf) (c := W.int) (c' := V.int) ints_of ints_vs k e
      exact ⟨a, bs, rfl, by rw [hK]; exact s, post_val rel P rfl⟩
  · exact P.elim
theorem bi_abs : CallR X (.builtin "abs") (rVs G E fun h => biW h .abs) := call1 call_abs (bi_one _) fun r h H x w Q rel q P => by
  cases w with
  | int i => exact ⟨i, by rw [show x = .int i from q], post_val rel (w := .int (if i < 0 then -i else i)) P rfl⟩
  | _ => exact (show False from P).elim
theorem bi_int : CallR X (.type "int") (rVs G E fun h => biW h .int) := call1 call_int1 (bi_one _) fun r h H x w Q rel q P => by
  cases w with
  | int i => exact .inl ⟨i, by rw [show x = .int i from q], post_val rel (w := .int i) P rfl⟩
  | _ => exact (show False from P).elim
theorem post_dct {r : List Addr} {h : Hv} {H : Hp} {Q : VK} (rel : Rel G r h H) {ks : List (Key × W)} {es : List (Key × V)} {p : Addr} (P : PostG G (RVal G) E r h H Q (.ok (.ref h.n) (h.push (.dct ks)))) (hp : H p = none) (v : KVW G r es ks) (n : (ks.map (·.1)).Nodup) : Q (.ref p) (upd H p (.dK es)) :=
  post_new rel rfl P hp ⟨es, upd_same, pair_mono (fun _ _ x => ⟨x.1, x.2.mono (Le.push r p)⟩) v, n⟩
theorem bi_dict : CallR X (.type "dict") (rVs G E fun h => biW h .dict) := call1 call_dictD (bi_one _) fun r h H x w Q rel q P => by
  have P' : PostG G (RVal G) E r h H Q (match dctOf h w with
    | some kvs => .ok (.ref h.n) (h.push (.dct kvs))
    | none => .no) := P
  cases g2 : dctOf h w with
  | none => rw [g2] at P'; exact P'.elim
  | some kvs =>
    rw [g2] at P'
    obtain ⟨_, a, es, _, _, _, rfl, hA, kA, nA⟩ := dct_at rel q g2
    exact ⟨a, es, rfl, .inl hA, fun p hp => post_dct rel P' hp kA nA⟩
/-! ### sorted -/
theorem eraw_str : ∀ l : List Str, (l.map fun s => (s, V.str s)).map (·.2) = l.map V.str
  | [] => rfl
  | _ :: l => congrArg (_ :: ·) (eraw_str l)
/-- the keyed lists of values and of virtual values go along -/
theorem isort_pair {κ : Type} {lt : κ → κ → Bool} {r : List Addr} {l : List (κ × V)} {m : List (κ × W)} (h : Paired (fun (p : κ × V) (q : κ × W) => p.1 = q.1 ∧ VW G r p.2 q.2) l m) :
    strictG lt (isortG lt l) = strictG lt (isortG lt m) ∧ VWs G r ((isortG lt l).map (·.2)) ((isortG lt m).map (·.2)) := by
  have ex : ∃ z : List (κ × (V × W)), l = z.map (fun p => (p.1, p.2.1)) ∧ m = z.map (fun p => (p.1, p.2.2)) ∧ ∀ p ∈ z, VW G r p.2.1 p.2.2 := by
    induction h with
    | nil => exact ⟨[], rfl, rfl, fun p hp => nomatch hp⟩
    | @cons a b as bs q t ih =>
      obtain ⟨z, rfl, rfl, k⟩ := ih
      obtain ⟨a1, a2⟩ := a
      obtain ⟨b1, b2⟩ := b
      obtain ⟨q1, q2⟩ := q
      have q1 : a1 = b1 := q1
      subst q1
      exact ⟨(a1, (a2, b2)) :: z, rfl, rfl, fun p hp => (List.mem_cons.mp hp).elim (fun e => by rw [e]; exact q2) (k p)⟩
  obtain ⟨z, rfl, rfl, k⟩ := ex
  rw [← isort_map (lt := lt) (fun p : V × W => p.1), ← isort_map (lt := lt) (fun p : V × W => p.2)]
  refine ⟨by rw [strict_map, strict_map], ?_⟩
  have k2 : ∀ p ∈ isortG lt z, VW G r p.2.1 p.2.2 := fun p hp => k p ((isort_perm z).mem_iff.mp hp)
  generalize isortG lt z = y at k2
  clear k
  induction y with
  | nil => exact .nil
  | cons p y ih => exact .cons (k2 p (List.mem_cons_self ..)) (ih fun q hq => k2 q (List.mem_cons_of_mem _ hq))
theorem strs_pair {r : List Addr} : ∀ l : List Str, Paired (fun (p : Str × V) (q : Str × W) => p.1 = q.1 ∧ VW G r p.2 q.2) (l.map fun s => (s, V.str s)) (l.map fun s => (s, W.str s))
  | [] => .nil
  | _ :: l => .cons ⟨rfl, rfl⟩ (strs_pair l)
theorem rows_pair {r : List Addr} {h : Hv} {H : Hp} (rel : Rel G r h H) : ∀ {ws : List W} {vs : List V} {m : List (List Str × W)}, VWs G r vs ws → rowsOf h ws = some m →
    ∃ l : List (List Str × V), l.map (·.2) = vs ∧ Paired (fun (p : List Str × V) (q : List Str × W) => p.1 = q.1 ∧ VW G r p.2 q.2) l m ∧ ∀ p ∈ l, Dp G.K H p.2 (.list (p.1.map PyData.str))
  | [], _, m, .nil, e => by cases e; exact ⟨[], rfl, .nil, fun p hp => nomatch hp⟩
  | w :: ws, v :: vs, m, .cons q t, e => by
    have e' : (if isLst h w then (match (seqOf h w).bind strsOf, rowsOf h ws with
      | some x, some l => some ((x, w) :: l)
      | _, _ => none) else none) = some m := e
    split at e'
    · rename_i k
      cases g1 : (seqOf h w).bind strsOf with
      | none => rw [g1] at e'; cases e'
      | some x =>
        cases g2 : rowsOf h ws with
        | none => rw [g1, g2] at e'; cases e'
        | some l' =>
          rw [g1, g2] at e'
          cases e'
          obtain ⟨l, h1, h2, h3⟩ := rows_pair rel t g2
          obtain ⟨a, rfl, s⟩ := lst_plain rel q (f := strsOf) (c := W.str) (c' := V.str) strs_of strs_vs k g1
          exact ⟨(x, V.ref a) :: l, by rw [List.map_cons, h1], .cons ⟨rfl, q⟩ h2, fun p hp => (List.mem_cons.mp hp).elim (fun e => by rw [e]; exact .lst s (dp_strs x)) (h3 p)⟩
    · cases e'
theorem str_lt_tot : ∀ {a b : Str}, ltS a b = false → ltS b a = false → a = b := fun {a b} h1 h2 => by
  unfold ltS at h1 h2
  have h1 := of_decide_eq_false h1
  have h2 := of_decide_eq_false h2
  exact PySem.W.str_of_cps (List.le_antisymm (List.not_lt.mp h2) (List.not_lt.mp h1))
theorem ltS_trans : ∀ a b c : Str, ltS a b = true → ltS b c = true → ltS a c = true := fun a b c h1 h2 => by
  unfold ltS at *
  exact decide_eq_true (List.lt_trans (of_decide_eq_true h1) (of_decide_eq_true h2))
theorem ltS_le {x y z : Str} (h1 : ltS y x = false) (h2 : ltS z y = false) : ltS z x = false := by
  unfold ltS at *
  exact decide_eq_false (List.not_lt.mpr (List.le_trans (List.not_lt.mp (of_decide_eq_false h1)) (List.not_lt.mp (of_decide_eq_false h2))))
theorem rising_pair : ∀ (l : List Str) (p : Str), risingS p l = true → (p :: l).Pairwise fun a b => ltS b a = false
  | [], p, _ => by simp
  | x :: l, p, h => by
    have h : (!ltCps x.cps.toList p.cps.toList && risingS x l) = true := h
    obtain ⟨h1, h2⟩ := Bool.and_eq_true_iff.mp h
    have h1 : ltS x p = false := by
      rw [ltCps_eq] at h1
      exact (Bool.not_eq_true' _).mp h1
    have ih := rising_pair l x h2
    refine .cons (fun z hz => ?_) ih
    rcases List.mem_cons.mp hz with e | e
    · rw [e]; exact h1
    · exact ltS_le h1 (List.rel_of_pairwise_cons ih e)
theorem sortedS_uniq {β : Type} {ks ys : List Str} (f : Str → β) (p : ys.Perm ks) (s : sortedS ys = true) (st : strictG ltS (isortG ltS (ks.map fun s => (s, f s))) = true) : ys.map f = (isortG ltS (ks.map fun s => (s, f s))).map (·.2) := by
  have hp := strict_pair ltS_trans _ st
  have pm := isort_perm (lt := ltS) (ks.map fun s => (s, f s))
  have e : ys = (isortG ltS (ks.map fun s => (s, f s))).map (·.1) := by
    refine List.Perm.eq_of_pairwise (le := fun a b => ltS b a = false) (fun a b _ _ h1 h2 => str_lt_tot h2 h1) ?_ ?_ (p.trans ?_)
    · cases ys with
      | nil => exact .nil
      | cons x r => exact rising_pair r x s
    · refine List.Pairwise.map _ (fun a b h => ?_) hp
      cases g : ltS b.1 a.1 with
      | false => rfl
      | true => have := ltS_trans _ _ _ h g; unfold ltS at this; exact absurd (of_decide_eq_true this) (List.lt_irrefl _)
    · have := (pm.map (·.1)).symm
      rw [List.map_map] at this
      have e2 : ks.map ((fun q : Str × β => q.1) ∘ fun s => (s, f s)) = ks := by
        rw [show ((fun q : Str × β => q.1) ∘ fun s => (s, f s)) = id from rfl, List.map_id]
      rw [e2] at this
      exact this
  have mem : ∀ q ∈ isortG ltS (ks.map fun s => (s, f s)), q.2 = f q.1 := fun q hq => by
    obtain ⟨s, _, rfl⟩ := List.mem_map.mp (pm.mem_iff.mp hq)
    rfl
  rw [e, List.map_map]
  exact List.map_congr_left fun q hq => (mem q hq).symm
def rowsStr (K : PySem.W.Frag) : List V → Hp → VK → Prop := rSortG (κ := Str) K ltS PyData.str
def rowsRow (K : PySem.W.Frag) : List V → Hp → VK → Prop := rSortG (κ := List Str) K ltStrs fun l => .list (l.map PyData.str)
theorem cr_rowsStr (hu : X.A.units + 64 < cLine) : CallR X (.builtin "sorted") (rowsStr X.K) :=
  cr_sortG (fun a b => by rw [PySem.W.dataLt_str]; rfl) (fun _ _ => rfl) (fun _ => ⟨(fun z => nomatch z), fun _ z => nomatch z⟩) (fun _ => Nat.zero_le _) hu
theorem cr_rowsRow (hu : X.A.units + 64 < cLine) : CallR X (.builtin "sorted") (rowsRow X.K) :=
  cr_sortG (fun a b => lt_strs a b) (fun a b => alike_strs a b) (fun _ => ⟨(fun z => nomatch z), fun _ z => nomatch z⟩) (fun a => by show PyData.depthAll (a.map PyData.str) + 1 ≤ 1; rw [depth_strs]; omega) hu
theorem keys_str {r : List Addr} : ∀ {kvs : List (Key × W)} {es : List (Key × V)} {l : List Str}, KVW G r es kvs → strsOf (kvs.map fun kv => wOfKey kv.1) = some l → es.map (·.1) = l.map Sum.inr
  | [], [], l, .nil, e => by cases e; rfl
  | (k, w) :: kvs, (k', v) :: es, l, .cons ⟨h1, _⟩ t, e => by
    have h1 : k' = k := h1
    subst h1
    cases k' with
    | inl i => cases e
    | inr s =>
      have e' : (strsOf (kvs.map fun kv => wOfKey kv.1)).map (s :: ·) = some l := e
      cases g : strsOf (kvs.map fun kv => wOfKey kv.1) with
      | none => rw [g] at e'; cases e'
      | some t' =>
        rw [g] at e'
        cases e'
        rw [List.map_cons, List.map_cons, keys_str t g]
theorem bi_sorted (hK : X.K = G.K) (hc : X.calm = true) (hu : X.A.units + 64 < cLine) : CallR X (.builtin "sorted") (rVs G E fun h => biW h .sorted) := call1 (callr_or (call_sortedD hc) (callr_or (cr_rowsStr hu) (cr_rowsRow hu))) (bi_one _) fun r h H x w Q rel q P => by
  have P : PostG G (RVal G) E r h H Q (match sortedW h w with
    | some xs => .ok (.ref h.n) (h.push (.lst xs))
    | none => .no) := P
  cases e : sortedW h w with
  | none => rw [e] at P; exact P.elim
  | some xs =>
    rw [e] at P
    unfold sortedW at e
    cases g2 : dctOf h w with
    | some kvs =>
      rw [g2] at e
      simp only at e
      obtain ⟨_, a, es, _, _, _, rfl, hA, kA, nA⟩ := dct_at rel q g2
      cases g3 : strsOf (kvs.map fun kv => wOfKey kv.1) with
      | none => rw [g3] at e; cases e
      | some l =>
        rw [g3] at e
        simp only at e
        split at e
        · rename_i c
          cases e
          obtain ⟨c1, c2⟩ := Bool.and_eq_true_iff.mp c
          refine .inl ⟨a, es, l, rfl, .inl hA, keys_str kA g3, of_decide_eq_true c2, fun ys p pm so hp => ?_⟩
          refine post_lst rel P hp ?_
          have sp := isort_pair (G := G) (lt := ltS) (strs_pair (G := G) (r := r) l)
          rw [sortedS_uniq V.str pm so (sp.1.trans c1)]
          exact sp.2
        · cases e
    | none =>
      rw [g2] at e
      simp only at e
      split at e
      · rename_i k
        obtain ⟨a, ws, vs, rfl, e1, s1, q1⟩ := isLst_at rel q k
        rw [e1] at e
        simp only at e
        cases g3 : strsOf ws with
        | some l =>
          rw [g3] at e
          simp only at e
          split at e
          · rename_i c
            cases e
            rw [strs_of g3] at q1
            rw [strs_vs q1] at s1
            have sp := isort_pair (G := G) (lt := ltS) (strs_pair (G := G) (r := r) l)
            refine .inr (.inl ⟨a, l.map fun s => (s, V.str s), rfl, by rw [eraw_str, hK]; exact s1, fun p hp => ?_, sp.1.trans c, fun p hp => post_lst rel P hp sp.2⟩)
            obtain ⟨s, _, rfl⟩ := List.mem_map.mp hp
            exact .str s
          · cases e
        | none =>
          rw [g3] at e
          simp only at e
          cases g4 : rowsOf h ws with
          | none => rw [g4] at e; cases e
          | some m =>
            rw [g4] at e
            simp only at e
            split at e
            · rename_i c
              cases e
              obtain ⟨l, h1, h2, h3⟩ := rows_pair rel q1 g4
              have sp := isort_pair (G := G) (lt := ltStrs) h2
              exact .inr (.inr ⟨a, l, rfl, by rw [h1, hK]; exact s1, by rw [hK]; exact h3, sp.1.trans c, fun p hp => post_lst rel P hp sp.2⟩)
            · cases e
      · cases e
end
end RP

set_option Elab.async false
set_option linter.all false
set_option maxRecDepth 100000
set_option maxHeartbeats 4000000
/-! RP11: methods, stores. -/
namespace RP
open PySem PySem.Spec PyProof.Rows L2

section
variable {X : Cx} {G : Gd} {E : XK} {r : List Addr} {h : Hv} {H : Hp}
def rMt (G : Gd) (E : XK) (m : Bm) : V → List V → Hp → VK → Prop := fun x xs H Q => ∃ r h w ws, Rel G r h H ∧ VW G r x w ∧ VWs G r xs ws ∧ PostG G (RVal G) E r h H Q (bmW h m w ws)
theorem mtr_imp {id : String} {R R' : V → List V → Hp → VK → Prop} (a : MtR X id R) (k : ∀ x xs H Q, R' x xs H Q → R x xs H Q) : MtR X id R' := fun pins s σ H x xs v us Q I rx rv w => a pins s σ H x xs v us Q I rx rv (k x xs H Q w)
theorem lst_at (rel : Rel G r h H) {w : W} {x : V} {n : Nat} {xs : List W} (q : VW G r x w) (e : lstOf h w = some (n, xs)) : ∃ a vs, w = .ref n ∧ h.get n = some (.lst xs) ∧ r[n]? = some a ∧ x = .ref a ∧ H a = some (.lst vs) ∧ VWs G r vs xs := by
  cases w with
  | ref m =>
    obtain ⟨a, ea, rfl⟩ := q
    simp only [lstOf] at e
    cases g : h.get m with
    | none => rw [g] at e; cases e
    | some o =>
      rw [g] at e
      cases o with
      | lst ys =>
        cases e
        obtain ⟨vs, q1, q2⟩ := rel.obj _ _ a g ea
        exact ⟨a, vs, rfl, g, ea, rfl, q1, q2⟩
      | _ => cases e
  | _ => cases e
theorem post_set (rel : Rel G r h H) {α β : Type} {R : List Addr → Hp → β → α → Prop} {Q : β → Hp → Prop} {n : Nat} {a : Addr} {x y : HO} {o o' : O} {w : α} {v : β} (e : h.get n = some o) (ea : r[n]? = some a) (m : mutO o = true) (hx : H a = some x) (mx : muH x = true) (hc : isClo o' = false)
    (P : PostG G R E r h H Q (.ok w (h.set n o'))) (new : OR G r (upd H a y) a o') (q : R r (upd H a y) v w) : Q v (upd H a y) :=
  P v (upd H a y) r (rel.set e ea m hx mx hc new) (Step.set rel e ea m) q
theorem post_lset (rel : Rel G r h H) {Q : VK} {n : Nat} {a : Addr} {vs vs' : List V} {xs xs' : List W} {w : W} {v : V} (e : h.get n = some (.lst xs)) (ea : r[n]? = some a) (hx : H a = some (.lst vs)) (P : PostG G (RVal G) E r h H Q (.ok w (h.set n (.lst xs')))) (q : VWs G r vs' xs') (qw : VW G r v w) : Q v (upd H a (.lst vs')) :=
  post_set rel e ea rfl hx rfl rfl P ⟨vs', upd_same, q⟩ qw
theorem two_of {xs : List V} {w u : W} (q : VWs G r xs [w, u]) : ∃ v z, xs = [v, z] ∧ VW G r v w ∧ VW G r z u := by
  cases q with
  | cons a t => cases t with
    | cons b t => cases t; exact ⟨_, _, rfl, a, b⟩
theorem ixP_seq {n : Nat} {i : Int} {k : Nat} (e : ixP n i = some k) : seqIndex? i n = some k ∧ k < n := let ⟨a, b, _⟩ := ixN_seq (n := n) (i := i) (j := k) (by rw [← ixP_eq]; exact e); ⟨a, b⟩
theorem bm_append : MtR X "list.append" (rMt G E .append) := mtr_imp mt_append fun x xs H Q ⟨r, h, w, ws, rel, q, qs, P⟩ => by
  replace P : PostG G (RVal G) E r h H Q (match (generalizing := false) lstOf h w, ws with
    | some (n, xs), [w] => if xs.length < 16777216 then .ok .non (h.set n (.lst (xs ++ [w]))) else .no
    | _, _ => .no) := P
  cases g : lstOf h w with
  | none => simp only [g] at P; exact P.elim
  | some p =>
    obtain ⟨n, ys⟩ := p
    simp only [g] at P
    match ws, qs, P with
    | [], _, P => exact P.elim
    | _ :: _ :: _, _, P => exact P.elim
    | [u], qs, P =>
      obtain ⟨a, vs, rfl, hg, ea, rfl, hA, k⟩ := lst_at rel q g
      obtain ⟨v, rfl, qv⟩ := one_of qs
      simp only at P
      split at P
      · rename_i z
        exact ⟨a, vs, v, rfl, rfl, hA, by rw [szl, pair_len k]; exact z, post_lset rel hg ea hA P (pair_app k (.cons qv .nil)) rfl⟩
      · exact P.elim
theorem bm_extend : MtR X "list.extend" (rMt G E .extend) := mtr_imp mt_extend fun x xs H Q ⟨r, h, w, ws, rel, q, qs, P⟩ => by
  replace P : PostG G (RVal G) E r h H Q (match (generalizing := false) lstOf h w, ws with
    | some (n, xs), [w] => (match (generalizing := false) lstOf h w with
      | some (_, ys) => if xs.length + ys.length ≤ 16777216 then .ok .non (h.set n (.lst (xs ++ ys))) else .no
      | none => .no)
    | _, _ => .no) := P
  cases g : lstOf h w with
  | none => simp only [g] at P; exact P.elim
  | some p =>
    obtain ⟨n, ys⟩ := p
    simp only [g] at P
    match ws, qs, P with
    | [], _, P => exact P.elim
    | _ :: _ :: _, _, P => exact P.elim
    | [u], qs, P =>
      obtain ⟨a, vs, rfl, hg, ea, rfl, hA, k⟩ := lst_at rel q g
      obtain ⟨v, rfl, qv⟩ := one_of qs
      simp only at P
      cases g2 : lstOf h u with
      | none => simp only [g2] at P; exact P.elim
      | some p2 =>
        obtain ⟨m, zs⟩ := p2
        simp only [g2] at P
        obtain ⟨b, us, _, _, _, rfl, hB, k2⟩ := lst_at rel qv g2
        split at P
        · rename_i z
          exact ⟨a, b, vs, us, rfl, rfl, hA, hB, by rw [szl, pair_len k, pair_len k2]; exact z, post_lset rel hg ea hA P (pair_app k k2) rfl⟩
        · exact P.elim
theorem bm_pop : MtR X "list.pop" (rMt G E .pop) := mtr_imp (MtR.or mt_pop mt_popAt) fun x xs H Q ⟨r, h, w, ws, rel, q, qs, P⟩ => by
  replace P : PostG G (RVal G) E r h H Q (match (generalizing := false) lstOf h w with
    | some (n, xs) => (match (generalizing := false) ws with
      | [] => (match (generalizing := false) xs[xs.length - 1]? with
        | some w => .ok w (h.set n (.lst xs.dropLast))
        | none => .no)
      | [w] => (match (generalizing := false) intOf w with
        | some i => popAt h n xs i
        | none => .no)
      | _ => .no)
    | none => .no) := P
  cases g : lstOf h w with
  | none => simp only [g] at P; exact P.elim
  | some p =>
    obtain ⟨n, ys⟩ := p
    simp only [g] at P
    obtain ⟨a, vs, rfl, hg, ea, rfl, hA, k⟩ := lst_at rel q g
    match ws, qs, P with
    | _ :: _ :: _, _, P => exact P.elim
    | [], qs, P =>
      simp only at P
      cases g2 : ys[ys.length - 1]? with
      | none => rw [g2] at P; exact P.elim
      | some u =>
        rw [g2] at P
        obtain ⟨v, e1, e2⟩ := pair_get k g2
        exact .inl ⟨a, vs, v, rfl, pair_nil qs, hA, by rw [pair_len k]; exact e1, post_lset rel hg ea hA P (pair_dropLast k) e2⟩
    | [u], qs, P =>
      simp only at P
      obtain ⟨v, rfl, qv⟩ := one_of qs
      cases u with
      | int i =>
        replace P : PostG G (RVal G) E r h H Q (if -(2 ^ 63) ≤ i ∧ i < 2 ^ 63 then (match (generalizing := false) ixP ys.length i with
          | some k => (match (generalizing := false) ys[k]? with
            | some w => .ok w (h.set n (.lst (ys.eraseIdx k)))
            | none => .no)
          | none => .no) else .no) := P
        split at P
        · rename_i z
          cases g2 : ixP ys.length i with
          | none => rw [g2] at P; exact P.elim
          | some j =>
            rw [g2] at P
            simp only at P
            cases g3 : ys[j]? with
            | none => rw [g3] at P; exact P.elim
            | some u =>
              rw [g3] at P
              obtain ⟨y, e1, e2⟩ := pair_get k g3
              exact .inr ⟨a, vs, i, j, y, rfl, by rw [show v = .int i from qv], hA, z.1, z.2, by rw [pair_len k]; exact (ixP_seq g2).1, e1, post_lset rel hg ea hA P (pair_erase j k) e2⟩
        · exact P.elim
      | _ => exact (show False from P).elim
theorem bm_index (hK : X.K = G.K) (hu : X.A.units + 65 < cLine) : MtR X "list.index" (rMt G E .index) := mtr_imp (mt_indexD hu) fun x xs H Q ⟨r, h, w, ws, rel, q, qs, P⟩ => by
  rw [hK]
  replace P : PostG G (RVal G) E r h H Q (match (generalizing := false) ws with
    | [u] => (match (generalizing := false) rdD h u, rdD h w with
      | some d, some (.list ds) => (match (generalizing := false) ds.findIdx? fun z => PyData.eqv z d with
        | some j => .ok (.int j) h
        | none => .no)
      | _, _ => .no)
    | _ => .no) := P
  match ws, qs, P with
  | [], _, P => exact P.elim
  | _ :: _ :: _, _, P => exact P.elim
  | [u], qs, P =>
    simp only at P
    obtain ⟨v, rfl, qv⟩ := one_of qs
    cases g1 : rdD h u with
    | none => simp only [g1] at P; exact P.elim
    | some d =>
      cases g2 : rdD h w with
      | none => simp only [g1, g2] at P; exact P.elim
      | some d2 =>
        simp only [g1, g2] at P
        cases d2 with
        | list ds =>
          simp only at P
          cases g3 : ds.findIdx? fun z => PyData.eqv z d with
          | none => rw [g3] at P; exact P.elim
          | some j =>
            rw [g3] at P
            obtain ⟨q1, s1⟩ := rdD_dp rel qv g1
            obtain ⟨q2, s2⟩ := rdD_dp rel q g2
            obtain ⟨hj, e1, e2⟩ := List.findIdx?_eq_some_iff_getElem.mp g3
            obtain ⟨a, rfl⟩ : ∃ a, x = V.ref a := by cases q2; exact ⟨_, rfl⟩
            refine ⟨a, v, d, ds, j, ds[j], rfl, rfl, q2, q1, s2, s1, List.getElem?_eq_getElem hj, e1, fun m z hm hz => ?_, post_val rel P rfl⟩
            have := e2 m hm
            rw [List.getElem?_eq_getElem (Nat.lt_trans hm hj)] at hz
            cases hz
            exact Bool.eq_false_iff.mpr this
        | _ => exact (show False from P).elim
theorem strs_new : ∀ (l : List Str) (r : List Addr), VWs G r (l.map V.str) (l.map W.str)
  | [], _ => .nil
  | _ :: l, r => .cons rfl (strs_new l r)
theorem bm_split : MtR X "str.split" (rMt G E .split) := mtr_imp mt_words fun x xs H Q ⟨r, h, w, ws, rel, q, qs, P⟩ => by
  replace P : PostG G (RVal G) E r h H Q (match (generalizing := false) strOfW w, ws with
    | some s, [] => if s.length + 2 ≤ 16777216 then .ok (.ref h.n) (h.push (.lst ((PySem.Txt.words s).map .str))) else .no
    | _, _ => .no) := P
  cases w with
  | str s =>
    cases ws with
    | cons _ _ => exact (show False from P).elim
    | nil =>
      replace P : PostG G (RVal G) E r h H Q (if s.length + 2 ≤ 16777216 then .ok (.ref h.n) (h.push (.lst ((PySem.Txt.words s).map .str))) else .no) := P
      split at P
      · rename_i z
        exact ⟨s, q, pair_nil qs, by rw [szl]; exact z, fun p hp => post_lst rel P hp (strs_new _ _)⟩
      · exact P.elim
  | _ => cases ws <;> exact (show False from P).elim
/-! ### d.get -/
def rGet1 : V → List V → Hp → VK → Prop := fun x xs H Q => ∃ a y o, x = .ref a ∧ xs = [y] ∧ DGet H a y o ∧ Q (o.getD .non) H
def rGet2 : V → List V → Hp → VK → Prop := fun x xs H Q => ∃ a y z o, x = .ref a ∧ xs = [y, z] ∧ DGet H a y o ∧ Q (o.getD z) H
theorem mt_get1 (hu : X.A.units + 1 < cLine) : MtR X "dict.get" rGet1 := fun pins s σ H x xs v us Q I rx rv ⟨a, y, o, ex, exs, g, q⟩ => by
  subst ex exs
  obtain rfl : v = Value.ref a := rx
  obtain ⟨u, rfl, ry⟩ := Vals.one rv
  exact d_get1 hu I g ry fun w' s' I' rw' => ⟨_, H, I', rw', q⟩
theorem mt_get2 (hu : X.A.units + 1 < cLine) : MtR X "dict.get" rGet2 := fun pins s σ H x xs v us Q I rx rv ⟨a, y, z, o, ex, exs, g, q⟩ => by
  subst ex exs
  obtain rfl : v = Value.ref a := rx
  obtain ⟨u, t, rfl, ry, rz⟩ := Vals.two rv
  exact d_get2 hu I g ry rz fun w' s' I' rw' => ⟨_, H, I', rw', q⟩
theorem bm_get (hu : X.A.units + 1 < cLine) : MtR X "dict.get" (rMt G E .get) := mtr_imp (MtR.or (mt_get1 hu) (mt_get2 hu)) fun x xs H Q ⟨r, h, w, ws, rel, q, qs, P⟩ => by
  replace P : PostG G (RVal G) E r h H Q (match (generalizing := false) dctOf h w with
    | some kvs => (match (generalizing := false) ws with
      | [i] => (match (generalizing := false) keyOf i with
        | some k => .ok ((lookK kvs k).getD .non) h
        | none => .no)
      | [i, w] => (match (generalizing := false) keyOf i with
        | some k => .ok ((lookK kvs k).getD w) h
        | none => .no)
      | _ => .no)
    | none => .no) := P
  cases g : dctOf h w with
  | none => simp only [g] at P; exact P.elim
  | some kvs =>
    simp only [g] at P
    obtain ⟨_, a, es, _, _, _, rfl, hA, kA, _⟩ := dct_at rel q g
    match ws, qs, P with
    | [], _, P => exact P.elim
    | _ :: _ :: _ :: _, _, P => exact P.elim
    | [i], qs, P =>
      obtain ⟨y, rfl, qy⟩ := one_of qs
      simp only at P
      cases gk : keyOf i with
      | none => rw [gk] at P; exact P.elim
      | some k =>
        rw [gk] at P
        have lk := look_val k kA
        refine .inl ⟨a, y, valV es k, rfl, rfl, by rw [key_of qy gk]; exact DGet.k hA, post_val rel P ?_⟩
        cases gl : lookK kvs k with
        | none => rw [gl] at lk; rw [lk]; rfl
        | some w2 => rw [gl] at lk; obtain ⟨v2, l1, l2⟩ := lk; rw [l1]; exact l2
    | [i, u], qs, P =>
      obtain ⟨y, z, rfl, qy, qz⟩ := two_of qs
      simp only at P
      cases gk : keyOf i with
      | none => rw [gk] at P; exact P.elim
      | some k =>
        rw [gk] at P
        have lk := look_val k kA
        refine .inr ⟨a, y, z, valV es k, rfl, rfl, by rw [key_of qy gk]; exact DGet.k hA, post_val rel P ?_⟩
        cases gl : lookK kvs k with
        | none => rw [gl] at lk; rw [lk]; exact qz
        | some w2 => rw [gl] at lk; obtain ⟨v2, l1, l2⟩ := lk; rw [l1]; exact l2
end
end RP

set_option Elab.async false
set_option linter.all false
set_option maxRecDepth 100000
set_option maxHeartbeats 4000000
/-! RP12: expressions by the machine. -/
namespace RP
open PySem PySem.Spec PyProof.Rows L2

/-- the text's global names are what they are held to be -/
structure GOk (G : Gd) : Prop where
  fn : ∀ x i, G.gl.lookup x = some (.fn i) → G.mg x = some (.ref (G.F i))
  fnk : ∀ x i, G.gl.lookup x = some (.fn i) → PySem.W.keepIn G.K (.ref (G.F i)) = true
  cls : ∀ x c, G.gl.lookup x = some (.cls c) → G.mg x = some (.ref (G.C c))
  con : ∀ x n, G.gl.lookup x = some (.con n) → ∃ a, G.con[n]? = some a ∧ G.mg x = some (.ref a)
  str : ∀ x s, G.gl.lookup x = some (.str s) → ∃ u, G.mg x = some u ∧ RelV (.str s) u
  blt : ∀ x ∈ bnames, G.gl.lookup x = none → G.mg x = none
  cl : ∀ c, insCl G.p c = true → Cls G.K (G.C c)
  fld : ∀ c f, fldOf G.p c f = true → NoAttr G.K (G.C c) f
  meth : ∀ c m f, methI G.p c m = some f → Meth G.K (G.C c) m (G.F f)
  clsL : ∀ x c, G.gl.lookup x = some (.cls c) → c < G.p.clss.length
  ins1 : ∀ c, insCl G.p c = true → PySem.W.findIn G.K (.ref (G.C c)) "__class__" = some (some (.builtin "object.__class__"))
  ins2 : PySem.W.specialIn G.K (.builtin "object.__class__") "__get__" = some (some (.builtin "getset_descriptor.__get__"))
  ins3 : PySem.W.takesIn G.K (.builtin "object.__class__") = some true
  ins4 : ∀ c, insCl G.p c = true → PySem.W.mroIn G.K (G.C c) (.type "object") = some true
  isiT : ∀ a ∈ ["NoneType", "bool", "int", "str", "list", "tuple", "dict"], ∀ c, c < G.p.clss.length → PySem.W.kitOne G.K (.type a) (.ref (G.C c)) = some false
  isiI : ∀ d, insCl G.p d = true → ∀ b ∈ ["int", "str", "bool", "list", "tuple", "dict"], PySem.W.kitOne G.K (.ref (G.C d)) (.type b) = some false
  isiC : ∀ d c, insCl G.p d = true → c < G.p.clss.length → PySem.W.kitOne G.K (.ref (G.C d)) (.ref (G.C c)) = some (d == c)
  make : ∀ c f, methI G.p c initS = some f → Mk G.K (G.C c) (G.F f)
/-- the running frame is one of the compiled text -/
structure XOk (G : Gd) (C : Cc) (X : Cx) : Prop where
  prog : X.prog = G.P
  w : X.w = G.w
  K : X.K = G.K
  mg : X.mg = G.mg
  base : X.base = G.base
  N : X.N = C.N
  sc : X.env.scope = C.sc
  nd : C.N.Nodup
  gl : C.gl = G.gl
  calm : X.calm = true
  units : X.A.units + 66 < cLine
  fn : ∀ x, C.asg x = true → isLoc (C.sc.names.lookup x) = true → X.fn x = true ∨ C.sc.names.lookup x = some .local
section
variable {X : Cx} {G : Gd} {C : Cc} {D : DK} {E : XK} {K : Orc}
/-- e is read by x -/
def OE (X : Cx) (G : Gd) (D : DK) (E : XK) (K : Orc) (e : Expr) (x : RP.E) : Prop := ∀ m, PE X e (tE G D E (evE G.p K m x))
def OEs (X : Cx) (G : Gd) (D : DK) (E : XK) (K : Orc) (es : List Expr) (xs : List RP.E) : Prop := ∀ m, PA X es (tEs G D E (evEs G.p K m xs))
def OT (X : Cx) (G : Gd) (D : DK) (E : XK) (K : Orc) (e : Expr) (x : RP.E) : Prop := ∀ m, PT X e (tM G D E RId (evT G.p K m x))
def OTs (X : Cx) (G : Gd) (D : DK) (E : XK) (K : Orc) (e : Expr) (b : Bool) (xs : List RP.E) : Prop := ∀ m, PW X e (tM G D E RId (evTs G.p K m b xs))
theorem pe_no {e : Expr} : PE X e (fun _ _ _ => False) := ⟨fun _ _ _ _ _ _ z => z.elim⟩
theorem pt_no {e : Expr} : PT X e (fun _ _ _ => False) := ⟨fun _ _ _ _ _ _ z => z.elim⟩
theorem pw_no {e : Expr} : PW X e (fun _ _ _ => False) := ⟨fun _ _ _ _ _ _ _ z => z.elim⟩
theorem pa_no {es : List Expr} : PA X es (fun _ _ _ => False) := ⟨fun _ _ _ _ _ _ _ z => z.elim⟩
/-- by the fuel's first step -/
theorem oe_of {e : Expr} {x : RP.E} (k : ∀ m, PE X e (tE G D E (evE G.p K (m + 1) x))) : OE X G D E K e x
  | 0 => PE.imp pe_no fun σ H Q t => tM.no t
  | m + 1 => k m
theorem oes_of {es : List Expr} {xs : List RP.E} (k : ∀ m, PA X es (tEs G D E (evEs G.p K (m + 1) xs))) : OEs X G D E K es xs
  | 0 => PA.imp pa_no fun σ H Q t => tM.no t
  | m + 1 => k m
theorem ot_of {e : Expr} {x : RP.E} (k : ∀ m, PT X e (tM G D E RId (evT G.p K (m + 1) x))) : OT X G D E K e x
  | 0 => PT.imp pt_no fun σ H Q t => tM.no t
  | m + 1 => k m
theorem ots_of {e : Expr} {b : Bool} {xs : List RP.E} (k : ∀ m, PW X e (tM G D E RId (evTs G.p K (m + 1) b xs))) : OTs X G D E K e b xs
  | 0 => PW.imp pw_no fun σ H Q t => tM.no t
  | m + 1 => k m
/-! ### names, constants -/
theorem ix_at {N : List Str} {x : Str} {i : Nat} (e : ixOf N x = some i) : N[i]? = some x := by
  obtain ⟨h, e1, _⟩ := List.findIdx?_eq_some_iff_getElem.mp e
  rw [List.getElem?_eq_getElem h]
  congr 1
  exact eq_of_beq e1
theorem vis_of {sc : Scope} {x : Str} (h : isVis (sc.names.lookup x) = true) : Vis sc x := by
  cases e : sc.names.lookup x with
  | none => rw [e] at h; cases h
  | some k => rw [e] at h; cases k <;> first | exact .inl e | exact .inr (.inl e) | exact .inr (.inr e) | cases h
theorem slot_is {x : Str} {i : Nat} (e : C.slot x = some i) : C.N[i]? = some x ∧ Vis C.sc x ∧ (x == ("__debug__" : Str)) = false ∧ (x == ("__classdict__" : Str)) = false := by
  unfold Cc.slot at e
  split at e
  · rename_i c
    simp only [Bool.and_eq_true, Bool.not_eq_true'] at c
    exact ⟨ix_at e, vis_of c.1.1, c.1.2, c.2⟩
  · cases e
theorem oe_nm (hX : XOk G C X) {x : Str} {i : Nat} {pos : Pos} (e : C.slot x = some i) : OE X G D E K (.Name x pos) (.nm i) := oe_of fun m => by
  obtain ⟨h1, h2, h3, h4⟩ := slot_is e
  refine PE.imp (pe_var (i := i) (by rw [hX.N]; exact h1) (by rw [hX.sc]; exact h2) h3 h4) ?_
  rintro σ H Q ⟨r, h, env, rel, er, P⟩
  have P : PostG G (RVal G) E r h H Q (match env[i]? with
    | some (some w) => if clean w then .ok w h else .no
    | _ => .no) := P
  cases g : env[i]? with
  | none => rw [g] at P; exact P.elim
  | some o =>
    cases o with
    | none => rw [g] at P; exact P.elim
    | some w =>
      rw [g] at P
      simp only at P
      split at P
      · rename_i c
        obtain ⟨v, e1, e2⟩ := er.val i w g
        exact ⟨v, e1, post_val rel P (e2.to c)⟩
      · exact P.elim
theorem oe_cnon {k : Nat} {pos : Pos} : OE X G D E K (.Constant .none k pos) (.cst .non) := oe_of fun m => PE.imp pe_non fun σ H Q ⟨r, h, env, rel, er, P⟩ => post_val rel (w := .non) P rfl
theorem oe_cbl {b : Bool} {k : Nat} {pos : Pos} : OE X G D E K (.Constant (.bool b) k pos) (.cst (.bl b)) := oe_of fun m => PE.imp pe_bl fun σ H Q ⟨r, h, env, rel, er, P⟩ => post_val rel (w := .bl b) P rfl
theorem oe_cint {i : Int} {k : Nat} {pos : Pos} : OE X G D E K (.Constant (.int i) k pos) (.cst (.int i)) := oe_of fun m => PE.imp pe_int fun σ H Q ⟨r, h, env, rel, er, P⟩ => post_val rel (w := .int i) P rfl
theorem oe_cstr {s : Str} {k : Nat} {pos : Pos} : OE X G D E K (.Constant (.str s) k pos) (.cst (.str s)) := oe_of fun m => PE.imp pe_str fun σ H Q ⟨r, h, env, rel, er, P⟩ => post_val rel (w := .str s) P rfl
theorem glob_is (hX : XOk G C X) {x : Str} {g : Gk} (e : C.glob x = some g) : Gl X x ∧ (x == ("__debug__" : Str)) = false ∧ G.gl.lookup x = some g := by
  unfold Cc.glob at e
  split at e
  · rename_i c
    simp only [Bool.and_eq_true, Bool.not_eq_true'] at c
    refine ⟨?_, c.2, by rw [← hX.gl]; exact e⟩
    show X.env.scope.names.lookup x = _
    rw [hX.sc]
    cases q : C.sc.names.lookup x with
    | none => rw [q] at c; cases c.1
    | some k => rw [q] at c; cases k <;> first | rfl | cases c.1
  · cases e
theorem blt_is (hX : XOk G C X) (hG : GOk G) {x : Str} (e : C.blt x = true) (hx : x ∈ bnames) : Gl X x ∧ X.mg x = none := by
  unfold Cc.blt at e
  obtain ⟨c1, c2⟩ := Bool.and_eq_true_iff.mp e
  refine ⟨?_, ?_⟩
  · show X.env.scope.names.lookup x = _
    rw [hX.sc]
    cases q : C.sc.names.lookup x with
    | none => rw [q] at c1; cases c1
    | some k => rw [q] at c1; cases k <;> first | rfl | cases c1
  · rw [hX.mg]
    refine hG.blt x hx ?_
    rw [← hX.gl]
    cases q : C.gl.lookup x with
    | none => rfl
    | some k => rw [q] at c2; cases c2
theorem oe_fn (hX : XOk G C X) (hG : GOk G) {x : Str} {i : Nat} {pos : Pos} (e : C.glob x = some (.fn i)) : OE X G D E K (.Name x pos) (.cst (.fn i)) := oe_of fun m => by
  obtain ⟨h1, h2, h3⟩ := glob_is hX e
  exact PE.imp (pe_glob (v := .ref (G.F i)) h1 (by rw [hX.mg]; exact hG.fn x i h3) rfl h2) fun σ H Q ⟨r, h, env, rel, er, P⟩ => post_val rel (w := .fn i) P rfl
theorem oe_str (hX : XOk G C X) (hG : GOk G) {x : Str} {s : Str} {pos : Pos} (e : C.glob x = some (.str s)) : OE X G D E K (.Name x pos) (.cst (.str s)) := oe_of fun m => by
  obtain ⟨h1, h2, h3⟩ := glob_is hX e
  obtain ⟨u, h4, h5⟩ := hG.str x s h3
  exact PE.imp (pe_glob (v := .str s) h1 (by rw [hX.mg]; exact h4) h5 h2) fun σ H Q ⟨r, h, env, rel, er, P⟩ => post_val rel (w := .str s) P rfl
theorem oe_con (hX : XOk G C X) (hG : GOk G) {x : Str} {n : Nat} {pos : Pos} (e : C.glob x = some (.con n)) : OE X G D E K (.Name x pos) (.con n) := oe_of fun m => by
  obtain ⟨h1, h2, h3⟩ := glob_is hX e
  obtain ⟨a, h4, h5⟩ := hG.con x n h3
  exact PE.imp (pe_glob (v := .ref a) h1 (by rw [hX.mg]; exact h5) rfl h2) fun σ H Q ⟨r, h, env, rel, er, P⟩ => post_val rel (w := .ref n) P ⟨a, rel.pre.get h4, rfl⟩
/-! ### several -/
theorem oes_nil : OEs X G D E K [] [] := oes_of fun m => PA.imp pa_nil fun σ H Q ⟨r, h, env, rel, er, P⟩ => PostG.ok P rel .nil
theorem star_ne {e : Expr} {es : List Expr} {env : PySem.Env} (h : noStar e = true) : starEach (e :: es) env = (false, eval e env) :: starEach es env := by
  cases e <;> first | rfl | cases h
theorem oes_cons (hD : DOk D) {e : Expr} {es : List Expr} {x : RP.E} {xs : List RP.E} (hs : noStar e = true) (hx : ∀ a, x ≠ .star a) (h1 : OE X G D E K e x) (h2 : OEs X G D E K es xs) : OEs X G D E K (e :: es) (x :: xs) := oes_of fun m => by
  refine PA.imp (pa_cons (h1 m) (h2 m) (star_ne hs)) ?_
  rintro σ H Q ⟨r, h, env, rel, er, P⟩
  have P : PostG G (RVals G) E r h H Q ((evE G.p K m x env h).bind fun x h => (evEs G.p K m xs env h).bind fun ws h => .ok (x :: ws) h) := by
    cases x <;> first | exact P | exact absurd rfl (hx _)
  refine ⟨r, h, env, rel, er, P.bind.imp fun v H1 ⟨r1, h1, w, rel1, s1, q1, P1⟩ => ?_⟩
  refine ⟨r1, h1, env, rel1, er.step hD rel s1, P1.bind.imp fun vs H2 ⟨r2, h2, ws, rel2, s2, q2, P2⟩ => ?_⟩
  exact PostG.ok P2 rel2 (.cons (q1.mono s2.le) q2)
theorem oes_star (hK : X.K = G.K) (hD : DOk D) {e : Expr} {es : List Expr} {x : RP.E} {xs : List RP.E} {pos : Pos} (h1 : OE X G D E K e x) (h2 : OEs X G D E K es xs) : OEs X G D E K (.Starred e pos :: es) (.star x :: xs) := oes_of fun m => by
  refine PA.imp (StX.pa_star (h1 m) (h2 m) rfl) ?_
  rintro σ H Q ⟨r, h, env, rel, er, P⟩
  have P : PostG G (RVals G) E r h H Q ((evE G.p K m x env h).bind fun x h => (match seqOf h x with
      | some ys => (evEs G.p K m xs env h).bind fun ws h => .ok (ys ++ ws) h
      | none => .no)) := P
  refine ⟨r, h, env, rel, er, P.bind.imp fun v H1 ⟨r1, h1, w, rel1, s1, q1, P1⟩ => ?_⟩
  cases g : seqOf h1 w with
  | none => rw [g] at P1; exact P1.elim
  | some ys =>
    rw [g] at P1
    obtain ⟨a, vs, rfl, e1, e2, _, _⟩ := seq_at rel1 q1 g
    rw [hK]
    refine ⟨a, vs, rfl, e1.symm, ⟨r1, h1, env, rel1, er.step hD rel s1, P1.bind.imp fun us H2 ⟨r2, h2, ws, rel2, s2, q2, P2⟩ => ?_⟩⟩
    exact PostG.ok P2 rel2 (pair_app (e2.mono s2.le) q2)
theorem oe_tup {es : List Expr} {xs : List RP.E} {k : Nat} {pos : Pos} (h1 : OEs X G D E K es xs) : OE X G D E K (.Tuple es k pos) (.tup xs) := oe_of fun m => by
  refine PE.imp (pe_tup (h1 m)) ?_
  rintro σ H Q ⟨r, h, env, rel, er, P⟩
  have P : PostG G (RVal G) E r h H Q ((evEs G.p K m xs env h).bind fun ws h => if ws.length ≤ 16777216 then .ok (.ref h.n) (h.push (.tup ws)) else .no) := P
  refine ⟨r, h, env, rel, er, P.bind.imp fun vs H1 ⟨r1, h1, ws, rel1, s1, q1, P1⟩ => ?_⟩
  split at P1
  · rename_i z
    exact ⟨by rw [szl, pair_len q1]; exact z, fun p hp => post_tup rel1 P1 hp q1⟩
  · exact P1.elim
theorem oe_lst {es : List Expr} {xs : List RP.E} {pos : Pos} (h1 : OEs X G D E K es xs) : OE X G D E K (.List es pos) (.lst xs) := oe_of fun m => by
  refine PE.imp (pe_lst (h1 m)) ?_
  rintro σ H Q ⟨r, h, env, rel, er, P⟩
  have P : PostG G (RVal G) E r h H Q ((evEs G.p K m xs env h).bind fun ws h => if ws.length ≤ 16777216 then .ok (.ref h.n) (h.push (.lst ws)) else .no) := P
  refine ⟨r, h, env, rel, er, P.bind.imp fun vs H1 ⟨r1, h1, ws, rel1, s1, q1, P1⟩ => ?_⟩
  split at P1
  · rename_i z
    exact ⟨by rw [szl, pair_len q1]; exact z, fun p hp => post_lst rel1 P1 hp q1⟩
  · exact P1.elim
/-! ### operators -/
/-- two values, then an operation -/
theorem two (hD : DOk D) {m : Nat} {x y : RP.E} {f : Hv → W → W → Res W} {σ : L2.St} {H : Hp} {Q : VK} (t : tE G D E (fun env h => (evE G.p K m x env h).bind fun a h => (evE G.p K m y env h).bind fun b h => f h a b) σ H Q) :
    tOp (rV G E f) (tE G D E (evE G.p K m x)) (tE G D E (evE G.p K m y)) σ H Q := by
  obtain ⟨r, h, env, rel, er, P⟩ := t
  refine ⟨r, h, env, rel, er, P.bind.imp fun v H1 ⟨r1, h1, a, rel1, s1, q1, P1⟩ => ?_⟩
  refine ⟨r1, h1, env, rel1, er.step hD rel s1, P1.bind.imp fun u H2 ⟨r2, h2, b, rel2, s2, q2, P2⟩ => ?_⟩
  exact ⟨r2, h2, a, b, rel2, q1.mono s2.le, q2, P2⟩
theorem oe_bin (hX : XOk G C X) (hD : DOk D) {a b : Expr} {x y : RP.E} {o : Operator} {pos : Pos} (h1 : OE X G D E K a x) (h2 : OE X G D E K b y) : OE X G D E K (.BinOp a o b pos) (.bin o x y) := oe_of fun m =>
  PE.imp (pe_op (op_binV (E := E) hX.K o) (h1 m) (h2 m)) fun σ H Q t => two hD (f := fun h a b => binW h o a b) t
theorem oe_un {a : Expr} {x : RP.E} {o : UnaryOp} {pos : Pos} (ho : o ≠ .Not) (h1 : OE X G D E K a x) : OE X G D E K (.UnaryOp o a pos) (.un o x) := oe_of fun m => by
  refine PE.imp (pe_un (op_unV (G := G) (E := E) o ho) (h1 m)) ?_
  rintro σ H Q ⟨r, h, env, rel, er, P⟩
  have P : PostG G (RVal G) E r h H Q ((evE G.p K m x env h).bind fun x h => match unW o x with
      | some w => .ok w h
      | none => .no) := P
  exact ⟨r, h, env, rel, er, P.bind.imp fun v H1 ⟨r1, h1, a, rel1, s1, q1, P1⟩ => ⟨r1, h1, a, rel1, q1, P1⟩⟩
theorem oe_nt (hX : XOk G C X) {a : Expr} {x : RP.E} {pos : Pos} (h1 : OE X G D E K a x) : OE X G D E K (.UnaryOp .Not a pos) (.nt x) := oe_of fun m => by
  refine PE.imp (pe_notT (h1 m)) ?_
  rintro σ H Q ⟨r, h, env, rel, er, P⟩
  have P : PostG G (RVal G) E r h H Q ((evE G.p K m x env h).bind fun x h => match truth h x with
      | some b => .ok (.bl (!b)) h
      | none => .no) := P
  refine ⟨r, h, env, rel, er, P.bind.imp fun v H1 ⟨r1, h1, a, rel1, s1, q1, P1⟩ => ?_⟩
  cases g : truth h1 a with
  | none => rw [g] at P1; exact P1.elim
  | some b => rw [g] at P1; exact ⟨b, by rw [hX.K]; exact truth_v rel1 q1 g, post_val rel1 P1 rfl⟩
theorem oe_ite {c a b : Expr} {z x y : RP.E} {pos : Pos} (hD : DOk D) (h0 : OT X G D E K c z) (h1 : OE X G D E K a x) (h2 : OE X G D E K b y) : OE X G D E K (.IfExp c a b pos) (.ite z x y) := oe_of fun m => by
  refine PE.imp (pe_ifExp (h0 m) (h1 m) (h2 m)) ?_
  rintro σ H Q ⟨r, h, env, rel, er, P⟩
  have P : PostG G (RVal G) E r h H Q ((evT G.p K m z env h).bind fun t h => match t with
      | true => evE G.p K m x env h
      | false => evE G.p K m y env h) := P
  refine ⟨r, h, env, rel, er, P.bind.imp fun v H1 ⟨r1, h1, t, rel1, s1, q1, P1⟩ => ?_⟩
  have q1 : v = t := q1
  subst q1
  cases v with
  | true => rw [if_pos rfl]; exact ⟨r1, h1, env, rel1, er.step hD rel s1, P1⟩
  | false => rw [if_neg (by decide)]; exact ⟨r1, h1, env, rel1, er.step hD rel s1, P1⟩
theorem oe_idx (hX : XOk G C X) (hD : DOk D) {a b : Expr} {x y : RP.E} {pos : Pos} (hs : PlainIx b) (h1 : OE X G D E K a x) (h2 : OE X G D E K b y) : OE X G D E K (.Subscript a b pos) (.idx x y) := oe_of fun m =>
  PE.imp (pe_ix (ix_V (E := E) hX.K hX.w (by have := hX.units; omega)) (h1 m) (h2 m) hs) fun σ H Q t => two hD (f := rO fun h => idxW h) t
/-- a bound of a cut -/
def OO (X : Cx) (G : Gd) (D : DK) (E : XK) (K : Orc) (e : Option Expr) (x : Option RP.E) : Prop := ∀ m, PO X e (tM G D E RId (evO G.p K m x))
theorem PO.imp {e : Option Expr} {t t' : TO} (h : PO X e t) (f : ∀ σ H Q, t' σ H Q → t σ H Q) : PO X e t' := ⟨fun pins s σ H Q I w => h.run pins s σ H Q I (f σ H Q w)⟩
theorem po_no {e : Option Expr} : PO X e (fun _ _ _ => False) := ⟨fun _ _ _ _ _ _ z => z.elim⟩
theorem oo_none : OO X G D E K none none
  | 0 => PO.imp po_no fun σ H Q t => tM.no t
  | m + 1 => PO.imp po_none fun σ H Q ⟨r, h, env, rel, er, P⟩ => PostG.ok P rel rfl
theorem oo_some {e : Expr} {x : RP.E} (h1 : OE X G D E K e x) : OO X G D E K (some e) (some x)
  | 0 => PO.imp po_no fun σ H Q t => tM.no t
  | m + 1 => PO.imp (po_some (h1 m)) fun σ H Q ⟨r, h, env, rel, er, P⟩ => by
    have P : PostG G RId E r h H Q ((evE G.p K m x env h).bind fun x h => match x with
      | .int i => .ok (some i) h
      | _ => .no) := P
    refine ⟨r, h, env, rel, er, P.bind.imp fun v H1 ⟨r1, h1, a, rel1, s1, q1, P1⟩ => ?_⟩
    cases a with
    | int i => exact ⟨i, q1, PostG.ok P1 rel1 rfl⟩
    | _ => exact (show False from P1).elim
theorem oe_slc (hX : XOk G C X) (hD : DOk D) {a : Expr} {lo hi : Option Expr} {x : RP.E} {l u : Option RP.E} {p2 pos : Pos} (h1 : OE X G D E K a x) (h2 : OO X G D E K lo l) (h3 : OO X G D E K hi u) : OE X G D E K (.Subscript a (.Slice lo hi none p2) pos) (.slc x l u) := oe_of fun m => by
  refine PE.imp (pe_slice (sl_V (E := E) hX.K) (h1 m) (h2 m) (h3 m)) ?_
  rintro σ H Q ⟨r, h, env, rel, er, P⟩
  have P : PostG G (RVal G) E r h H Q ((evE G.p K m x env h).bind fun x h => (evO G.p K m l env h).bind fun l h => (evO G.p K m u env h).bind fun u h => slcW h x l u) := P
  refine ⟨r, h, env, rel, er, P.bind.imp fun v H1 ⟨r1, h1, a, rel1, s1, q1, P1⟩ => ?_⟩
  refine ⟨r1, h1, env, rel1, er.step hD rel s1, P1.bind.imp fun l' H2 ⟨r2, h2, l2, rel2, s2, q2, P2⟩ => ?_⟩
  have q2 : l' = l2 := q2
  subst q2
  refine ⟨r2, h2, env, rel2, (er.step hD rel s1).step hD rel1 s2, P2.bind.imp fun u' H3 ⟨r3, h3, u2, rel3, s3, q3, P3⟩ => ?_⟩
  have q3 : u' = u2 := q3
  subst q3
  exact ⟨r3, h3, a, rel3, (q1.mono s2.le).mono s3.le, P3⟩
end
end RP

set_option Elab.async false
set_option linter.all false
set_option maxRecDepth 100000
set_option maxHeartbeats 4000000
/-! RP13: tests, and/or, comparisons, calls of built-ins. -/
namespace RP
open PySem PySem.Spec PyProof.Rows L2

section
variable {X : Cx} {G : Gd} {C : Cc} {D : DK} {E : XK} {K : Orc}
/-! ### and, or -/
def OBo (X : Cx) (G : Gd) (D : DK) (E : XK) (K : Orc) (e : Expr) (b : Bool) (xs : List RP.E) : Prop := ∀ m, PE X e (tE G D E (evBo G.p K m b xs))
theorem obo_of {e : Expr} {b : Bool} {xs : List RP.E} (k : ∀ m, PE X e (tE G D E (evBo G.p K (m + 1) b xs))) : OBo X G D E K e b xs
  | 0 => PE.imp pe_no fun σ H Q t => tM.no t
  | m + 1 => k m
theorem oe_bo {e : Expr} {b : Bool} {xs : List RP.E} (h : OBo X G D E K e b xs) : OE X G D E K e (.bo b xs) := oe_of fun m => h m
def bop : Bool → BoolOp
  | true => .And
  | false => .Or
theorem obo_one {b : Bool} {a : Expr} {x : RP.E} {pos : Pos} (h1 : OE X G D E K a x) : OBo X G D E K (.BoolOp (bop b) [a] pos) b [x] := obo_of fun m => pe_one (h1 m)
theorem obo_cons (hX : XOk G C X) (hD : DOk D) {b : Bool} {a c : Expr} {rest : List Expr} {x y : RP.E} {xs : List RP.E} {pos : Pos} (h1 : OE X G D E K a x) (h2 : OBo X G D E K (.BoolOp (bop b) (c :: rest) pos) b (y :: xs)) : OBo X G D E K (.BoolOp (bop b) (a :: c :: rest) pos) b (x :: y :: xs) := obo_of fun m => by
  have main : ∀ {σ : L2.St} {H : Hp} {Q : VK}, tE G D E (evBo G.p K (m + 1) b (x :: y :: xs)) σ H Q → tE G D E (evE G.p K m x) σ H fun v H1 => ∃ k, TruV X.K v H1 k ∧ if k = b then tE G D E (evBo G.p K m b (y :: xs)) σ H1 Q else Q v H1 := by
    rintro σ H Q ⟨r, h, env, rel, er, P⟩
    have P : PostG G (RVal G) E r h H Q ((evE G.p K m x env h).bind fun w h => match truth h w with
      | some k => if k = b then evBo G.p K m b (y :: xs) env h else .ok w h
      | none => .no) := P
    refine ⟨r, h, env, rel, er, P.bind.imp fun v H1 ⟨r1, h1, w, rel1, s1, q1, P1⟩ => ?_⟩
    cases g : truth h1 w with
    | none => rw [g] at P1; exact P1.elim
    | some k =>
      rw [g] at P1
      refine ⟨k, by rw [hX.K]; exact truth_v rel1 q1 g, ?_⟩
      simp only at P1
      by_cases c : k = b
      · rw [if_pos c] at P1 ⊢
        exact ⟨r1, h1, env, rel1, er.step hD rel s1, P1⟩
      · rw [if_neg c] at P1 ⊢
        exact post_val rel1 P1 q1
  cases b with
  | true => exact PE.imp (pe_andT (h1 m) (h2 m)) fun σ H Q t => main t
  | false =>
    refine PE.imp (pe_orT (h1 m) (h2 m)) fun σ H Q t => ?_
    obtain ⟨r, h, env, rel, er, P⟩ := main t
    refine ⟨r, h, env, rel, er, P.imp fun v H1 ⟨k, tk, q⟩ => ⟨k, tk, ?_⟩⟩
    cases k with
    | true => rw [if_pos rfl]; rw [if_neg (by decide)] at q; exact q
    | false => rw [if_neg (by decide)]; rw [if_pos rfl] at q; exact q
/-! ### tests -/
theorem ots_one {b : Bool} {a : Expr} {x : RP.E} {pos : Pos} (h1 : OT X G D E K a x) : OTs X G D E K (.BoolOp (bop b) [a] pos) b [x] := ots_of fun m => by
  cases b with
  | true => exact pw_and1 (h1 m)
  | false => exact pw_or1 (h1 m)
theorem ots_cons (hD : DOk D) {b : Bool} {a c : Expr} {rest : List Expr} {x y : RP.E} {xs : List RP.E} {pos : Pos} (h1 : OT X G D E K a x) (h2 : OTs X G D E K (.BoolOp (bop b) (c :: rest) pos) b (y :: xs)) : OTs X G D E K (.BoolOp (bop b) (a :: c :: rest) pos) b (x :: y :: xs) := ots_of fun m => by
  have main : ∀ {σ : L2.St} {H : Hp} {Q : Bool → Hp → Prop}, tM G D E RId (evTs G.p K (m + 1) b (x :: y :: xs)) σ H Q → tM G D E RId (evT G.p K m x) σ H fun k H1 => if k = b then tM G D E RId (evTs G.p K m b (y :: xs)) σ H1 Q else Q k H1 := by
    rintro σ H Q ⟨r, h, env, rel, er, P⟩
    have P : PostG G RId E r h H Q ((evT G.p K m x env h).bind fun k h => if k = b then evTs G.p K m b (y :: xs) env h else .ok k h) := P
    refine ⟨r, h, env, rel, er, P.bind.imp fun v H1 ⟨r1, h1, w, rel1, s1, q1, P1⟩ => ?_⟩
    have q1 : v = w := q1
    subst q1
    by_cases c : v = b
    · rw [if_pos c] at P1 ⊢
      exact ⟨r1, h1, env, rel1, er.step hD rel s1, P1⟩
    · rw [if_neg c] at P1 ⊢
      exact PostG.ok P1 rel1 rfl
  cases b with
  | true =>
    refine PW.imp (pw_and (h1 m) (h2 m)) fun σ H Q t => ?_
    obtain ⟨r, h, env, rel, er, P⟩ := main t
    refine ⟨r, h, env, rel, er, P.imp fun k H1 q => ?_⟩
    cases k with
    | true => rw [if_pos rfl]; rw [if_pos rfl] at q; exact q
    | false => rw [if_neg (by decide)]; rw [if_neg (by decide)] at q; exact q
  | false =>
    refine PW.imp (pw_or (h1 m) (h2 m)) fun σ H Q t => ?_
    obtain ⟨r, h, env, rel, er, P⟩ := main t
    refine ⟨r, h, env, rel, er, P.imp fun k H1 q => ?_⟩
    cases k with
    | true => rw [if_pos rfl]; rw [if_neg (by decide)] at q; exact q
    | false => rw [if_neg (by decide)]; rw [if_pos rfl] at q; exact q
theorem ot_bo {e : Expr} {b : Bool} {xs : List RP.E} (h : OTs X G D E K e b xs) : OT X G D E K e (.bo b xs) := ot_of fun m => (h m).pt
theorem ot_nt {a : Expr} {x : RP.E} {pos : Pos} (h1 : OT X G D E K a x) : OT X G D E K (.UnaryOp .Not a pos) (.nt x) := ot_of fun m => by
  refine PT.imp (pt_not (h1 m)) ?_
  rintro σ H Q ⟨r, h, env, rel, er, P⟩
  have P : PostG G RId E r h H Q ((evT G.p K m x env h).bind fun b h => .ok (!b) h) := P
  refine ⟨r, h, env, rel, er, P.bind.imp fun v H1 ⟨r1, h1, w, rel1, s1, q1, P1⟩ => ?_⟩
  have q1 : v = w := q1
  subst q1
  exact PostG.ok P1 rel1 rfl
/-- a test by its value -/
def plainT : RP.E → Bool
  | .bo .. => false
  | .nt _ => false
  | .ite .. => false
  | _ => true
theorem evT_plain {x : RP.E} (hx : plainT x = true) (m : Nat) (env : Env) (h : Hv) : evT G.p K (m + 1) x env h = (evE G.p K m x env h).bind fun w h => match truth h w with
      | some b => .ok b h
      | none => .no := by cases x <;> first | rfl | cases hx
theorem ot_val (hX : XOk G C X) {a : Expr} {x : RP.E} (hx : plainT x = true) (he : ∀ whole, isTrue a X.env whole = (do let v ← whole; standAt a.pos; holding [v] (truthy v))) (h1 : OE X G D E K a x) : OT X G D E K a x := ot_of fun m => by
  refine PT.imp (pt_truth (h1 m) he) ?_
  rintro σ H Q ⟨r, h, env, rel, er, P⟩
  rw [evT_plain hx] at P
  refine ⟨r, h, env, rel, er, P.bind.imp fun v H1 ⟨r1, h1, w, rel1, s1, q1, P1⟩ => ?_⟩
  cases g : truth h1 w with
  | none => rw [g] at P1; exact P1.elim
  | some k => rw [g] at P1; exact ⟨k, by rw [hX.K]; exact truth_v rel1 q1 g, PostG.ok P1 rel1 rfl⟩
/-! ### comparisons -/
/-- each comparison is served -/
def CmpOk (X : Cx) (G : Gd) (E : XK) (K : Orc) : Prop := ∀ o, OpR X (compareOp o) (rV G E fun h a b => cmpE G.p K h o a b)
/-- a comparison tells a truth value -/
theorem cmpE_bl {o : CmpOp} {h : Hv} {a b w : W} {h' : Hv} (e : cmpE G.p K h o a b = .ok w h') : ∃ k, w = .bl k := by
  have fnb : ∀ (f : Nat) (ws : List W), ((K.fn f ws h).bind fun w h => (match w with | .bl b => Res.ok (W.bl b) h | _ => .no)) = .ok w h' → ∃ k, w = .bl k := fun f ws e => by
    cases g : K.fn f ws h with
    | ok u h2 =>
      rw [g] at e
      cases u <;> first | (cases e; exact ⟨_, rfl⟩) | cases e
    | ex _ _ _ => rw [g] at e; cases e
    | no => rw [g] at e; cases e
  unfold cmpE at e
  cases g1 : insOf h a with
  | some c =>
    rw [g1] at e
    simp only at e
    cases g2 : methI G.p c eqS with
    | none => rw [g2] at e; cases o <;> cases e
    | some f =>
      rw [g2] at e
      cases hq : eqOther h c b with
      | true => cases o <;> first | (simp only [hq, if_true] at e; exact fnb _ _ e) | cases e
      | false => cases o <;> first | (simp only [hq, Bool.false_eq_true, if_false] at e; cases e) | cases e
  | none =>
    rw [g1] at e
    simp only at e
    cases g2 : insOf h b with
    | some c =>
      rw [g2] at e
      simp only at e
      cases g3 : methI G.p c eqS with
      | none => rw [g3] at e; cases o <;> cases e
      | some f => rw [g3] at e; cases o <;> cases a <;> first | exact fnb _ _ e | cases e
    | none =>
      rw [g2] at e
      simp only at e
      cases g3 : cmpW h o a b with
      | none => rw [g3] at e; cases e
      | some k => rw [g3] at e; cases e; exact ⟨k, rfl⟩
theorem oe_cmp (hD : DOk D) (hc : CmpOk X G E K) {a b : Expr} {x y : RP.E} {o : CmpOp} {pos : Pos} (hm : behindInMarks o b = false) (h1 : OE X G D E K a x) (h2 : OE X G D E K b y) : OE X G D E K (.Compare a [o] [b] pos) (.cmp o x y) := oe_of fun m =>
  PE.imp (pe_cmpR (hc o) (h1 m) (h2 m) hm) fun σ H Q t => two hD (f := fun h a b => cmpE G.p K h o a b) t
/-- the truth of a comparison's value -/
theorem post_bl {r : List Addr} {h : Hv} {H : Hp} {Q : Bool → Hp → Prop} : ∀ {x : Res W}, (∀ w h', x = .ok w h' → ∃ k, w = .bl k) → PostG G RId E r h H Q (x.bind fun w h => match truth h w with | some b => .ok b h | none => .no) → PostG G (RVal G) E r h H (fun v H' => ∃ k, v = .bl k ∧ Q k H') x
  | .ok w h', k, P => by
    obtain ⟨b, rfl⟩ := k w h' rfl
    exact fun v H' r' rel st q => ⟨b, q, P b H' r' rel st rfl⟩
  | .ex _ _ _, _, P => P
  | .no, _, P => P
theorem ot_cmp (hD : DOk D) (hc : CmpOk X G E K) {a b : Expr} {x y : RP.E} {o : CmpOp} {pos : Pos} (hm : behindInMarks o b = false) (h1 : OE X G D E K a x) (h2 : OE X G D E K b y) : OT X G D E K (.Compare a [o] [b] pos) (.cmp o x y) := ot_of fun m => by
  cases m with
  | zero => exact PT.imp pt_no fun σ H Q t => by obtain ⟨r, h, env, rel, er, P⟩ := t; exact P
  | succ m =>
    refine PT.imp (pt_cmpR (hc o) (h1 m) (h2 m) hm) ?_
    rintro σ H Q ⟨r, h, env, rel, er, P⟩
    rw [evT_plain rfl] at P
    refine two hD (f := fun h a b => cmpE G.p K h o a b) (Q := fun x H' => ∃ k, x = V.bl k ∧ Q k H') ⟨r, h, env, rel, er, ?_⟩
    refine post_bl (fun w h' e => ?_) P
    have e : ((evE G.p K m x env h).bind fun x h => (evE G.p K m y env h).bind fun y h => cmpE G.p K h o x y) = .ok w h' := e
    cases g1 : evE G.p K m x env h with
    | ok u1 h1 =>
      rw [g1] at e
      have e : ((evE G.p K m y env h1).bind fun y h => cmpE G.p K h o u1 y) = .ok w h' := e
      cases g2 : evE G.p K m y env h1 with
      | ok u2 h2 => rw [g2] at e; exact cmpE_bl e
      | ex _ _ _ => rw [g2] at e; cases e
      | no => rw [g2] at e; cases e
    | ex _ _ _ => rw [g1] at e; cases e
    | no => rw [g1] at e; cases e
/-- what a chain does -/
theorem chain_read (hD : DOk D) {o1 o2 : CmpOp} {m : Nat} {x y z : RP.E} {σ : L2.St} {H : Hp} {Q : VK} (t : tE G D E (evE G.p K (m + 1) (.chn o1 o2 x y z)) σ H Q) :
    tChain (rV G E fun h a b => cmpE G.p K h o1 a b) (rV G E fun h a b => cmpE G.p K h o2 a b) (tE G D E (evE G.p K m x)) (tE G D E (evE G.p K m y)) (tE G D E (evE G.p K m z)) σ H Q := by
  obtain ⟨r, h, env, rel, er, P⟩ := t
  have P : PostG G (RVal G) E r h H Q ((evE G.p K m x env h).bind fun a h => (evE G.p K m y env h).bind fun b h => (cmpE G.p K h o1 a b).bind fun u h => match u with
      | .bl true => (evE G.p K m z env h).bind fun c h => cmpE G.p K h o2 b c
      | .bl false => .ok (.bl false) h
      | _ => .no) := P
  refine ⟨r, h, env, rel, er, P.bind.imp fun v1 H1 ⟨r1, h1, a, rel1, s1, q1, P1⟩ => ?_⟩
  refine ⟨r1, h1, env, rel1, er.step hD rel s1, P1.bind.imp fun v2 H2 ⟨r2, h2, b, rel2, s2, q2, P2⟩ => ?_⟩
  refine ⟨r2, h2, a, b, rel2, q1.mono s2.le, q2, P2.bind.imp fun v3 H3 ⟨r3, h3, u, rel3, s3, q3, P3⟩ => ?_⟩
  cases u with
  | bl k =>
    refine ⟨k, q3, ?_⟩
    cases k with
    | true =>
      rw [if_pos rfl]
      refine ⟨r3, h3, env, rel3, ((er.step hD rel s1).step hD rel1 s2).step hD rel2 s3, P3.bind.imp fun v4 H4 ⟨r4, h4, c, rel4, s4, q4, P4⟩ => ?_⟩
      exact ⟨r4, h4, b, c, rel4, (q2.mono s3.le).mono s4.le, q4, P4⟩
    | false => rw [if_neg (by decide)]; exact post_val rel3 P3 rfl
  | _ => exact (show False from P3).elim
theorem oe_chn (hD : DOk D) (hc : CmpOk X G E K) {a b c : Expr} {x y z : RP.E} {o1 o2 : CmpOp} {pos : Pos} (hm : lastMarks [o1, o2] [b, c] = false) (h1 : OE X G D E K a x) (h2 : OE X G D E K b y) (h3 : OE X G D E K c z) : OE X G D E K (.Compare a [o1, o2] [b, c] pos) (.chn o1 o2 x y z) := oe_of fun m =>
  PE.imp (pe_chain (hc o1) (hc o2) (h1 m) (h2 m) (h3 m) hm) fun σ H Q t => chain_read hD t
theorem ot_chn (hD : DOk D) (hc : CmpOk X G E K) {a b c : Expr} {x y z : RP.E} {o1 o2 : CmpOp} {pos : Pos} (hm : lastMarks [o1, o2] [b, c] = false) (h1 : OE X G D E K a x) (h2 : OE X G D E K b y) (h3 : OE X G D E K c z) : OT X G D E K (.Compare a [o1, o2] [b, c] pos) (.chn o1 o2 x y z) := ot_of fun m => by
  cases m with
  | zero => exact PT.imp pt_no fun σ H Q t => by obtain ⟨r, h, env, rel, er, P⟩ := t; exact P
  | succ m =>
    refine PT.imp (pt_chain (hc o1) (hc o2) (h1 m) (h2 m) (h3 m) hm) ?_
    rintro σ H Q ⟨r, h, env, rel, er, P⟩
    rw [evT_plain rfl] at P
    refine chain_read hD (Q := fun x H' => ∃ k, x = V.bl k ∧ Q k H') ⟨r, h, env, rel, er, ?_⟩
    refine post_bl (fun w h' e => ?_) P
    have e : ((evE G.p K m x env h).bind fun a h => (evE G.p K m y env h).bind fun b h => (cmpE G.p K h o1 a b).bind fun u h => match u with
      | .bl true => (evE G.p K m z env h).bind fun c h => cmpE G.p K h o2 b c
      | .bl false => .ok (.bl false) h
      | _ => .no) = .ok w h' := e
    cases g1 : evE G.p K m x env h with
    | ok u1 h1 =>
      rw [g1] at e
      simp only [Res.bind] at e
      cases g2 : evE G.p K m y env h1 with
      | ok u2 h2 =>
        rw [g2] at e
        simp only at e
        cases g3 : cmpE G.p K h2 o1 u1 u2 with
        | ok u3 h3 =>
          rw [g3] at e
          obtain ⟨k, rfl⟩ := cmpE_bl g3
          cases k with
          | false => cases e; exact ⟨_, rfl⟩
          | true =>
            simp only at e
            cases g4 : evE G.p K m z env h3 with
            | ok u4 h4 => rw [g4] at e; exact cmpE_bl e
            | ex _ _ _ => rw [g4] at e; cases e
            | no => rw [g4] at e; cases e
        | ex _ _ _ => rw [g3] at e; cases e
        | no => rw [g3] at e; cases e
      | ex _ _ _ => rw [g2] at e; cases e
      | no => rw [g2] at e; cases e
    | ex _ _ _ => rw [g1] at e; cases e
    | no => rw [g1] at e; cases e
end
end RP

set_option Elab.async false
set_option linter.all false
set_option maxRecDepth 100000
set_option maxHeartbeats 4000000
/-! RP14: calls. -/
namespace RP
open PySem PySem.Spec PyProof.Rows L2

section
variable {X : Cx} {G : Gd} {C : Cc} {D : DK} {E : XK} {K : Orc}
/-! ### the trees of plain arguments -/
theorem stars_no {env : PySem.Env} {pos : Pos} : ∀ {es : List Expr}, es.all noStar = true → (backTo pos (starEach es env)).any (·.1) = false ∧ (backTo pos (starEach es env)).all (fun x => !x.1) = true
  | [], _ => ⟨rfl, rfl⟩
  | e :: es, h => by
    rw [List.all_cons, Bool.and_eq_true] at h
    rw [star_ne h.1]
    obtain ⟨h1, h2⟩ := stars_no (env := env) (pos := pos) h.2
    refine ⟨?_, ?_⟩
    · show (false || (backTo pos (starEach es env)).any (·.1)) = false
      rw [h1]; rfl
    · show (true && (backTo pos (starEach es env)).all (fun x => !x.1)) = true
      rw [h2]; rfl
theorem all_cons {e : Expr} {es : List Expr} (h : (e :: es).all noStar = true) : noStar e = true ∧ es.all noStar = true := by
  rw [List.all_cons, Bool.and_eq_true] at h
  exact h
/-- the call of a value with values, from a body -/
def rRun (X : Cx) (f : Value) (σ : L2.St) (vs : List V) (H : Hp) (Q : VK) : Prop := ∀ (pins : List (Addr × Obj)) (s : Shared) (us : List Value), Inv X pins σ H s → Vals vs us → wpAny (model X.prog X.w) X.A (call f us) (EP X pins σ Q) X.xe s
/-- f(..), f a name of the module -/
theorem pe_callX {f : Addr} {x : Str} {e : Expr} {es : List Expr} {t : TA} {p pos : Pos} (hg : Gl X x) (hm : X.mg x = some (.ref f)) (hk : PySem.W.keepIn X.K (.ref f) = true) (hdb : (x == ("__debug__" : Str)) = false) (hs : (e :: es).all noStar = true) (ha : PA X (e :: es) t) :
    PE X (.Call (.Name x p) (e :: es) [] pos) (fun σ H Q => t σ H fun vs H1 => rRun X (.ref f) σ vs H1 Q) := by
  refine ⟨fun pins s σ H Q I h => ?_⟩
  refine wpAny_Call_Name_kw (ld_glob I hg hm ?_ hdb)
  exact PySem.W.callWith_K (h₀ := X.base) I.ok.mod.kin hk (thn (ha.run pos pins s σ H _ I h) fun us s1 ⟨vs, H1, I1, r, q⟩ => ⟨I1.kIn, q pins s1 us I1 r⟩) (star_ne (all_cons hs).1) (stars_no (all_cons hs).2).1
theorem pe_callX0 {f : Addr} {x : Str} {p pos : Pos} (hg : Gl X x) (hm : X.mg x = some (.ref f)) (hk : PySem.W.keepIn X.K (.ref f) = true) (hdb : (x == ("__debug__" : Str)) = false) :
    PE X (.Call (.Name x p) [] [] pos) (fun σ H Q => rRun X (.ref f) σ [] H Q) := by
  refine ⟨fun pins s σ H Q I h => ?_⟩
  refine wpAny_Call_Name_kw (ld_glob I hg hm ?_ hdb)
  exact PySem.W.callWith_K0 I.kIn hk (h pins s [] I .nil)
/-- o.m(..) as its parts -/
theorem meth_tree {o : Expr} {name : Str} {apos pos : Pos} {args : List Expr} {s : Shared} {Q : Value → Shared → Prop} (hb : call0 o = false) (hs : args.all noStar = true) (hl : args.length < 20) (hline : (apos.endLine == pos.line) = true)
    (h : wpAny (model X.prog X.w) X.A (eval o X.env) (fun ov s₁ => ∀ pl, wpAny (model X.prog X.w) X.A (getMethod ov name pl) (fun fx s₂ => wpAny (model X.prog X.w) X.A (callWith pos fx.1 fx.2 (backTo pos (starEach args X.env)) []) Q X.xe s₂) X.xe s₁) X.xe s) :
    wpAny (model X.prog X.w) X.A (eval (.Call (.Attribute o name apos) args [] pos) X.env) Q X.xe s := by
  have hbase : attributeBase o name X.env (eval o X.env) = eval o X.env := by
    unfold attributeBase
    split
    · cases hb
    · rfl
  rw [arm_eval_Call, hbase]
  refine wpAny_bind (wpAny_mono h (fun ov s₁ h₁ => ?_) fun _ _ e => e)
  refine wpAny_bind (wpAny_standAt ?_)
  have hform : methodCallForm (args.length + ([] : List Keyword).length) (backTo pos (starEach args X.env)) (backToKw pos (keywordEach [] X.env)) = true := by
    show ((backTo pos (starEach args X.env)).all (!·.1) && true && decide (args.length + 0 + 0 < 30)) = true
    rw [(stars_no hs).2, decide_eq_true (by omega)]; rfl
  have hpos : methodCallPos true o X.env apos pos = pure pos := by unfold methodCallPos; simp [hline]
  unfold methodCall
  rw [hform]
  refine wpAny_bind (wpAny_holding (wpAny_mono (h₁ _) (fun fx s₂ h₂ => ?_) fun _ _ e => e))
  exact wpAny_bind (wpAny_of_eq hpos h₂)
/-- the call of a found method -/
def rMeth (X : Cx) (f a : Addr) (σ : L2.St) (vs : List V) (H : Hp) (Q : VK) : Prop := rRun X (.ref f) σ (.ref a :: vs) H Q
theorem pe_methX {o e : Expr} {name : Str} {apos pos : Pos} {es : List Expr} {ta : TE} {t : TA} (hb : call0 o = false) (hs : (e :: es).all noStar = true) (hl : (e :: es).length < 20) (hline : (apos.endLine == pos.line) = true) (he : PE X o ta) (ha : PA X (e :: es) t) :
    PE X (.Call (.Attribute o name apos) (e :: es) [] pos) (fun σ H Q => ta σ H fun x H1 => ∃ a Cl dx fs f, x = .ref a ∧ H1 a = some (.ins Cl dx fs) ∧ Cls X.K Cl ∧ Meth X.K Cl name f ∧ fs.lookup name = none ∧ t σ H1 fun vs H2 => rMeth X f a σ vs H2 Q) := by
  refine ⟨fun pins s σ H Q I h => ?_⟩
  refine meth_tree hb hs hl hline (thn (he.run pins s σ H _ I h) fun u s1 ⟨x, H1, I1, rx, a, Cl, dx, fs, f, ex, ea, c, k, l, q⟩ pl => ?_)
  subst ex
  obtain rfl : u = Value.ref a := rx
  refine getmeth_ok I1 ea c k l ?_
  exact PySem.W.callWith_K (first := [.ref a]) (h₀ := X.base) I1.ok.mod.kin k.kp (thn (ha.run pos pins s1 σ H1 _ I1 q) fun us s2 ⟨vs, H2, I2, r, q2⟩ => ⟨I2.kIn, q2 pins s2 (.ref a :: us) I2 (.cons rfl r)⟩) (star_ne (all_cons hs).1) (stars_no (all_cons hs).2).1
theorem pe_methX0 {o : Expr} {name : Str} {apos pos : Pos} {ta : TE} (hb : call0 o = false) (hline : (apos.endLine == pos.line) = true) (he : PE X o ta) :
    PE X (.Call (.Attribute o name apos) [] [] pos) (fun σ H Q => ta σ H fun x H1 => ∃ a Cl dx fs f, x = .ref a ∧ H1 a = some (.ins Cl dx fs) ∧ Cls X.K Cl ∧ Meth X.K Cl name f ∧ fs.lookup name = none ∧ rMeth X f a σ [] H1 Q) := by
  refine ⟨fun pins s σ H Q I h => ?_⟩
  refine meth_tree hb rfl (by decide) hline (thn (he.run pins s σ H _ I h) fun u s1 ⟨x, H1, I1, rx, a, Cl, dx, fs, f, ex, ea, c, k, l, q⟩ pl => ?_)
  subst ex
  obtain rfl : u = Value.ref a := rx
  refine getmeth_ok I1 ea c k l ?_
  exact PySem.W.callWith_K0 (first := [.ref a]) I1.kIn k.kp (q pins s1 [.ref a] I1 (.cons rfl .nil))
/-! ### the machine's calls -/
/-- a def of the inner program -/
def spF (G : Gd) (K : Orc) (f : Nat) : Sp := fun vs H Q E => ∃ r h ws, Rel G r h H ∧ VWs G r vs ws ∧ PostG G (RVal G) E r h H Q (K.fn f ws h)
/-- the callees are served -/
structure KOk (X : Cx) (G : Gd) (E : XK) (K : Orc) : Prop where
  ok : ∃ CX k, Room (k + 1) X.A ∧ Passes CX X E ∧ (∀ l H s e s', ¬ CX l H s (fun _ _ _ => False) e s') ∧ ∀ f, FnR X.prog X.w X.K X.mg X.base CX k (G.F f) (spF G K f)
/-- the callees are served, what they let out lies as the layer has it -/
def LmR (P : Program) (w : World) (Kf : PySem.W.Frag) (mg : Str → Option Value) (base : Heap) (G : Gd) (K : Orc) (k : Nat) : Prop :=
  ∀ (A : Around) (outer : List PySem.Env) (s : Shared) (H : Hp) (us : List Value) (vs vcs : List V) (ws cs : List W) (a : Addr) (F : NG) (l : Lm) (ps : List Str) (js : List Nat) (bd : List S) (r : List Addr) (h : Hv) (Q : VK) (E : XK), Room k A → Env0 P w Kf mg base A outer s H → Vals vs us → Rel G r h H → VWs G r vs ws →
    FzG H a F → H F.c = some (LamX.CodeO F.c F.qual) → Mt G.gl F l ps js bd → NdefX.CellsAt F.cl (freesOf F.scope) (vcs.map some) s.heap H → VWs G r vcs cs → PostG G (RVal G) E r h H Q (K.lm l cs ws h) → codeAny (model P w) A (.call (.ref a) ⟨us, []⟩) (CR (L2.CX P w) outer P w H s Q E) s
structure KSv (X : Cx) (G : Gd) (K : Orc) : Prop where
  ok : ∃ k, Room (k + 1) X.A ∧ (∀ f, FnR X.prog X.w X.K X.mg X.base (L2.CX X.prog X.w) k (G.F f) (spF G K f)) ∧ LmR X.prog X.w X.K X.mg X.base G K k
theorem run_orc (hk : KOk X G E K) {f : Nat} {r : List Addr} {h : Hv} {H : Hp} {vs : List V} {ws : List W} {σ : L2.St} {Q : VK} (rel : Rel G r h H) (q : VWs G r vs ws) (P : PostG G (RVal G) E r h H Q (K.fn f ws h)) : rRun X (.ref (G.F f)) σ vs H Q := fun pins s us I rv => by
  obtain ⟨CX, k, hr, hx, _, F⟩ := hk.ok
  exact wpAny_call (run_fnR (F f) (hr.mono (Nat.le_succ k)) hx I rv ⟨r, h, ws, rel, q, P⟩)
theorem oes_zero {es : List Expr} {xs : List RP.E} {σ : L2.St} {H : Hp} {Q : List V → Hp → Prop} (t : tEs G D E (evEs G.p K 0 xs) σ H Q) : False := tM.no t
theorem find_lookup {name : Str} : ∀ {es : List (Str × V)}, es.find? (fun p => p.1 == name) = none → es.lookup name = none
  | [], _ => rfl
  | (p1, p2) :: es, l => by
    rw [List.find?_cons] at l
    rw [List.lookup_cons]
    cases z : (p1 == name) with
    | true => simp only [z] at l; cases l
    | false =>
      simp only [z] at l
      rw [show (name == p1) = false by rw [BEq.comm]; exact z]
      exact find_lookup l
/-- o.m(..) -/
theorem me_read (hX : XOk G C X) (hG : GOk G) (hD : DOk D) (hk : KOk X G E K) {m : Nat} {o : RP.E} {name : Str} {xs : List RP.E} {σ : L2.St} {H : Hp} {Q : VK} (t : tE G D E (evE G.p K (m + 1) (.me o name xs)) σ H Q) :
    tE G D E (evE G.p K m o) σ H fun x H1 => ∃ a Cl dx fs f, x = .ref a ∧ H1 a = some (.ins Cl dx fs) ∧ Cls X.K Cl ∧ Meth X.K Cl name f ∧ fs.lookup name = none ∧ tEs G D E (evEs G.p K m xs) σ H1 fun vs H2 => rMeth X f a σ vs H2 Q := by
  obtain ⟨r, h, env, rel, er, P⟩ := t
  have P : PostG G (RVal G) E r h H Q ((evE G.p K m o env h).bind fun x h => (match x with
      | .ref q => (match h.get q with
        | some (.ins c fs) => (match methI G.p c name, lookF fs name with
          | some f, none => (evEs G.p K m xs env h).bind fun ws h => K.fn f (x :: ws) h
          | _, _ => .no)
        | _ => .no)
      | _ => .no)) := P
  refine ⟨r, h, env, rel, er, P.bind.imp fun v H1 ⟨r1, h1, w, rel1, s1, q1, P1⟩ => ?_⟩
  cases w with
  | ref q =>
    simp only at P1
    cases g : h1.get q with
    | none => rw [g] at P1; exact P1.elim
    | some ob =>
      rw [g] at P1
      cases ob with
      | ins c fs =>
        simp only at P1
        obtain ⟨a, rfl, ea, dx, es, hA, kA⟩ := ref_obj rel1 q1 g
        cases g1 : methI G.p c name with
        | none => rw [g1] at P1; cases lookF fs name <;> exact P1.elim
        | some f =>
          rw [g1] at P1
          cases g2 : lookF fs name with
          | some _ => rw [g2] at P1; exact P1.elim
          | none =>
            rw [g2] at P1
            simp only at P1
            have hi : insCl G.p c = true := by
              unfold methI at g1
              split at g1
              · assumption
              · cases g1
            have lk : es.lookup name = none := by
              have l := lookF_find name kA
              rw [g2] at l
              exact find_lookup l
            refine ⟨a, G.C c, dx, es, G.F f, rfl, hA, by rw [hX.K]; exact hG.cl c hi, by rw [hX.K]; exact hG.meth c name f g1, lk, ?_⟩
            refine ⟨r1, h1, env, rel1, er.step hD rel s1, P1.bind.imp fun vs H2 ⟨r2, h2, ws, rel2, s2, q2, P2⟩ => ?_⟩
            exact run_orc hk rel2 (.cons (q1.mono s2.le) q2) P2
      | _ => exact P1.elim
  | _ => exact (show False from P1).elim
theorem oe_me (hX : XOk G C X) (hG : GOk G) (hD : DOk D) (hk : KOk X G E K) {o e : Expr} {name : Str} {apos pos : Pos} {es : List Expr} {x : RP.E} {xs : List RP.E} (hb : call0 o = false) (hs : (e :: es).all noStar = true) (hl : (e :: es).length < 20) (hline : (apos.endLine == pos.line) = true) (h1 : OE X G D E K o x) (h2 : OEs X G D E K (e :: es) xs) :
    OE X G D E K (.Call (.Attribute o name apos) (e :: es) [] pos) (.me x name xs) := oe_of fun m =>
  PE.imp (pe_methX hb hs hl hline (h1 m) (h2 m)) fun σ H Q t => me_read hX hG hD hk t
theorem oe_me0 (hX : XOk G C X) (hG : GOk G) (hD : DOk D) (hk : KOk X G E K) {o : Expr} {name : Str} {apos pos : Pos} {x : RP.E} (hb : call0 o = false) (hline : (apos.endLine == pos.line) = true) (h1 : OE X G D E K o x) :
    OE X G D E K (.Call (.Attribute o name apos) [] [] pos) (.me x name []) := oe_of fun m =>
  PE.imp (pe_methX0 hb hline (h1 m)) fun σ H Q t => by
    obtain ⟨r, h, env, rel, er, P⟩ := me_read hX hG hD hk t
    refine ⟨r, h, env, rel, er, P.imp fun v H1 ⟨a, Cl, dx, fs, f, e1, e2, e3, e4, e5, t⟩ => ⟨a, Cl, dx, fs, f, e1, e2, e3, e4, e5, ?_⟩⟩
    cases m with
    | zero => exact tM.no t
    | succ m =>
      obtain ⟨r, h, env, rel, er, P⟩ := t
      exact PostG.ok (R := RVals G) P rel .nil
/-- C(..) -/
theorem oe_mk (hX : XOk G C X) (hG : GOk G) (hD : DOk D) (hk : KOk X G E K) {n : Str} {c : Nat} {e : Expr} {es : List Expr} {xs : List RP.E} {p pos : Pos} (hc : C.glob n = some (.cls c)) (hs : (e :: es).all noStar = true) (h1 : OEs X G D E K (e :: es) xs) :
    OE X G D E K (.Call (.Name n p) (e :: es) [] pos) (.mk c xs) := oe_of fun m => by
  obtain ⟨g1, g2, g3⟩ := glob_is hX hc
  cases gm : methI G.p c initS with
  | none =>
    exact PE.imp pe_no fun σ H Q ⟨r, h, env, rel, er, P⟩ => by
      have P : PostG G (RVal G) E r h H Q (match methI G.p c initS with
        | some f => (evEs G.p K m xs env h).bind fun ws h => (K.fn f (.ref h.n :: ws) (h.push (.ins c []))).bind fun r h' => match r with
          | .non => .ok (.ref h.n) h'
          | _ => .no
        | none => .no) := P
      rw [gm] at P
      exact P
  | some f =>
    have M := hG.make c f gm
    refine PE.imp (pe_callX (f := G.C c) g1 (by rw [hX.mg]; exact hG.cls n c g3) (by rw [hX.K]; exact M.kp) g2 hs (h1 m)) ?_
    rintro σ H Q ⟨r, h, env, rel, er, P⟩
    have P : PostG G (RVal G) E r h H Q (match methI G.p c initS with
        | some f => (evEs G.p K m xs env h).bind fun ws h => (K.fn f (.ref h.n :: ws) (h.push (.ins c []))).bind fun r h' => match r with
          | .non => .ok (.ref h.n) h'
          | _ => .no
        | none => .no) := P
    rw [gm] at P
    refine ⟨r, h, env, rel, er, P.bind.imp fun vs H1 ⟨r1, h1, ws, rel1, s1, q1, P1⟩ => ?_⟩
    intro pins s us I rv
    obtain ⟨CX, k, hr, hx, _, F⟩ := hk.ok
    refine StX.run_makeR (by rw [hX.K]; exact M) (F f) hr hx I rv fun a dx ha hdx ne => ?_
    have hd1 : upd H1 dx (.own a) a = none := by rw [upd_ne ne.symm]; exact ha
    have relD : Rel G r1 h1 (upd H1 dx (.own a)) := rel1.ext hdx
    have new : OR G (r1 ++ [a]) (upd (upd H1 dx (.own a)) a (.ins (G.C c) dx [])) a (.ins c []) := ⟨dx, [], upd_same, .nil⟩
    have rel2 := relD.push hd1 rfl new
    have st2 : Step G r1 h1 H1 (r1 ++ [a]) (h1.push (.ins c [])) (upd (upd H1 dx (.own a)) a (.ins (G.C c) dx [])) := (Step.ext rel1 hdx).trans (Step.push relD hd1)
    refine ⟨r1 ++ [a], h1.push (.ins c []), .ref h1.n :: ws, rel2, .cons ⟨a, get_new relD a, rfl⟩ (q1.mono (Le.push _ _)), ?_⟩
    refine ((P1.rebase st2).bind).imp fun v H2 ⟨r3, h3, w, rel3, s3, q3, P3⟩ => ?_
    cases w with
    | non => exact ⟨q3, post_val rel3 P3 ⟨a, s3.le.get (get_new relD a), rfl⟩⟩
    | _ => exact (show False from P3).elim
end
end RP

set_option Elab.async false
set_option linter.all false
set_option maxRecDepth 100000
set_option maxHeartbeats 4000000
/-! RP15: built-ins by name, built-in methods, fields, isinstance, dicts written. -/
namespace RP
open PySem PySem.Spec PyProof.Rows L2

section
variable {X : Cx} {G : Gd} {C : Cc} {D : DK} {E : XK} {K : Orc}
def biName : Bi → Str
  | .len => "len"
  | .list => "list"
  | .tuple => "tuple"
  | .all => "all"
  | .any => "any"
  | .sum => "sum"
  | .sorted => "sorted"
  | .abs => "abs"
  | .int => "int"
  | .dict => "dict"
def biVal : Bi → Value
  | .len => .builtin "len"
  | .list => .type "list"
  | .tuple => .type "tuple"
  | .all => .builtin "all"
  | .any => .builtin "any"
  | .sum => .builtin "sum"
  | .sorted => .builtin "sorted"
  | .abs => .builtin "abs"
  | .int => .type "int"
  | .dict => .type "dict"
theorem biOf_is {x : Str} {b : Bi} (e : biOf x = some b) : x = biName b := by
  unfold biOf at e
  repeat' (split at e)
  all_goals first | (rename_i h; cases e; exact eq_of_beq h) | cases e
theorem bi_boot (b : Bi) : bootBuiltins (biName b) = some (biVal b) := by
  cases b
  · exact PySem.boot_len
  · exact PyProof.Rows.boot_list
  · exact PyProof.Rows.boot_tuple
  · exact PyProof.Rows.boot_all
  · exact PyProof.Rows.boot_any
  · exact PyProof.Rows.boot_sum
  · exact PyProof.Rows.boot_sorted
  · exact PyProof.Rows.boot_abs
  · exact PyProof.Rows.boot_int
  · exact PyProof.Rows.boot_dict
theorem bi_in (b : Bi) : biName b ∈ bnames := by cases b <;> decide
theorem bi_call (hX : XOk G C X) (b : Bi) : CallR X (biVal b) (rVs G E fun h => biW h b) := by
  have hu := hX.units
  cases b
  · exact bi_len hX.K
  · exact bi_list hX.K hX.w hX.calm
  · exact bi_tuple hX.K
  · exact bi_all hX.K hX.calm
  · exact bi_any hX.K hX.calm
  · exact bi_sum hX.K hX.calm
  · exact bi_sorted hX.K hX.calm (by omega)
  · exact bi_abs
  · exact bi_int
  · exact bi_dict
theorem pe_callBi {r : List V → Hp → VK → Prop} {b : Bi} {e : Expr} {es : List Expr} {t : TA} {p pos : Pos} (hc : CallR X (biVal b) r) (hg : Gl X (biName b)) (hm : X.mg (biName b) = none) (ha : PA X (e :: es) t) (hs : (e :: es).all noStar = true) : PE X (.Call (.Name (biName b) p) (e :: es) [] pos) (tCB r t) := by
  have h1 := star_ne (env := X.env) (es := es) (all_cons hs).1
  have h2 := (stars_no (env := X.env) (pos := pos) (all_cons hs).2).1
  have nn : biName b ≠ "__name__" := by cases b <;> decide
  have nd : (biName b == ("__debug__" : Str)) = false := by cases b <;> decide
  have bb := bi_boot b
  cases b <;> first | exact pe_callB hc hg hm bb ha nn nd h1 h2 | exact pe_callTy hc hg hm bb ha nn nd h1 h2
theorem oe_bi (hX : XOk G C X) (hG : GOk G) {x : Str} {b : Bi} {es : List Expr} {xs : List RP.E} {p pos : Pos} (hb : C.blt x = true) (eb : biOf x = some b) (hs : es.all noStar = true) (hn : es = [] → xs = []) (h1 : OEs X G D E K es xs) : OE X G D E K (.Call (.Name x p) es [] pos) (.bi b xs) := oe_of fun m => by
  have ex := biOf_is eb
  subst ex
  obtain ⟨hg, hm⟩ := blt_is hX hG hb (bi_in b)
  cases es with
  | nil =>
    refine PE.imp pe_no ?_
    rintro σ H Q ⟨r, h, env, rel, er, P⟩
    rw [hn rfl] at P
    cases m with
    | zero => exact P
    | succ m => exact P
  | cons e es =>
    refine PE.imp (pe_callBi (bi_call (E := E) hX b) hg hm (h1 m) hs) ?_
    rintro σ H Q ⟨r, h, env, rel, er, P⟩
    have P : PostG G (RVal G) E r h H Q ((evEs G.p K m xs env h).bind fun ws h => biW h b ws) := P
    exact ⟨r, h, env, rel, er, P.bind.imp fun vs H1 ⟨r1, h1, ws, rel1, s1, q1, P1⟩ => ⟨r1, h1, ws, rel1, q1, P1⟩⟩
/-! ### methods of built-in types -/
def bmName : Bm → Str
  | .append => "append"
  | .extend => "extend"
  | .pop => "pop"
  | .index => "index"
  | .split => "split"
  | .get => "get"
theorem bmOf_is {x : Str} {b : Bm} (e : bmOf x = some b) : x = bmName b := by
  unfold bmOf at e
  repeat' (split at e)
  all_goals first | (rename_i h; cases e; exact eq_of_beq h) | cases e
def bmTy : Bm → String
  | .split => "str"
  | .get => "dict"
  | _ => "list"
def bmId : Bm → String
  | .append => "list.append"
  | .extend => "list.extend"
  | .pop => "list.pop"
  | .index => "list.index"
  | .split => "str.split"
  | .get => "dict.get"
theorem bm_all (hX : XOk G C X) (b : Bm) : MtR X (bmId b) (rMt G E b) := by
  have hu := hX.units
  cases b
  · exact bm_append
  · exact bm_extend
  · exact bm_pop
  · exact bm_index hX.K (by omega)
  · exact bm_split
  · exact bm_get (by omega)
theorem bm_ty {r : List Addr} {h : Hv} {H : Hp} (rel : Rel G r h H) {b : Bm} {v : V} {w : W} (q : VW G r v w) (k : bmOk h b w = true) : tyV G.K (bmTy b) v H := by
  have l : isLst h w = true → tyV G.K "list" v H := fun k => by
    obtain ⟨a, ws, vs, rfl, _, s, _⟩ := isLst_at rel q k
    exact .inl ⟨rfl, vs, s⟩
  cases b with
  | split =>
    cases w with
    | str s => rw [show v = .str s from q]; rfl
    | _ => cases k
  | get =>
    have k : (dctOf h w).isSome = true := k
    cases g : dctOf h w with
    | none => rw [g] at k; cases k
    | some kvs =>
      obtain ⟨_, a, es, _, _, _, rfl, hA, _, _⟩ := dct_at rel q g
      exact .inr (.inr (.inl ⟨rfl, .inl ⟨es, hA⟩⟩))
  | append => exact l k
  | extend => exact l k
  | pop => exact l k
  | index => exact l k
theorem bm_facts (b : Bm) : PlainAttrs (bmTy b) ∧ Slot (bmTy b) (bmName b) (bmId b) ∧ typeOf (.builtin (bmId b)) = pure (.type "method_descriptor") := by
  cases b
  · exact ⟨PySem.F.plainAttrs_list, PySem.F.slot_list_append, PySem.F.type_list_append⟩
  · exact ⟨PySem.F.plainAttrs_list, PySem.F.slot_list_extend, PySem.F.type_list_extend⟩
  · exact ⟨PySem.F.plainAttrs_list, PySem.F.slot_list_pop, PySem.F.type_list_pop⟩
  · exact ⟨PySem.F.plainAttrs_list, PySem.F.slot_list_index, PySem.F.type_list_index⟩
  · exact ⟨PySem.F.plainAttrs_str, PySem.F.slot_str_split, PySem.F.type_str_split⟩
  · exact ⟨PySem.F.plainAttrs_dict, PySem.F.slot_dict_get, PySem.F.type_dict_get⟩
theorem base_of {o : Expr} {m : Str} (hb : call0 o = false) : attributeBase o m X.env (eval o X.env) = eval o X.env := by
  unfold attributeBase
  split
  · cases hb
  · rfl
theorem bm_read (hX : XOk G C X) (hD : DOk D) {m : Nat} {b : Bm} {o : RP.E} {xs : List RP.E} {σ : L2.St} {H : Hp} {Q : VK} (t : tE G D E (evE G.p K (m + 1) (.bm b o xs)) σ H Q) :
    tBM X.K (bmTy b) (rMt G E b) (tE G D E (evE G.p K m o)) (tEs G D E (evEs G.p K m xs)) σ H Q := by
  obtain ⟨r, h, env, rel, er, P⟩ := t
  have P : PostG G (RVal G) E r h H Q ((evE G.p K m o env h).bind fun x h => if bmOk h b x then (evEs G.p K m xs env h).bind fun ws h => bmW h b x ws else .no) := P
  refine ⟨r, h, env, rel, er, P.bind.imp fun v H1 ⟨r1, h1, w, rel1, s1, q1, P1⟩ => ?_⟩
  split at P1
  · rename_i k
    refine ⟨by rw [hX.K]; exact bm_ty rel1 q1 k, ⟨r1, h1, env, rel1, er.step hD rel s1, P1.bind.imp fun vs H2 ⟨r2, h2, ws, rel2, s2, q2, P2⟩ => ?_⟩⟩
    exact ⟨r2, h2, w, ws, rel2, q1.mono s2.le, q2, P2⟩
  · exact P1.elim
theorem oe_bm (hX : XOk G C X) (hD : DOk D) {b : Bm} {n : Str} {o e : Expr} {es : List Expr} {x : RP.E} {xs : List RP.E} {apos pos : Pos} (eb : bmOf n = some b) (hb : call0 o = false) (hs : (e :: es).all noStar = true) (hl : (e :: es).length < 20) (hline : (apos.endLine == pos.line) = true) (h1 : OE X G D E K o x) (h2 : OEs X G D E K (e :: es) xs) :
    OE X G D E K (.Call (.Attribute o n apos) (e :: es) [] pos) (.bm b x xs) := oe_of fun m => by
  rw [bmOf_is eb]
  obtain ⟨f1, f2, f3⟩ := bm_facts b
  refine PE.imp (pe_bm f1 f2 f3 (bm_all (E := E) hX b) (h1 m) (h2 m) (base_of hb) ?_ hline (star_ne (all_cons hs).1) (stars_no (all_cons hs).2).1) fun σ H Q t => bm_read hX hD t
  show ((backTo pos (starEach (e :: es) X.env)).all (fun x => !x.1) && true && decide ((e :: es).length + 0 + 0 < 30)) = true
  rw [(stars_no hs).2, decide_eq_true (by omega)]; rfl
theorem oe_bm0 (hX : XOk G C X) (hD : DOk D) {b : Bm} {n : Str} {o : Expr} {x : RP.E} {apos pos : Pos} (eb : bmOf n = some b) (hb : call0 o = false) (hline : (apos.endLine == pos.line) = true) (h1 : OE X G D E K o x) :
    OE X G D E K (.Call (.Attribute o n apos) [] [] pos) (.bm b x []) := oe_of fun m => by
  rw [bmOf_is eb]
  obtain ⟨f1, f2, f3⟩ := bm_facts b
  refine PE.imp (pe_bm0 f1 f2 f3 (bm_all (E := E) hX b) (h1 m) (base_of hb) hline) fun σ H Q t => ?_
  obtain ⟨r, h, env, rel, er, P⟩ := bm_read hX hD t
  refine ⟨r, h, env, rel, er, P.imp fun v H1 ⟨ty, t⟩ => ⟨ty, ?_⟩⟩
  cases m with
  | zero => exact tM.no t
  | succ m =>
    obtain ⟨r, h, env, rel, er, P⟩ := t
    exact PostG.ok (R := RVals G) P rel .nil
/-! ### fields -/
theorem fld_lookup {name : Str} {p : Str × V} : ∀ {es : List (Str × V)}, es.find? (fun p => p.1 == name) = some p → es.lookup name = some p.2
  | (p1, p2) :: es, l => by
    rw [List.find?_cons] at l
    rw [List.lookup_cons]
    cases z : (p1 == name) with
    | true =>
      simp only [z] at l
      cases l
      rw [show (name == p1) = true by rw [BEq.comm]; exact z]
    | false =>
      simp only [z] at l
      rw [show (name == p1) = false by rw [BEq.comm]; exact z]
      exact fld_lookup l
theorem oe_fld (hX : XOk G C X) (hG : GOk G) {o : Expr} {f : Str} {x : RP.E} {pos : Pos} (hb : call0 o = false) (h1 : OE X G D E K o x) : OE X G D E K (.Attribute o f pos) (.fld x f) := oe_of fun m => by
  refine PE.imp (pe_fld (h1 m) (base_of hb)) ?_
  rintro σ H Q ⟨r, h, env, rel, er, P⟩
  have P : PostG G (RVal G) E r h H Q ((evE G.p K m x env h).bind fun x h => (match x with
      | .ref q => (match h.get q with
        | some (.ins c fs) => if fldOf G.p c f then (match lookF fs f with
          | some w => .ok w h
          | none => .no) else .no
        | _ => .no)
      | _ => .no)) := P
  refine ⟨r, h, env, rel, er, P.bind.imp fun v H1 ⟨r1, h1, w, rel1, s1, q1, P1⟩ => ?_⟩
  cases w with
  | ref q =>
    simp only at P1
    cases g : h1.get q with
    | none => rw [g] at P1; exact P1.elim
    | some ob =>
      rw [g] at P1
      cases ob with
      | ins c fs =>
        simp only at P1
        obtain ⟨a, rfl, ea, dx, es, hA, kA⟩ := ref_obj rel1 q1 g
        split at P1
        · rename_i k
          have l := lookF_find f kA
          cases g2 : lookF fs f with
          | none => rw [g2] at P1; exact P1.elim
          | some w =>
            rw [g2] at P1 l
            obtain ⟨p, l1, l2⟩ := l
            have hi : insCl G.p c = true := by
              unfold fldOf at k
              exact (Bool.and_eq_true_iff.mp k).1
            exact ⟨a, G.C c, dx, es, p.2, rfl, hA, by rw [hX.K]; exact hG.cl c hi, by rw [hX.K]; exact hG.fld c f k, fld_lookup l1, post_val rel1 P1 l2⟩
        · exact P1.elim
      | _ => exact P1.elim
  | _ => exact (show False from P1).elim
end
end RP

set_option Elab.async false
set_option linter.all false
set_option maxRecDepth 100000
set_option maxHeartbeats 4000000
/-! RP16: isinstance. -/
namespace RP
open PySem PySem.Spec PyProof.Rows L2

section
variable {X : Cx} {G : Gd} {C : Cc} {D : DK} {E : XK} {K : Orc}
def tyNm : Ty1 → String
  | .int => "int"
  | .str => "str"
  | .bool => "bool"
  | .list => "list"
  | .tuple => "tuple"
  | .dict => "dict"
  | .own _ => ""
def tyVal (G : Gd) : Ty1 → V
  | .own c => .ref (G.C c)
  | t => .ty (tyNm t)
def tyU (G : Gd) : Ty1 → Value
  | .own c => .ref (G.C c)
  | t => .type (tyNm t)
theorem ty_cls (t : Ty1) : ClsV (tyVal G t) (tyU G t) := by cases t <;> first | exact .own _ | exact .ty _
theorem tyN_is {x : Str} {t : Ty1} (h : tyN x = some t) : (∀ c, t ≠ .own c) ∧ x = Str.ofString (tyNm t) := by
  unfold tyN at h
  repeat' (split at h)
  all_goals first | (rename_i k; cases h; exact ⟨fun c z => (nomatch z), eq_of_beq k⟩) | cases h
theorem tyOf_name {e : Expr} {t : Ty1} (h : tyOf C e = some t) : ∃ x p, e = .Name x p ∧ ((C.blt x = true ∧ (∀ c, t ≠ .own c) ∧ x = Str.ofString (tyNm t)) ∨ ∃ c, t = .own c ∧ C.glob x = some (.cls c)) := by
  have hn : ∃ x p, e = .Name x p := by cases e <;> first | exact ⟨_, _, rfl⟩ | (exfalso; simp [tyOf] at h)
  obtain ⟨x, p, rfl⟩ := hn
  refine ⟨x, p, rfl, ?_⟩
  have h : (if C.blt x then tyN x else tyG C x) = some t := h
  by_cases cb : C.blt x = true
  · rw [if_pos cb] at h
    exact .inl ⟨cb, tyN_is h⟩
  · rw [if_neg cb] at h
    unfold tyG at h
    cases g : C.glob x with
    | none => rw [g] at h; cases h
    | some k =>
      rw [g] at h
      cases k with
      | cls c => cases h; exact .inr ⟨c, rfl, rfl⟩
      | _ => cases h
theorem ty_pe (hX : XOk G C X) (hG : GOk G) {e : Expr} {t : Ty1} (h : tyOf C e = some t) : PE X e (tC (tyVal G t)) ∧ noStar e = true := by
  obtain ⟨x, p, he, hh⟩ := tyOf_name h
  clear h
  subst he
  refine ⟨?_, rfl⟩
  rcases hh with ⟨hb, hn, rfl⟩ | ⟨c, rfl, hc⟩
  · have bt : ∀ (n : Str) (s : String), n ∈ bnames → n ≠ "__name__" → (n == ("__debug__" : Str)) = false → C.blt n = true → bootBuiltins n = some (.type s) → PE X (.Name n p) (tC (.ty s)) := fun n s h1 h2 h3 h4 h5 => by
      obtain ⟨g, m⟩ := blt_is hX hG h4 h1
      exact pe_bltn g m h5 rfl h2 h3
    cases t with
    | int => exact bt _ _ (by decide) (by decide) (by decide) hb PyProof.Rows.boot_int
    | str => exact bt _ _ (by decide) (by decide) (by decide) hb PyProof.Rows.boot_str
    | bool => exact bt _ _ (by decide) (by decide) (by decide) hb PyProof.Rows.boot_bool
    | list => exact bt _ _ (by decide) (by decide) (by decide) hb PyProof.Rows.boot_list
    | tuple => exact bt _ _ (by decide) (by decide) (by decide) hb PyProof.Rows.boot_tuple
    | dict => exact bt _ _ (by decide) (by decide) (by decide) hb PyProof.Rows.boot_dict
    | own c => exact absurd rfl (hn c)
  · obtain ⟨g1, g2, g3⟩ := glob_is hX hc
    exact pe_glob (v := .ref (G.C c)) g1 (by rw [hX.mg]; exact hG.cls x c g3) rfl g2
theorem ty_len (hX : XOk G C X) (hG : GOk G) {e : Expr} {t : Ty1} (h : tyOf C e = some t) : ∀ c, t = .own c → c < G.p.clss.length := fun c ht => by
  obtain ⟨x, p, he, hh⟩ := tyOf_name h
  rcases hh with ⟨hb, hn, _⟩ | ⟨c', rfl, hc⟩
  · exact absurd ht (hn c)
  · cases ht
    exact hG.clsL x _ (glob_is hX hc).2.2
/-- the type of a value -/
inductive TyW (G : Gd) (h : Hv) : W → Value → Prop
  | non : TyW G h .non (.type "NoneType")
  | bl (b : Bool) : TyW G h (.bl b) (.type "bool")
  | int (i : Int) : TyW G h (.int i) (.type "int")
  | str (s : Str) : TyW G h (.str s) (.type "str")
  | lst {n : Nat} {xs : List W} : h.get n = some (.lst xs) → TyW G h (.ref n) (.type "list")
  | rls {n : Nat} {xs : List W} : h.get n = some (.rls xs) → TyW G h (.ref n) (.type "list")
  | tup {n : Nat} {xs : List W} : h.get n = some (.tup xs) → TyW G h (.ref n) (.type "tuple")
  | dct {n : Nat} {xs : List (Key × W)} : h.get n = some (.dct xs) → TyW G h (.ref n) (.type "dict")
  | ins {n d : Nat} {fs : List (Str × W)} : h.get n = some (.ins d fs) → insCl G.p d = true → TyW G h (.ref n) (.ref (G.C d))
theorem tyW_x (hG : GOk G) {r : List Addr} {h : Hv} {H : Hp} (rel : Rel G r h H) {v : V} {w : W} {t : Value} (q : VW G r v w) (k : TyW G h w t) : TyX G.K H v t := by
  cases k with
  | non => rw [show v = .non from q]; exact .base .non
  | bl b => rw [show v = .bl b from q]; exact .base (.bl b)
  | int i => rw [show v = .int i from q]; exact .base (.int i)
  | str s => rw [show v = .str s from q]; exact .base (.str s)
  | lst e => obtain ⟨a, rfl, _, vs, hA, _⟩ := ref_obj rel q e; exact .base (.lst hA)
  | rls e =>
    obtain ⟨a, rfl, _, vs, hA, _⟩ := ref_obj rel q e
    rcases hA with ⟨o, hA⟩ | hA
    · exact .base (.frz hA)
    · rcases hA (fun _ => none) with (z | ⟨o, z⟩) | ⟨o, its, n, e1, e2, _⟩
      · cases z
      · cases z
      · exact .kList e1 e2
  | tup e =>
    obtain ⟨a, rfl, _, vs, hA, _⟩ := ref_obj rel q e
    rcases hA with (z | ⟨o, z⟩) | ⟨o, its, n, e1, e2, _⟩
    · exact .base (.tup z)
    · exact .fTuple z
    · exact .kTuple e1 e2
  | dct e => obtain ⟨a, rfl, _, es, hA, _⟩ := ref_obj rel q e; exact .base (.dK hA)
  | ins e hd =>
    obtain ⟨a, rfl, _, dx, es, hA, _⟩ := ref_obj rel q e
    exact .base (.ins hA (hG.cl _ hd) (hG.ins1 _ hd) hG.ins2 hG.ins3 (hG.ins4 _ hd))
/-- which answer isinstance gives -/
theorem isi_one (hG : GOk G) {h : Hv} {w : W} {t : Value} (k : TyW G h w t) (y : Ty1) (hl : ∀ c, y = .own c → c < G.p.clss.length) : ∃ b, isiW G.p h w y = some b ∧ PySem.W.kitOne G.K t (tyU G y) = some b := by
  have tt : ∀ {a b : String} {z : Bool}, kitB a b = some z → PySem.W.kitOne G.K (.type a) (.type b) = some z := fun h => kit_ty h
  cases y with
  | own c =>
    have hc := hl c rfl
    cases k with
    | ins e hd => exact ⟨_, by simp only [isiW, e], hG.isiC _ _ hd hc⟩
    | non => exact ⟨false, rfl, hG.isiT _ (by decide) _ hc⟩
    | bl _ => exact ⟨false, rfl, hG.isiT _ (by decide) _ hc⟩
    | int _ => exact ⟨false, rfl, hG.isiT _ (by decide) _ hc⟩
    | str _ => exact ⟨false, rfl, hG.isiT _ (by decide) _ hc⟩
    | lst e => exact ⟨false, by simp only [isiW, e], hG.isiT _ (by decide) _ hc⟩
    | rls e => exact ⟨false, by simp only [isiW, e], hG.isiT _ (by decide) _ hc⟩
    | tup e => exact ⟨false, by simp only [isiW, e], hG.isiT _ (by decide) _ hc⟩
    | dct e => exact ⟨false, by simp only [isiW, e], hG.isiT _ (by decide) _ hc⟩
  | _ =>
    cases k with
    | ins e hd => exact ⟨false, by simp only [isiW, e], hG.isiI _ hd _ (by decide)⟩
    | non => first | exact ⟨false, rfl, tt (by decide +kernel)⟩ | exact ⟨true, rfl, tt (by decide +kernel)⟩
    | bl _ => first | exact ⟨false, rfl, tt (by decide +kernel)⟩ | exact ⟨true, rfl, tt (by decide +kernel)⟩
    | int _ => first | exact ⟨false, rfl, tt (by decide +kernel)⟩ | exact ⟨true, rfl, tt (by decide +kernel)⟩
    | str _ => first | exact ⟨false, rfl, tt (by decide +kernel)⟩ | exact ⟨true, rfl, tt (by decide +kernel)⟩
    | lst e => first | exact ⟨false, by simp only [isiW, e], tt (by decide +kernel)⟩ | exact ⟨true, by simp only [isiW, e], tt (by decide +kernel)⟩
    | rls e => first | exact ⟨false, by simp only [isiW, e], tt (by decide +kernel)⟩ | exact ⟨true, by simp only [isiW, e], tt (by decide +kernel)⟩
    | tup e => first | exact ⟨false, by simp only [isiW, e], tt (by decide +kernel)⟩ | exact ⟨true, by simp only [isiW, e], tt (by decide +kernel)⟩
    | dct e => first | exact ⟨false, by simp only [isiW, e], tt (by decide +kernel)⟩ | exact ⟨true, by simp only [isiW, e], tt (by decide +kernel)⟩
theorem isi_any (hG : GOk G) {h : Hv} {w : W} {t : Value} (k : TyW G h w t) : ∀ (ys : List Ty1), (∀ y ∈ ys, ∀ c, y = .own c → c < G.p.clss.length) → PySem.W.kitAny G.K t (ys.map (tyU G)) = some (ys.any fun y => match isiW G.p h w y with | some b => b | none => false)
  | [], _ => kitAny_nil
  | y :: ys, hl => by
    obtain ⟨b, e1, e2⟩ := isi_one hG k y (hl y (List.mem_cons_self ..))
    rw [List.map_cons, List.any_cons, e1]
    refine kitAny_cons e2 (fun hb => ?_) (fun hb => ?_)
    · subst hb
      rw [Bool.false_or]
      exact isi_any hG k ys fun z hz => hl z (List.mem_cons_of_mem _ hz)
    · subst hb; rfl
/-- the value's type is told -/
theorem isi_ty (h : Hv) (w : W) (k : isiOk G.p h w = true) : ∃ t, TyW G h w t := by
  cases w with
  | non => exact ⟨_, .non⟩
  | bl b => exact ⟨_, .bl b⟩
  | int i => exact ⟨_, .int i⟩
  | str s => exact ⟨_, .str s⟩
  | ref n =>
    simp only [isiOk] at k
    cases e : h.get n with
    | none => rw [e] at k; cases k
    | some o =>
      rw [e] at k
      cases o with
      | lst _ => exact ⟨_, .lst e⟩
      | rls _ => exact ⟨_, .rls e⟩
      | tup _ => exact ⟨_, .tup e⟩
      | dct _ => exact ⟨_, .dct e⟩
      | ins d fs => exact ⟨_, .ins e k⟩
      | _ => cases k
  | _ => cases k
theorem tys_pa (hX : XOk G C X) (hG : GOk G) : ∀ {es : List Expr} {ts : List Ty1}, es.mapM (tyOf C) = some ts → PA X es (fun _ H Q => Q (ts.map (tyVal G)) H)
  | [], ts, e => by
    have : ts = [] := by simpa using e.symm
    subst this
    exact pa_nil
  | e :: es, ts, h => by
    obtain ⟨t, ts', e1, e2, rfl⟩ := mapM_cons_some h
    obtain ⟨p1, p2⟩ := ty_pe hX hG e1
    exact pa_cons p1 (tys_pa hX hG e2) (star_ne p2)
theorem tys_len (hX : XOk G C X) (hG : GOk G) : ∀ {es : List Expr} {ts : List Ty1}, es.mapM (tyOf C) = some ts → ∀ y ∈ ts, ∀ c, y = .own c → c < G.p.clss.length
  | [], ts, e => by
    have : ts = [] := by simpa using e.symm
    subst this
    exact fun y hy => nomatch hy
  | e :: es, ts, h => by
    obtain ⟨t, ts', e1, e2, rfl⟩ := mapM_cons_some h
    exact fun y hy => (List.mem_cons.mp hy).elim (fun z => by rw [z]; exact ty_len hX hG e1) (tys_len hX hG e2 y)
theorem tys_cls : ∀ ts : List Ty1, Paired ClsV (ts.map (tyVal G)) (ts.map (tyU G))
  | [] => .nil
  | t :: ts => .cons (ty_cls t) (tys_cls ts)
theorem isi_post {r : List Addr} {h : Hv} {H : Hp} {Q : VK} {w : W} {ys : List Ty1} (P : PostG G (RVal G) E r h H Q (if isiOk G.p h w then .ok (.bl (ys.any fun t => match isiW G.p h w t with
        | some b => b
        | none => false)) h else .no)) : isiOk G.p h w = true ∧ PostG G (RVal G) E r h H Q (.ok (.bl (ys.any fun t => match isiW G.p h w t with
        | some b => b
        | none => false)) h) := by
  split at P
  · rename_i k; exact ⟨k, P⟩
  · exact P.elim
theorem tys_cases {t : Expr} {ys : List Ty1} (h : tysOf C t = some ys) : (∃ es k p, t = .Tuple es k p ∧ es.mapM (tyOf C) = some ys) ∨ ∃ y, ys = [y] ∧ tyOf C t = some y := by
  have gen : (tyOf C t).map (fun t => [t]) = some ys → ∃ y, ys = [y] ∧ tyOf C t = some y := fun h => by
    cases g : tyOf C t with
    | none => rw [g] at h; cases h
    | some y => rw [g] at h; cases h; exact ⟨y, rfl, rfl⟩
  cases t <;> first | exact .inl ⟨_, _, _, rfl, h⟩ | exact .inr (gen h)
theorem oe_isi (hX : XOk G C X) (hG : GOk G) {x : Str} {a t : Expr} {z : RP.E} {ys : List Ty1} {p pos : Pos} (hb : C.blt x = true) (hx : x = "isinstance") (hs : noStar a = true) (ht : tysOf C t = some ys) (hl : ys.length ≤ 1000) (h1 : OE X G D E K a z) : OE X G D E K (.Call (.Name x p) [a, t] [] pos) (.isi z ys) := oe_of fun m => by
  subst hx
  obtain ⟨hg, hm⟩ := blt_is hX hG hb (by decide)
  have one : ∀ {t : Expr} {y : Ty1}, tyOf C t = some y → PE X (.Call (.Name "isinstance" p) [a, t] [] pos) (tE G D E (evE G.p K (m + 1) (.isi z [y]))) := fun {t y} ht => by
    obtain ⟨p1, p2⟩ := ty_pe hX hG ht
    have pa : PA X [a, t] (tCons (tE G D E (evE G.p K m z)) (tCons (tC (tyVal G y)) tNil)) := pa_cons (h1 m) (pa_cons p1 pa_nil (star_ne p2)) (star_ne hs)
    refine PE.imp (pe_callB call_isi hg hm PyProof.Rows.boot_isinstance pa (by decide) (by decide) (star_ne hs) (stars_no (es := [t]) (by simp [p2])).1) ?_
    rintro σ H Q ⟨r, h, env, rel, er, P⟩
    have P : PostG G (RVal G) E r h H Q ((evE G.p K m z env h).bind fun x h => if isiOk G.p h x then .ok (.bl ([y].any fun t => match isiW G.p h x t with
        | some b => b
        | none => false)) h else .no) := P
    refine ⟨r, h, env, rel, er, P.bind.imp fun v H1 ⟨r1, h1, w, rel1, s1, q1, P1⟩ => ?_⟩
    obtain ⟨k, P1⟩ := isi_post P1
    obtain ⟨tv, tw⟩ := isi_ty (G := G) h1 w k
    obtain ⟨b, b1, b2⟩ := isi_one hG tw y (ty_len hX hG ht)
    refine ⟨v, tyVal G y, tv, tyU G y, b, rfl, ty_cls y, by rw [hX.K]; exact tyW_x hG rel1 q1 tw, by rw [hX.K]; exact b2, ?_⟩
    rw [List.any_cons, List.any_nil, b1, Bool.or_false] at P1
    exact post_val rel1 P1 rfl
  rcases tys_cases ht with ⟨es, k2, pos2, rfl, ht'⟩ | ⟨y, rfl, ht'⟩
  · skip
    have pa : PA X [a, .Tuple es k2 pos2] (tCons (tE G D E (evE G.p K m z)) (tCons (tTup fun _ H Q => Q (ys.map (tyVal G)) H) tNil)) := pa_cons (h1 m) (pa_cons (pe_tup (tys_pa hX hG ht')) pa_nil (star_ne rfl)) (star_ne hs)
    refine PE.imp (pe_callB call_isiT hg hm PyProof.Rows.boot_isinstance pa (by decide) (by decide) (star_ne hs) (stars_no (es := [.Tuple es k2 pos2]) rfl).1) ?_
    rintro σ H Q ⟨r, h, env, rel, er, P⟩
    have P : PostG G (RVal G) E r h H Q ((evE G.p K m z env h).bind fun x h => if isiOk G.p h x then .ok (.bl (ys.any fun t => match isiW G.p h x t with
        | some b => b
        | none => false)) h else .no) := P
    refine ⟨r, h, env, rel, er, P.bind.imp fun v H1 ⟨r1, h1, w, rel1, s1, q1, P1⟩ => ?_⟩
    obtain ⟨k, P1⟩ := isi_post P1
    obtain ⟨tv, tw⟩ := isi_ty (G := G) h1 w k
    refine ⟨by rw [List.length_map, szl]; omega, fun tp hp => ?_⟩
    have rel2 := rel1.ext (x := .tup (ys.map (tyVal G))) hp
    have st2 := Step.ext rel1 (x := .tup (ys.map (tyVal G))) hp
    refine ⟨v, tp, ys.map (tyVal G), tv, ys.map (tyU G), _, rfl, upd_same, tys_cls ys, by rw [hX.K]; exact tyW_x hG rel2 q1 tw, by rw [hX.K]; exact isi_any hG tw ys (tys_len hX hG ht'), ?_⟩
    exact P1 _ _ r1 rel2 st2 rfl
  · exact one ht'
end
end RP

set_option Elab.async false
set_option linter.all false
set_option maxRecDepth 100000
set_option maxHeartbeats 4000000
/-! RP17: walks. -/
namespace RP
open PySem PySem.Spec PyProof.Rows L2

/-- the machine's walk and the layer's go along -/
structure ItR (G : Gd) (r : List Addr) (iv : ItV) (J : It) : Prop where
  stop : ∀ r' h H i, Le r r' → Rel G r' h H → nxt iv i h = .stop → J.stop i H
  go : ∀ r' h H i w h', Le r r' → Rel G r' h H → nxt iv i h = .item w h' → J.go i H
  yld : ∀ r' h H i w h' x H', Le r r' → Rel G r' h H → nxt iv i h = .item w h' → J.yld i H x H' → ∃ r'', Rel G r'' h' H' ∧ Step G r' h H r'' h' H' ∧ VW G r'' x w
theorem ItR.mono {G : Gd} {r r2 : List Addr} {iv : ItV} {J : It} (l : Le r r2) (t : ItR G r iv J) : ItR G r2 iv J :=
  ⟨fun r' h H i k => t.stop r' h H i (l.trans k), fun r' h H i w h' k => t.go r' h H i w h' (l.trans k), fun r' h H i w h' x H' k => t.yld r' h H i w h' x H' (l.trans k)⟩
section
variable {G : Gd} {r : List Addr} {h : Hv} {H : Hp}
theorem vw_inj {v v' : V} {w : W} (a : VW G r v w) (b : VW G r v' w) : v = v' := by
  cases w with
  | ref n =>
    obtain ⟨p, e, rfl⟩ := a
    obtain ⟨q, e', rfl⟩ := b
    rw [e] at e'; cases e'; rfl
  | pend _ => exact a.elim
  | zipv _ => exact a.elim
  | _ => exact (show v = _ from a).trans (show v' = _ from b).symm
/-- a sequence of a kind, at its address -/
theorem seqK_at (rel : Rel G r h H) {w : W} {k : Bool} {ws : List W} {a : Addr} (q : VW G r (.ref a) w) (e : seqK h w k = some ws) : ∃ vs, (if k = true then SqL G.K H a vs else SqT G.K H a vs) ∧ VWs G r vs ws := by
  unfold seqK at e
  split at e
  · rename_i kk
    obtain ⟨a', vs, e1, _, e2, l1, l2⟩ := seq_at rel q e
    cases e1
    cases k with
    | true => exact ⟨vs, by rw [if_pos rfl]; exact l1 kk, e2⟩
    | false => exact ⟨vs, by rw [if_neg (by decide)]; exact l2 kk, e2⟩
  · cases e
theorem nxt_seq {w : W} {k : Bool} {i : Nat} {h : Hv} : (nxt (.seq w k) i h = .stop → ∃ ws, seqK h w k = some ws ∧ ws[i]? = none) ∧ (∀ x h', nxt (.seq w k) i h = .item x h' → h' = h ∧ ∃ ws, seqK h w k = some ws ∧ ws[i]? = some x) := by
  have e : nxt (.seq w k) i h = (match seqK h w k with
    | some xs => (match xs[i]? with
      | some x => .item x h
      | none => .stop)
    | none => .bad) := rfl
  cases g : seqK h w k with
  | none => rw [g] at e; exact ⟨fun z => (by rw [e] at z; cases z), fun x h' z => by rw [e] at z; cases z⟩
  | some ws =>
    rw [g] at e
    cases g2 : ws[i]? with
    | none => simp only [g2] at e; exact ⟨fun _ => ⟨ws, rfl, g2⟩, fun x h' z => by rw [e] at z; cases z⟩
    | some y => simp only [g2] at e; exact ⟨fun z => (by rw [e] at z; cases z), fun x h' z => by rw [e] at z; cases z; exact ⟨rfl, ws, rfl, g2⟩⟩
theorem itr_list {a : Addr} {w : W} (q : VW G r (.ref a) w) : ItR G r (.seq w true) (Itl G.K a) where
  stop := fun r' h H i l rel e => by
    obtain ⟨ws, e1, e2⟩ := nxt_seq.1 e
    obtain ⟨vs, s, p⟩ := seqK_at rel (q.mono l) e1
    exact ⟨vs, s, List.getElem?_eq_none_iff.mp (pair_none p e2)⟩
  go := fun r' h H i x h' l rel e => by
    obtain ⟨_, ws, e1, e2⟩ := nxt_seq.2 x h' e
    obtain ⟨vs, s, p⟩ := seqK_at rel (q.mono l) e1
    obtain ⟨v, p1, _⟩ := pair_get p e2
    exact ⟨vs, v, s, p1⟩
  yld := fun r' h H i x h' v H' l rel e y => by
    obtain ⟨rfl, ws, e1, e2⟩ := nxt_seq.2 x h' e
    obtain ⟨vs, s, p⟩ := seqK_at rel (q.mono l) e1
    obtain ⟨v', p1, p2⟩ := pair_get p e2
    obtain ⟨rfl, y⟩ := y
    have z := y vs s
    rw [p1] at z; cases z
    exact ⟨r', rel, .refl .., p2⟩
theorem itr_tup {a : Addr} {w : W} (q : VW G r (.ref a) w) : ItR G r (.seq w false) (Itt G.K a) where
  stop := fun r' h H i l rel e => by
    obtain ⟨ws, e1, e2⟩ := nxt_seq.1 e
    obtain ⟨vs, s, p⟩ := seqK_at rel (q.mono l) e1
    exact ⟨vs, s, List.getElem?_eq_none_iff.mp (pair_none p e2)⟩
  go := fun r' h H i x h' l rel e => by
    obtain ⟨_, ws, e1, e2⟩ := nxt_seq.2 x h' e
    obtain ⟨vs, s, p⟩ := seqK_at rel (q.mono l) e1
    obtain ⟨v, p1, _⟩ := pair_get p e2
    exact ⟨vs, v, s, p1⟩
  yld := fun r' h H i x h' v H' l rel e y => by
    obtain ⟨rfl, ws, e1, e2⟩ := nxt_seq.2 x h' e
    obtain ⟨vs, s, p⟩ := seqK_at rel (q.mono l) e1
    obtain ⟨v', p1, p2⟩ := pair_get p e2
    obtain ⟨rfl, y⟩ := y
    have z := y vs s
    rw [p1] at z; cases z
    exact ⟨r', rel, .refl .., p2⟩
theorem itr_rng {lo : Int} {n : Nat} : ItR G r (.rng lo n) (Itr lo n) where
  stop := fun r' h H i l rel e => by
    have e : (if i < n then Nx.item (.int (lo + i)) h else .stop) = .stop := e
    split at e
    · cases e
    · rename_i k; exact Nat.le_of_not_lt k
  go := fun r' h H i x h' l rel e => by
    have e : (if i < n then Nx.item (.int (lo + i)) h else .stop) = .item x h' := e
    split at e
    · rename_i k; exact k
    · cases e
  yld := fun r' h H i x h' v H' l rel e y => by
    have e : (if i < n then Nx.item (.int (lo + i)) h else .stop) = .item x h' := e
    split at e
    · cases e
      obtain ⟨rfl, rfl⟩ := y
      exact ⟨r', rel, .refl .., rfl⟩
    · cases e
theorem itr_str {s : Str} : ItR G r (.sg s) (Its s) where
  stop := fun r' h H i l rel e => by
    have e : (match s.cps[i]? with | some c => Nx.item (.str ⟨#[c]⟩) h | none => .stop) = .stop := e
    cases g : s.cps[i]? with
    | none => exact Array.getElem?_eq_none_iff.mp g
    | some c => rw [g] at e; cases e
  go := fun r' h H i x h' l rel e => by
    have e : (match s.cps[i]? with | some c => Nx.item (.str ⟨#[c]⟩) h | none => .stop) = .item x h' := e
    cases g : s.cps[i]? with
    | none => rw [g] at e; cases e
    | some c => exact (Array.getElem?_eq_some_iff.mp g).1
  yld := fun r' h H i x h' v H' l rel e y => by
    have e : (match s.cps[i]? with | some c => Nx.item (.str ⟨#[c]⟩) h | none => .stop) = .item x h' := e
    cases g : s.cps[i]? with
    | none => rw [g] at e; cases e
    | some c =>
      rw [g] at e
      cases e
      obtain ⟨rfl, c', e1, rfl⟩ := y
      rw [g] at e1; cases e1
      exact ⟨r', rel, .refl .., rfl⟩
/-- a walk that makes a tuple of each turn -/
theorem made_tup (rel : Rel G r h H) {vs : List V} {ws : List W} {T : Addr} (hT : H T = none) (q : VWs G r vs ws) : ∃ r'', Rel G r'' (h.push (.tup ws)) (upd H T (.tup vs)) ∧ Step G r h H r'' (h.push (.tup ws)) (upd H T (.tup vs)) ∧ VW G r'' (.ref T) (.ref h.n) :=
  ⟨r ++ [T], rel.push hT rfl ⟨vs, SqT.of upd_same, q.mono (Le.push r T)⟩, Step.push rel hT, T, get_new rel T, rfl⟩
theorem nxt_enm {w : W} {k : Bool} {i : Nat} {h : Hv} : (nxt (.enm w k) i h = .stop → ∃ ws, seqK h w k = some ws ∧ ws[i]? = none) ∧ (∀ x h', nxt (.enm w k) i h = .item x h' → ∃ ws y, seqK h w k = some ws ∧ ws[i]? = some y ∧ x = .ref h.n ∧ h' = h.push (.tup [.int i, y])) := by
  have e : nxt (.enm w k) i h = (match seqK h w k with
    | some xs => (match xs[i]? with
      | some x => .item (.ref h.n) (h.push (.tup [.int i, x]))
      | none => .stop)
    | none => .bad) := rfl
  cases g : seqK h w k with
  | none => rw [g] at e; exact ⟨fun z => (by rw [e] at z; cases z), fun x h' z => by rw [e] at z; cases z⟩
  | some ws =>
    rw [g] at e
    cases g2 : ws[i]? with
    | none => simp only [g2] at e; exact ⟨fun _ => ⟨ws, rfl, g2⟩, fun x h' z => by rw [e] at z; cases z⟩
    | some y => simp only [g2] at e; exact ⟨fun z => (by rw [e] at z; cases z), fun x h' z => by rw [e] at z; cases z; exact ⟨ws, y, rfl, g2, rfl, rfl⟩⟩
theorem itr_enm {a : Addr} {w : W} (q : VW G r (.ref a) w) : ItR G r (.enm w true) (Ite G.K a) where
  stop := fun r' h H i l rel e => by
    obtain ⟨ws, e1, e2⟩ := nxt_enm.1 e
    obtain ⟨vs, s, p⟩ := seqK_at rel (q.mono l) e1
    exact ⟨vs, s, List.getElem?_eq_none_iff.mp (pair_none p e2)⟩
  go := fun r' h H i x h' l rel e => by
    obtain ⟨ws, y, e1, e2, _, _⟩ := nxt_enm.2 x h' e
    obtain ⟨vs, s, p⟩ := seqK_at rel (q.mono l) e1
    obtain ⟨v, p1, _⟩ := pair_get p e2
    exact ⟨vs, v, s, p1⟩
  yld := fun r' h H i x h' v H' l rel e y => by
    obtain ⟨ws, y0, e1, e2, rfl, rfl⟩ := nxt_enm.2 x h' e
    obtain ⟨vs, s, p⟩ := seqK_at rel (q.mono l) e1
    obtain ⟨v', p1, p2⟩ := pair_get p e2
    obtain ⟨T, x0, rfl, hT, rfl, y⟩ := y
    have z := y vs s
    rw [p1] at z; cases z
    exact made_tup rel hT (.cons rfl (.cons p2 .nil))
end
end RP

set_option Elab.async false
set_option linter.all false
set_option maxRecDepth 100000
set_option maxHeartbeats 4000000
/-! RP18: targets. -/
namespace RP
open PySem PySem.Spec PyProof.Rows L2

/-- but for the slots vs nothing is changed -/
structure Agree (vs : List Nat) (σ σ' : L2.St) : Prop where
  len : σ'.length = σ.length
  out : ∀ i, i ∉ vs → σ'[i]? = σ[i]?
theorem Agree.refl {vs : List Nat} {σ : L2.St} : Agree vs σ σ := ⟨rfl, fun _ _ => rfl⟩
theorem Agree.trans {vs us : List Nat} {σ σ1 σ2 : L2.St} (a : Agree vs σ σ1) (b : Agree us σ1 σ2) : Agree (vs ++ us) σ σ2 :=
  ⟨b.len.trans a.len, fun i h => by
    rw [List.mem_append, not_or] at h
    exact (b.out i h.2).trans (a.out i h.1)⟩
theorem wipe_in {σ : L2.St} {i : Nat} : ∀ {vs : List Nat}, i ∈ vs → i < σ.length → (wipe σ vs)[i]? = some none
  | v :: vs, h, hl => by
    show ((wipe σ vs).set v none)[i]? = some none
    rw [List.getElem?_set]
    by_cases e : v = i
    · rw [if_pos e, if_pos (by rw [wipe_length, e]; exact hl)]
    · rw [if_neg e]
      exact wipe_in ((List.mem_cons.mp h).resolve_left (Ne.symm e)) hl
theorem Agree.wipe {vs us : List Nat} {σ σ' : L2.St} (a : Agree vs σ σ') (h : ∀ i ∈ vs, i ∈ us) : L2.wipe σ' us = L2.wipe σ us := by
  apply List.ext_getElem?
  intro i
  by_cases c : i ∈ us
  · by_cases l : i < σ.length
    · rw [wipe_in c l, wipe_in c (by rw [a.len]; exact l)]
    · rw [List.getElem?_eq_none (by rw [wipe_length, a.len]; omega), List.getElem?_eq_none (by rw [wipe_length]; omega)]
  · rw [wipe_out c, wipe_out c]
    exact a.out i fun h2 => c (h i h2)
/-- a target's reading -/
def tGA (vs : List Nat) (G : Gd) (D : DK) (E : XK) (ev : W → Env → Hv → Res Env) : TG := fun v σ H Q => ∃ r h env w, Rel G r h H ∧ EnvR G D r H σ env ∧ VX G D r H v w ∧ PostG G (fun r H σ' env' => EnvR G D r H σ' env' ∧ Agree vs σ σ') E r h H Q (ev w env h)
def tGAs (vs : List Nat) (G : Gd) (D : DK) (E : XK) (ev : List W → Env → Hv → Res Env) : TGs := fun us σ H Q => ∃ r h env ws, Rel G r h H ∧ EnvR G D r H σ env ∧ VWs G r us ws ∧ PostG G (fun r H σ' env' => EnvR G D r H σ' env' ∧ Agree vs σ σ') E r h H Q (ev ws env h)
section
variable {X : Cx} {G : Gd} {C : Cc} {D : DK} {E : XK} {K : Orc}
def OG (X : Cx) (G : Gd) (D : DK) (E : XK) (K : Orc) (e : Expr) (t : T) : Prop := ∀ m, PG X e (tGA (tsl t) G D E fun w env h => asgT G.p K m t w env h)
def OGs (X : Cx) (G : Gd) (D : DK) (E : XK) (K : Orc) (es : List Expr) (ts : List T) : Prop := ∀ m, PGs X es (tGAs (tsls ts) G D E fun ws env h => asgTs G.p K m ts ws env h)
theorem PG.imp {e : Expr} {t t' : TG} (h : PG X e t) (f : ∀ v σ H Q, t' v σ H Q → t v σ H Q) : PG X e t' := ⟨fun pins s σ H v u Q I r w => h.run pins s σ H v u Q I r (f v σ H Q w)⟩
theorem PGs.imp {es : List Expr} {t t' : TGs} (h : PGs X es t) (f : ∀ v σ H Q, t' v σ H Q → t v σ H Q) : PGs X es t' := ⟨fun pins s σ H v u Q I r w => h.run pins s σ H v u Q I r (f v σ H Q w)⟩
theorem pg_no {e : Expr} : PG X e (fun _ _ _ _ => False) := ⟨fun _ _ _ _ _ _ _ _ _ z => z.elim⟩
theorem pgs_no {es : List Expr} : PGs X es (fun _ _ _ _ => False) := ⟨fun _ _ _ _ _ _ _ _ _ z => z.elim⟩
theorem og_of {e : Expr} {t : T} (k : ∀ m, PG X e (tGA (tsl t) G D E fun w env h => asgT G.p K (m + 1) t w env h)) : OG X G D E K e t
  | 0 => PG.imp pg_no fun v σ H Q ⟨r, h, env, w, rel, er, q, P⟩ => P
  | m + 1 => k m
theorem ogs_of {es : List Expr} {ts : List T} (k : ∀ m, PGs X es (tGAs (tsls ts) G D E fun w env h => asgTs G.p K (m + 1) ts w env h)) : OGs X G D E K es ts
  | 0 => PGs.imp pgs_no fun v σ H Q ⟨r, h, env, w, rel, er, q, P⟩ => P
  | m + 1 => k m
theorem set_env {w : W} : ∀ {env : Env} {i : Nat}, (setEnv env i (some w)).length = env.length ∧ ∀ j, (setEnv env i (some w))[j]? = if j = i ∧ i < env.length then some (some w) else env[j]?
  | [], i => ⟨rfl, fun j => by show ([] : Env)[j]? = _; simp⟩
  | x :: env, 0 => ⟨rfl, fun j => by
      cases j with
      | zero => simp [setEnv]
      | succ j => simp [setEnv]⟩
  | x :: env, i + 1 => by
    obtain ⟨h1, h2⟩ := set_env (w := w) (env := env) (i := i)
    refine ⟨by show (setEnv env i (some w)).length + 1 = env.length + 1; rw [h1], fun j => ?_⟩
    cases j with
    | zero => simp [setEnv]
    | succ j =>
      show (x :: setEnv env i (some w))[j + 1]? = _
      rw [List.getElem?_cons_succ, h2 j]
      simp
theorem EnvR.set {r : List Addr} {H : Hp} {σ : L2.St} {env : Env} {i : Nat} {v : V} {w : W} (er : EnvR G D r H σ env) (q : VX G D r H v w) (hi : i < env.length) : EnvR G D r H (σ.set i (some v)) (setEnv env i (some w)) where
  len := by rw [List.length_set, set_env.1]; exact er.len
  val := fun j u e => by
    rw [set_env.2 j] at e
    by_cases c : j = i
    · rw [if_pos ⟨c, hi⟩] at e
      cases e
      refine ⟨v, ?_, q⟩
      rw [c, List.getElem?_set_self (by rw [er.len]; exact hi)]
    · rw [if_neg fun z => c z.1] at e
      obtain ⟨v', e1, e2⟩ := er.val j u e
      exact ⟨v', by rw [List.getElem?_set_ne (Ne.symm c)]; exact e1, e2⟩
theorem tslot_is {x : Str} {i : Nat} (e : C.tslot x = some i) : C.N[i]? = some x ∧ C.asg x = true ∧ isLoc (C.sc.names.lookup x) = true := by
  unfold Cc.tslot at e
  split at e
  · rename_i c
    obtain ⟨c1, c2⟩ := Bool.and_eq_true_iff.mp c
    exact ⟨ix_at e, c1, c2⟩
  · cases e
theorem loc_of {sc : Scope} {x : Str} (h : isLoc (sc.names.lookup x) = true) : Loc sc x := by
  cases e : sc.names.lookup x with
  | none => rw [e] at h; cases h
  | some k => rw [e] at h; cases k <;> first | exact .inl e | exact .inr e | cases h
theorem og_nm (hX : XOk G C X) {x : Str} {i : Nat} {pos : Pos} (e : C.tslot x = some i) : OG X G D E K (.Name x pos) (.nm i) := og_of fun m => by
  obtain ⟨h1, h2, h3⟩ := tslot_is e
  refine PG.imp (pg_name (i := i) (by rw [hX.N]; exact hX.nd) (by rw [hX.N]; exact h1) (by rw [hX.sc]; exact loc_of h3) (by rw [hX.sc]; exact hX.fn x h2 h3)) ?_
  rintro v σ H Q ⟨r, h, env, w, rel, er, q, P⟩
  have P : PostG G (fun r H σ' env' => EnvR G D r H σ' env' ∧ Agree (tsl (.nm i)) σ σ') E r h H Q (if i < env.length then .ok (setEnv env i (some w)) h else .no) := P
  split at P
  · rename_i hi
    refine PostG.ok P rel ⟨er.set q hi, by rw [List.length_set], fun j hj => ?_⟩
    rw [List.getElem?_set_ne]
    intro z
    exact hj (by show j ∈ [i]; rw [z]; exact List.mem_singleton.mpr rfl)
  · exact P.elim
theorem ogs_nil : OGs X G D E K [] [] := ogs_of fun m => PGs.imp pgs_nil fun us σ H Q ⟨r, h, env, ws, rel, er, q, P⟩ => by
  cases q with
  | nil => exact ⟨rfl, PostG.ok P rel ⟨er, .refl⟩⟩
  | cons a t => exact (show False from P).elim
theorem asg_ne {e : Expr} {es : List Expr} {env : PySem.Env} (h : noStar e = true) : assignEach (e :: es) env = (false, assign e env) :: assignEach es env := by
  cases e <;> first | rfl | cases h
theorem ogs_cons (hD : DOk D) {e : Expr} {es : List Expr} {t : T} {ts : List T} (hs : noStar e = true) (h1 : OG X G D E K e t) (h2 : OGs X G D E K es ts) : OGs X G D E K (e :: es) (t :: ts) := ogs_of fun m => by
  refine PGs.imp (pgs_cons (h1 m) (h2 m) (by rw [asg_ne hs]; rfl)) ?_
  rintro us σ H Q ⟨r, h, env, ws, rel, er, q, P⟩
  cases q with
  | nil => exact (show False from P).elim
  | @cons v w us ws a tl =>
    have P : PostG G (fun r H σ' env' => EnvR G D r H σ' env' ∧ Agree (tsls (t :: ts)) σ σ') E r h H Q ((asgT G.p K m t w env h).bind fun env h => asgTs G.p K m ts ws env h) := P
    refine ⟨v, us, rfl, r, h, env, w, rel, er, .of a, P.bind.imp fun σ1 H1 ⟨r1, h1, env1, rel1, s1, ⟨er1, ag1⟩, P1⟩ => ?_⟩
    refine ⟨r1, h1, env1, ws, rel1, er1, VWs.mono s1.le tl, ?_⟩
    exact PostG.map (fun r H σ2 env2 k => ⟨k.1, ag1.trans k.2⟩) P1
theorem asg_plain {env : PySem.Env} : ∀ {es : List Expr}, es.all noStar = true → (assignEach es env).length = es.length ∧ (assignEach es env).findIdx? (·.1) = none
  | [], _ => ⟨rfl, rfl⟩
  | e :: es, h => by
    rw [List.all_cons, Bool.and_eq_true] at h
    rw [asg_ne h.1]
    obtain ⟨h1, h2⟩ := asg_plain (env := env) h.2
    refine ⟨by rw [List.length_cons, List.length_cons, h1], ?_⟩
    rw [List.findIdx?_cons, h2]
    rfl
theorem og_tup (hX : XOk G C X) {es : List Expr} {ts : List T} {k : Nat} {pos : Pos} (hs : es.all noStar = true) (hl : es.length = ts.length) (h1 : OGs X G D E K es ts) : OG X G D E K (.Tuple es k pos) (.tup ts) := og_of fun m => by
  obtain ⟨a1, a2⟩ := asg_plain (env := X.env) hs
  refine PG.imp (pg_tup (n := es.length) hX.calm (h1 m) a1 a2) ?_
  rintro v σ H Q ⟨r, h, env, w, rel, er, q, P⟩
  replace P : PostG G (fun r H σ' env' => EnvR G D r H σ' env' ∧ Agree (tsls ts) σ σ') E r h H Q (match (generalizing := false) w with
      | .ref m' => (match h.get m' with
        | some (.tup xs) => if xs.length = ts.length then asgTs G.p K m ts xs env h else .no
        | _ => .no)
      | _ => .no) := P
  cases w with
  | ref n =>
    simp only at P
    cases g : h.get n with
    | none => rw [g] at P; exact P.elim
    | some o =>
      rw [g] at P
      cases o with
      | tup xs =>
        simp only at P
        obtain ⟨a, rfl, _, vs, s, q2⟩ := ref_obj rel (q.to rfl) g
        split at P
        · rename_i hh
          exact ⟨a, vs, rfl, by rw [hX.K]; exact s, by rw [pair_len q2, hh, hl], r, h, env, xs, rel, er, q2, P⟩
        · exact P.elim
      | _ => exact P.elim
  | _ => exact (show False from P).elim
/-! ### o[i] = .. -/
theorem kv_keys {r : List Addr} : ∀ {es : List (Key × V)} {ks : List (Key × W)}, KVW G r es ks → es.map (·.1) = ks.map (·.1)
  | _, _, .nil => rfl
  | _, _, .cons h t => by rw [List.map_cons, List.map_cons, kv_keys t, show _ = _ from h.1]
theorem put_in {r : List Addr} {k : Key} {v : V} {w : W} (q : VW G r v w) : ∀ {es : List (Key × V)} {ks : List (Key × W)}, KVW G r es ks → (ks.map (·.1)).Nodup → k ∈ ks.map (·.1) → KVW G r (es.map fun kv => if kv.1 = k then (kv.1, v) else kv) (putK ks k w) ∧ (putK ks k w).map (·.1) = ks.map (·.1)
  | [], [], .nil, _, h => nomatch h
  | (a1, a2) :: es, (b1, b2) :: ks, .cons ⟨h1, h2⟩ t, nd, hm => by
    have h1 : a1 = b1 := h1
    subst h1
    have nd' := List.nodup_cons.mp nd
    by_cases c : a1 = k
    · subst c
      have e : putK ((a1, b2) :: ks) a1 w = (a1, w) :: ks := if_pos rfl
      have same : (es.map fun kv => if kv.1 = a1 then (kv.1, v) else kv) = es := by
        have hk : ∀ p ∈ es, (if p.1 = a1 then (p.1, v) else p) = id p := fun p hp => by
          have ne : ¬ p.1 = a1 := fun z => nd'.1 (by
            show a1 ∈ ks.map (·.1)
            rw [← kv_keys t, ← z]
            exact List.mem_map_of_mem hp)
          rw [if_neg ne]; rfl
        exact (List.map_congr_left hk).trans (List.map_id es)
      rw [e, List.map_cons, same]
      refine ⟨.cons ⟨?_, ?_⟩ t, rfl⟩
      · show (if a1 = a1 then (a1, v) else (a1, a2)).1 = a1
        rw [if_pos rfl]
      · show VW G r (if a1 = a1 then (a1, v) else (a1, a2)).2 w
        rw [if_pos rfl]; exact q
    · have e : putK ((a1, b2) :: ks) k w = (a1, b2) :: putK ks k w := if_neg c
      obtain ⟨j1, j2⟩ := put_in q t nd'.2 ((List.mem_cons.mp hm).resolve_left (Ne.symm c))
      rw [e, List.map_cons]
      refine ⟨.cons ⟨?_, ?_⟩ j1, by rw [List.map_cons, j2]; rfl⟩
      · show (if a1 = k then (a1, v) else (a1, a2)).1 = a1
        rw [if_neg c]
      · show VW G r (if a1 = k then (a1, v) else (a1, a2)).2 b2
        rw [if_neg c]; exact h2
theorem put_out {r : List Addr} {k : Key} {v : V} {w : W} (q : VW G r v w) : ∀ {es : List (Key × V)} {ks : List (Key × W)}, KVW G r es ks → k ∉ ks.map (·.1) → KVW G r (es ++ [(k, v)]) (putK ks k w) ∧ (putK ks k w).map (·.1) = ks.map (·.1) ++ [k]
  | [], [], .nil, _ => ⟨.cons ⟨rfl, q⟩ .nil, rfl⟩
  | (a1, a2) :: es, (b1, b2) :: ks, .cons ⟨h1, h2⟩ t, hn => by
    have c : ¬ b1 = k := fun z => hn (by rw [← z]; exact List.mem_cons_self ..)
    have e : putK ((b1, b2) :: ks) k w = (b1, b2) :: putK ks k w := if_neg c
    obtain ⟨j1, j2⟩ := put_out q t fun z => hn (List.mem_cons_of_mem _ z)
    rw [e]
    exact ⟨.cons ⟨h1, h2⟩ j1, by rw [List.map_cons, j2]; rfl⟩
theorem put_key {r : List Addr} {k : Key} {v : V} {w : W} {es : List (Key × V)} {ks : List (Key × W)} (q : VW G r v w) (p : KVW G r es ks) (nd : (ks.map (·.1)).Nodup) : KVW G r (L2.putK es k v) (putK ks k w) ∧ ((putK ks k w).map (·.1)).Nodup := by
  have ea : (es.any fun kv => decide (kv.1 = k)) = true ↔ k ∈ ks.map (·.1) := by
    rw [← kv_keys p, List.any_eq_true]
    constructor
    · rintro ⟨x, hx, e⟩
      rw [← of_decide_eq_true e]
      exact List.mem_map_of_mem hx
    · intro hm
      obtain ⟨x, hx, e⟩ := List.mem_map.mp hm
      exact ⟨x, hx, decide_eq_true e⟩
  unfold L2.putK
  by_cases c : (es.any fun kv => decide (kv.1 = k)) = true
  · rw [if_pos c]
    obtain ⟨j1, j2⟩ := put_in q p nd (ea.mp c)
    exact ⟨j1, by rw [j2]; exact nd⟩
  · rw [if_neg c]
    have c' : k ∉ ks.map (·.1) := fun z => c (ea.mpr z)
    obtain ⟨j1, j2⟩ := put_out q p c'
    refine ⟨j1, ?_⟩
    rw [j2]
    exact List.nodup_append.mpr ⟨nd, by simp, fun a ha b hb z => c' (by rw [← List.mem_singleton.mp hb, ← z]; exact ha)⟩
/-- what a store into an item does -/
theorem set_V (hX : XOk G C X) {vs : List Nat} {r : List Addr} {h : Hv} {H : Hp} {σ : L2.St} {env : Env} {Q : L2.St → Hp → Prop} {ov iv v : V} {o i w : W} (hD : DOk D) (rel : Rel G r h H) (er : EnvR G D r H σ env) (qo : VW G r ov o) (qi : VW G r iv i) (q : VW G r v w)
    (P : PostG G (fun r H σ' env' => EnvR G D r H σ' env' ∧ Agree vs σ σ') E r h H Q (match setIdxW h o i w with
      | some h => .ok env h
      | none => .no)) : (rSetL ov iv v H fun H' => Q σ H') ∨ rSetD ov iv v H fun H' => Q σ H' := by
  cases e : setIdxW h o i w with
  | none => rw [e] at P; exact P.elim
  | some h2 =>
    rw [e] at P
    unfold setIdxW at e
    cases g : lstOf h o with
    | some p =>
      obtain ⟨n, xs⟩ := p
      rw [g] at e
      obtain ⟨a, us, rfl, hg, ea, rfl, hA, k⟩ := lst_at rel qo g
      simp only at e
      cases i with
      | int j =>
        simp only [intOf] at e
        cases g2 : ixP xs.length j with
        | none => rw [g2] at e; cases e
        | some p =>
          rw [g2] at e
          cases e
          have st := Step.set rel (y := .lst (us.set p v)) (o' := .lst (xs.set p w)) hg ea rfl
          refine .inl ⟨a, us, j, p, rfl, qi, hA, by rw [← ixP_eq, pair_len k]; exact g2, ?_⟩
          exact P σ _ r (rel.set hg ea rfl hA rfl rfl ⟨_, upd_same, pair_set q p k⟩) st ⟨er.step hD rel st, .refl⟩
      | _ => cases e
    | none =>
      rw [g] at e
      simp only at e
      cases o with
      | ref n =>
        simp only at e
        cases g2 : dctOf h (.ref n) with
        | none => rw [g2] at e; cases e
        | some kvs =>
          rw [g2] at e
          simp only at e
          cases gk : keyOf i with
          | none => rw [gk] at e; cases e
          | some kk =>
            rw [gk] at e
            simp only at e
            split at e
            · rename_i z
              cases e
              obtain ⟨n', a, es, e1, hg, ea, rfl, hA, kA, nd⟩ := dct_at rel qo g2
              cases e1
              obtain ⟨p1, p2⟩ := put_key (k := kk) q kA nd
              have st := Step.set rel (y := .dK (L2.putK es kk v)) (o' := .dct (putK kvs kk w)) hg ea rfl
              refine .inr ⟨a, _, rfl, .inl ⟨es, kk, hA, key_of qi gk, by rw [szl, pair_len kA]; exact z, rfl⟩, ?_⟩
              exact P σ _ r (rel.set hg ea rfl hA rfl rfl ⟨_, upd_same, p1, p2⟩) st ⟨er.step hD rel st, .refl⟩
            · cases e
      | _ => cases e
theorem pset_or {R R' : TSet} (a : PSet X R) (b : PSet X R') : PSet X (fun o i v H Q => R o i v H Q ∨ R' o i v H Q) := fun pins s σ H o i v ov iv u Q I ro ri rv h => h.elim (a pins s σ H o i v ov iv u Q I ro ri rv) (b pins s σ H o i v ov iv u Q I ro ri rv)
def notSlice : Expr → Bool
  | .Slice .. => false
  | _ => true
theorem og_idx (hX : XOk G C X) (hD : DOk D) {o i : Expr} {x y : RP.E} {pos : Pos} (hs : notSlice i = true) (h1 : OE X G D E K o x) (h2 : OE X G D E K i y) : OG X G D E K (.Subscript o i pos) (.idx x y) := og_of fun m => by
  have hu := hX.units
  refine PG.imp (pg_sub (h1 m) (h2 m) (pset_or set_list (set_dict (by omega))) (fun v => by cases i <;> first | rfl | cases hs)) ?_
  rintro v σ H Q ⟨r, h, env, w, rel, er, q, P⟩
  replace P : PostG G (fun r H σ' env' => EnvR G D r H σ' env' ∧ Agree (tsl (.idx x y)) σ σ') E r h H Q ((evE G.p K m x env h).bind fun a h => (evE G.p K m y env h).bind fun b h => if clean w then (match setIdxW h a b w with
      | some h => .ok env h
      | none => .no) else .no) := P
  refine ⟨r, h, env, rel, er, P.bind.imp fun ov H1 ⟨r1, h1, a, rel1, s1, q1, P1⟩ => ?_⟩
  refine ⟨r1, h1, env, rel1, er.step hD rel s1, P1.bind.imp fun iv H2 ⟨r2, h2, b, rel2, s2, q2, P2⟩ => ?_⟩
  split at P2
  · rename_i c
    exact set_V hX hD rel2 ((er.step hD rel s1).step hD rel1 s2) (q1.mono s2.le) q2 (((q.to c).mono s1.le).mono s2.le) P2
  · exact P2.elim
/-! ### o.f = .. -/
def gFld (K : PySem.W.Frag) (f : Str) (to : TE) : TG := fun v σ H Q => to σ H fun x H2 => ∃ a Cl dx fs, x = .ref a ∧ H2 a = some (.ins Cl dx fs) ∧ Cls K Cl ∧ NoAttr K Cl f ∧ fs.length < 1000 ∧ Q σ (upd H2 a (.ins Cl dx (putF f v fs)))
theorem pg_fld {o : Expr} {f : Str} {pos : Pos} {to : TE} (ho : PE X o to) : PG X (.Attribute o f pos) (gFld X.K f to) := by
  refine ⟨fun pins s σ H v u Q I r h => ?_⟩
  rw [arm_assign_Attribute]
  refine wpAny_bind (wpAny_holding (thn (ho.run pins s σ H _ I h) fun ov s2 ⟨x, H2, I2, rx, a, Cl, dx, fs, ex, ea, c, n, l, q2⟩ => ?_))
  subst ex
  obtain rfl : ov = Value.ref a := rx
  refine wpAny_bind (wpAny_standAt (wpAny_bind (wpAny_holding (setattr_ok I2 ea c n l r fun s3 I3 => ?_))))
  exact wpAny_release ⟨σ, _, I3, q2⟩
theorem putF_pair {r : List Addr} {f : Str} {v : V} {w : W} (q : VW G r v w) : ∀ {es : List (Str × V)} {fs : List (Str × W)}, FVW G r es fs → FVW G r (putF f v es) (putFd fs f w)
  | [], [], .nil => .cons ⟨rfl, q⟩ .nil
  | (a1, a2) :: es, (b1, b2) :: fs, .cons ⟨h1, h2⟩ t => by
    have h1 : a1 = b1 := h1
    subst h1
    unfold putF putFd
    by_cases c : a1 = f
    · rw [if_pos c, if_pos c]; exact .cons ⟨rfl, q⟩ t
    · rw [if_neg c, if_neg c]; exact .cons ⟨rfl, h2⟩ (putF_pair q t)
theorem og_fld (hX : XOk G C X) (hG : GOk G) (hD : DOk D) {o : Expr} {f : Str} {x : RP.E} {pos : Pos} (h1 : OE X G D E K o x) : OG X G D E K (.Attribute o f pos) (.fld x f) := og_of fun m => by
  refine PG.imp (pg_fld (h1 m)) ?_
  rintro v σ H Q ⟨r, h, env, w, rel, er, q, P⟩
  replace P : PostG G (fun r H σ' env' => EnvR G D r H σ' env' ∧ Agree (tsl (.fld x f)) σ σ') E r h H Q ((evE G.p K m x env h).bind fun x h => if clean w then (match x with
      | .ref m => (match h.get m with
        | some (.ins c fs) => if fs.length < 1000 ∧ fldOf G.p c f = true then .ok env (h.set m (.ins c (putFd fs f w))) else .no
        | _ => .no)
      | _ => .no) else .no) := P
  refine ⟨r, h, env, rel, er, P.bind.imp fun ov H1 ⟨r1, h1, a, rel1, s1, q1, P1⟩ => ?_⟩
  split at P1
  · rename_i c
    cases a with
    | ref n =>
      simp only at P1
      cases g : h1.get n with
      | none => rw [g] at P1; exact P1.elim
      | some ob =>
        rw [g] at P1
        cases ob with
        | ins c' fs =>
          simp only at P1
          obtain ⟨a, rfl, ea, dx, es, hA, kA⟩ := ref_obj rel1 q1 g
          split at P1
          · rename_i k
            have hi : insCl G.p c' = true := by
              have k2 := k.2
              unfold fldOf at k2
              exact (Bool.and_eq_true_iff.mp k2).1
            have st := Step.set rel1 (y := .ins (G.C c') dx (putF f v es)) (o' := .ins c' (putFd fs f w)) g ea rfl
            refine ⟨a, G.C c', dx, es, rfl, hA, by rw [hX.K]; exact hG.cl c' hi, by rw [hX.K]; exact hG.fld c' f k.2, by rw [pair_len kA]; exact k.1, ?_⟩
            exact P1 σ _ r1 (rel1.set g ea rfl hA rfl rfl ⟨dx, _, upd_same, putF_pair ((q.to c).mono s1.le) kA⟩) st ⟨(er.step hD rel s1).step hD rel1 st, .refl⟩
          · exact P1.elim
        | _ => exact P1.elim
    | _ => exact (show False from P1).elim
  · exact P1.elim
end
end RP

set_option Elab.async false
set_option linter.all false
set_option maxRecDepth 100000
set_option maxHeartbeats 4000000
/-! RP19: list comprehensions. -/
namespace RP
open PySem PySem.Spec PyProof.Rows L2

abbrev E0 : XK := fun _ _ _ => False
abbrev D0 : DK := fun _ _ _ => False
theorem d0_ok : DOk D0 := fun _ _ _ _ h _ => h
theorem PostG.nox {α β : Type} {G : Gd} {R : List Addr → Hp → β → α → Prop} {E E' : XK} {r : List Addr} {h : Hv} {H : Hp} {Q : β → Hp → Prop} : ∀ {x : Res α}, PostG G R E r h H Q x.nox → PostG G R E' r h H Q x
  | .ok _ _, p => p
  | .ex _ _ _, p => p.elim
  | .no, p => p
section
variable {X : Cx} {G : Gd} {C : Cc} {D : DK} {E : XK} {K : Orc}
/-- an iterated expression -/
def OI (X : Cx) (G : Gd) (D : DK) (E : XK) (K : Orc) (tg e : Expr) (it : I) : Prop := ∀ m, PI X tg e (tM G D E (fun r _ J iv => ItR G r iv J) (evI G.p K m it))
theorem PI.imp {tg e : Expr} {t t' : TI} (h : PI X tg e t) (f : ∀ σ H Q, t' σ H Q → t σ H Q) : PI X tg e t' := ⟨fun pins s σ H R I w => h.run pins s σ H R I (f σ H R w)⟩
theorem pi_no {tg e : Expr} : PI X tg e (fun _ _ _ => False) := ⟨fun _ _ _ _ _ _ z => z.elim⟩
theorem oi_of {tg e : Expr} {it : I} (k : ∀ m, PI X tg e (tM G D E (fun r _ J iv => ItR G r iv J) (evI G.p K (m + 1) it))) : OI X G D E K tg e it
  | 0 => PI.imp pi_no fun σ H Q t => tM.no t
  | m + 1 => k m
/-- the tests of a comprehension -/
def OIfs (X : Cx) (G : Gd) (D : DK) (E : XK) (K : Orc) (es : List Expr) (xs : List RP.E) : Prop := ∀ m, PTs X es (tM G D E RId (evIfs G.p K m xs))
theorem PTs.imp {es : List Expr} {t t' : TT} (h : PTs X es t) (f : ∀ σ H Q, t' σ H Q → t σ H Q) : PTs X es t' := ⟨fun pins s σ H Q I w => h.run pins s σ H Q I (f σ H Q w)⟩
theorem pts_no {es : List Expr} : PTs X es (fun _ _ _ => False) := ⟨fun _ _ _ _ _ _ z => z.elim⟩
theorem oifs_nil : OIfs X G D E K [] []
  | 0 => PTs.imp pts_no fun σ H Q t => tM.no t
  | m + 1 => PTs.imp pts_nil fun σ H Q ⟨r, h, env, rel, er, P⟩ => PostG.ok P rel rfl
theorem oifs_one {e : Expr} {x : RP.E} (h1 : OT X G D E K e x) : OIfs X G D E K [e] [x]
  | 0 => PTs.imp pts_no fun σ H Q t => tM.no t
  | m + 1 => PTs.imp (pts_one (h1 m)) fun σ H Q t => t
/-- the frame of a comprehension -/
theorem XOk.blk (hX : XOk G C X) (scope : Scope) (s : Shared) (H : Hp) (A : Addr) (cl : List (Str × Addr)) (fp : List Addr) : XOk G (C.inner scope) (X.blk s H scope (compEnvC scope cl A X.env) fp) where
  prog := hX.prog
  w := hX.w
  K := hX.K
  mg := hX.mg
  base := hX.base
  N := hX.N
  sc := by
    show relabel scope X.env = L2.relS scope C.sc
    rw [← hX.sc]
    rfl
  nd := hX.nd
  gl := hX.gl
  calm := hX.calm
  units := hX.units
  fn := fun x h1 h2 => by
    have h1 : isLoc (scope.names.lookup x) = true := h1
    rcases loc_of h1 with e | e
    · exact .inr (lookup_relS_keep (by decide) e)
    · exact .inl (by show (scope.names.lookup x == some NameKind.cell) = true; rw [e]; rfl)
theorem KOk.blk (hk : KOk X G E K) (scope : Scope) (s : Shared) (H : Hp) (A : Addr) (cl : List (Str × Addr)) (fp : List Addr) : KOk (X.blk s H scope (compEnvC scope cl A X.env) fp) G E0 K := by
  obtain ⟨CX, k, hr, hx, hz, F⟩ := hk.ok
  exact ⟨CX, k, hr, fun pins σ H s e s' _ c => hz _ _ _ _ _ c, hz, F⟩
theorem KSv.blk (hk : KSv X G K) (scope : Scope) (s : Shared) (H : Hp) (A : Addr) (cl : List (Str × Addr)) (fp : List Addr) : KSv (X.blk s H scope (compEnvC scope cl A X.env) fp) G K := ⟨hk.ok⟩
/-- a comprehension's frame sees the values of the one around it -/
theorem drop_get {w : W} : ∀ {env : Env} {i : Nat}, (dropPend env)[i]? = some (some w) → env[i]? = some (some w) ∧ clean w = true
  | [], _, e => by simp [dropPend] at e
  | none :: env, 0, e => by simp [dropPend] at e
  | none :: env, i + 1, e => drop_get (env := env) (by simpa [dropPend] using e)
  | some u :: env, 0, e => by cases u <;> simp [dropPend] at e <;> (subst e; exact ⟨rfl, rfl⟩)
  | some u :: env, i + 1, e => by
    have : (dropPend env)[i]? = some (some w) := by cases u <;> simpa [dropPend] using e
    simpa using drop_get this
theorem drop_len : ∀ env : Env, (dropPend env).length = env.length
  | [] => rfl
  | none :: env => congrArg (· + 1) (drop_len env)
  | some u :: env => by cases u <;> exact congrArg (· + 1) (drop_len env)
theorem setN_get {w : W} : ∀ {env : Env} {i j : Nat}, (setEnv env i none)[j]? = some (some w) → j ≠ i ∧ env[j]? = some (some w)
  | [], _, _, e => by simp [setEnv] at e
  | x :: env, 0, 0, e => by simp [setEnv] at e
  | x :: env, 0, j + 1, e => ⟨by omega, by simpa [setEnv] using e⟩
  | x :: env, i + 1, 0, e => ⟨by omega, by simpa [setEnv] using e⟩
  | x :: env, i + 1, j + 1, e => by
    obtain ⟨h1, h2⟩ := setN_get (env := env) (i := i) (j := j) (by simpa [setEnv] using e)
    exact ⟨by omega, by simpa using h2⟩
theorem setN_len {o : Option W} : ∀ {env : Env} {i : Nat}, (setEnv env i o).length = env.length
  | [], _ => rfl
  | _ :: _, 0 => rfl
  | _ :: _, _ + 1 => congrArg (· + 1) setN_len
theorem wipeE_get {env : Env} {w : W} {j : Nat} : ∀ {vs : List Nat}, (wipeE env vs)[j]? = some (some w) → j ∉ vs ∧ env[j]? = some (some w)
  | [], e => ⟨by simp, e⟩
  | v :: vs, e => by
    obtain ⟨h1, h2⟩ := setN_get e
    obtain ⟨h3, h4⟩ := wipeE_get (vs := vs) h2
    exact ⟨fun z => (List.mem_cons.mp z).elim h1 h3, h4⟩
theorem wipeE_len {env : Env} : ∀ {vs : List Nat}, (wipeE env vs).length = env.length
  | [] => rfl
  | _ :: vs => setN_len.trans (wipeE_len (vs := vs))
theorem EnvR.inner {r : List Addr} {H : Hp} {σ : L2.St} {env : Env} (er : EnvR G D r H σ env) (vs : List Nat) : EnvR G D0 r H (wipe σ vs) (wipeE (dropPend env) vs) where
  len := by rw [wipe_length, wipeE_len, drop_len]; exact er.len
  val := fun i w e => by
    obtain ⟨h1, h2⟩ := wipeE_get e
    obtain ⟨h3, h4⟩ := drop_get h2
    obtain ⟨v, e1, e2⟩ := er.val i w h3
    exact ⟨v, by rw [wipe_out h1]; exact e1, .of (e2.to h4)⟩
theorem wipe_wipe (σ : L2.St) (vs : List Nat) : wipe (wipe σ vs) vs = wipe σ vs := by
  apply List.ext_getElem?
  intro i
  by_cases c : i ∈ vs
  · by_cases l : i < σ.length
    · rw [wipe_in c (by rw [wipe_length]; exact l), wipe_in c l]
    · rw [List.getElem?_eq_none (by rw [wipe_length, wipe_length]; omega), List.getElem?_eq_none (by rw [wipe_length]; omega)]
  · rw [wipe_out c]
theorem res_assoc {α β γ : Type} {f : α → Hv → Res β} {g : β → Hv → Res γ} : ∀ {x : Res α}, (x.bind f).bind g = x.bind fun a h => (f a h).bind g
  | .ok _ _ => rfl
  | .ex _ _ _ => rfl
  | .no => rfl
/-- one run behind another, the first begun later -/
theorem PostG.bind2 {α β γ δ : Type} {G : Gd} {R : List Addr → Hp → β → α → Prop} {R' : List Addr → Hp → δ → γ → Prop} {E : XK} {r rb : List Addr} {h hb : Hv} {H Hb : Hp} {Q : δ → Hp → Prop} {f : α → Hv → Res γ} (s : Step G r h H rb hb Hb) :
    ∀ {x : Res α}, PostG G R' E r h H Q (x.bind f) → PostG G R E rb hb Hb (fun b H1 => ∃ r1 h1 a, Rel G r1 h1 H1 ∧ Step G rb hb Hb r1 h1 H1 ∧ R r1 H1 b a ∧ PostG G R' E r h H Q (f a h1)) x
  | .ok a h', p => fun b H' r' rel st q => ⟨r', h', a, rel, st, q, p⟩
  | .ex _ _ _, p => fun d H' r' rel st => p d H' r' rel (s.trans st)
  | .no, p => p
/-- a turn's value, where it has one -/
def ROp (G : Gd) : List Addr → Hp → Option V → Option W → Prop
  | r, _, some v, some w => VW G r v w
  | _, _, none, none => True
  | _, _, _, _ => False
/-- the state of a comprehension's walk: D its list, m the turns left -/
def LcW (G : Gd) (D : DK) (E : XK) (iv : ItV) (turn : W → Hv → Res (Option W)) (σ : L2.St) (env : Env) (r1 : List Addr) (h1 : Hv) (H1 : Hp) (d : Addr) (Q : VK) (i m : Nat) (H : Hp) : Prop :=
  ∃ r h acc vs, Rel G r h H ∧ Step G r1 h1 H1 r h H ∧ EnvR G D r H σ env ∧ H d = some (.lst vs) ∧ ¬ Mu r h d ∧ VWs G r vs acc ∧ PostG G (RVal G) E r1 h1 H1 Q ((lcL iv turn m i acc h).bind fun ws h => .ok (.ref h.n) (h.push (.lst ws)))
theorem lc_read (hX : XOk G C X) (hD : DOk D) {own : List (Str × Nat)} {x : RP.E} {t : T} {it : I} {xs : List RP.E} {m : Nat} (ht : ∀ i ∈ tsl t, i ∈ own.map (·.2)) : ∀ (σ : L2.St) (H : Hp) (Q : VK), tE G D E (evE G.p K (m + 1) (.lc x t it xs (own.map (·.2)))) σ H Q →
    tLc (tM G D E (fun r _ J iv => ItR G r iv J) (evI G.p K m it)) (tGA (tsl t) G D0 E0 fun w env h => asgT G.p K m t w env h) (tM G D0 E0 RId (evIfs G.p K m xs)) (tE G D0 E0 (evE G.p K m x)) (own.map (·.2)) σ H Q := by
  rintro σ H Q ⟨r, h, env, rel, er, P⟩
  let turn : W → Hv → Res (Option W) := fun w h => ((asgT G.p K m t w (wipeE (dropPend env) (own.map (·.2))) h).bind fun env' h =>
        (evIfs G.p K m xs env' h).bind fun b h => match b with
          | true => (evE G.p K m x env' h).bind fun v h => .ok (some v) h
          | false => .ok none h).nox
  replace P : PostG G (RVal G) E r h H Q ((evI G.p K m it env h).bind fun iv h => (lcL iv turn (turns iv h) 0 [] h).bind fun ws h => .ok (.ref h.n) (h.push (.lst ws))) := P
  refine ⟨r, h, env, rel, er, P.bind.imp fun J H1 ⟨r1, h1, iv, rel1, s1, q1, P1⟩ d hd => ?_⟩
  have er1 := er.step hD rel s1
  refine ⟨LcW G D E iv turn σ env r1 h1 H1 d Q, ⟨turns iv h1, r1, h1, [], [], rel1.ext hd, .ext rel1 hd, er1.step hD rel1 (.ext rel1 hd), upd_same, fun mu => ?_, .nil, P1⟩, fun i k Hc ⟨r2, hv, acc, vs, rel2, st2, er2, hc, nm, qa, P2⟩ => ?_⟩
  · obtain ⟨y, hy, _⟩ := Mu.there rel1 mu
    rw [hd] at hy; cases hy
  · cases k with
    | zero => exact P2.elim
    | succ k =>
      have e : lcL iv turn (k + 1) i acc hv = (match nxt iv i hv with
        | .bad => .no
        | .stop => .ok acc hv
        | .item w h => (turn w h).bind fun o h => match o with
          | some v => if acc.length < 16777216 then lcL iv turn k (i + 1) (acc ++ [v]) h else .no
          | none => lcL iv turn k (i + 1) acc h) := rfl
      rw [e] at P2
      cases g : nxt iv i hv with
      | bad => rw [g] at P2; exact P2.elim
      | stop =>
        rw [g] at P2
        refine .inl ⟨q1.stop r2 hv Hc i st2.le rel2 g, ?_⟩
        exact P2 (.ref d) Hc (r2 ++ [d]) (rel2.adopt nm rfl ⟨vs, hc, qa.mono (Le.push r2 d)⟩) (st2.adopt rel2 hd) ⟨d, get_new rel2 d, rfl⟩
      | item w h2 =>
        rw [g] at P2
        refine .inr ⟨q1.go r2 hv Hc i w h2 st2.le rel2 g, LcW G D E iv turn σ env r1 h1 H1 d Q (i + 1) k, fun H' hn => ⟨k, Nat.lt_succ_self k, hn⟩, fun v H' y => ?_⟩
        obtain ⟨r3, rel3, s3, qv⟩ := q1.yld r2 hv Hc i w h2 v H' st2.le rel2 g y
        replace P2 : PostG G (RVal G) E r1 h1 H1 Q (((turn w h2).bind fun o h => match o with
          | some v => if acc.length < 16777216 then lcL iv turn k (i + 1) (acc ++ [v]) h else .no
          | none => lcL iv turn k (i + 1) acc h).bind fun ws h => .ok (.ref h.n) (h.push (.lst ws))) := P2
        have st3 := st2.trans s3
        rw [res_assoc] at P2
        have P3 := PostG.bind2 (R := ROp G) st3 P2
        have P4 := PostG.nox (E' := E0) P3
        have keepd : ∀ {r' : List Addr} {h' : Hv} {Hx : Hp}, Step G r2 hv Hc r' h' Hx → Hx d = some (.lst vs) ∧ ¬ Mu r' h' d := fun s => by
          refine ⟨s.keep d _ hc (fun φ z => nomatch z) nm (T.not rel2 hc fun ps z => nomatch z), fun mu => ?_⟩
          rcases s.fresh d mu with z | z | ⟨o, z, nk⟩
          · exact nm z
          · rw [hc] at z; cases z
          · rw [hc] at z; cases z; exact nk fun φ z => nomatch z
        refine ⟨r3, h2, wipeE (dropPend env) (own.map (·.2)), w, rel3, (er2.step hD rel2 s3).inner _, .of qv, P4.bind.imp fun σ2 H2 ⟨r4, h4, env2, rel4, s4, ⟨er4, ag⟩, P5⟩ => ⟨by rw [ag.wipe ht, wipe_wipe], ?_⟩⟩
        refine ⟨r4, h4, env2, rel4, er4, P5.bind.imp fun b H3 ⟨r5, h5, b', rel5, s5, eb, P6⟩ => ?_⟩
        have eb : b = b' := eb
        subst eb
        cases b with
        | true =>
          rw [if_pos rfl]
          refine ⟨r5, h5, env2, rel5, er4.step d0_ok rel4 s5, PostG.bind (R := RVal G) P6 |>.imp fun y0 H4 ⟨r6, h6, u, rel6, s6, qu, P7⟩ => ?_⟩
          obtain ⟨r7, h7, ou, rel7, s7, qo, P8⟩ := PostG.ok (b := some y0) P7 rel6 (show ROp G r6 H4 (some y0) (some u) from qu)
          cases ou with
          | none => exact (show False from qo).elim
          | some u7 =>
            obtain ⟨k1, k2⟩ := keepd (s3.trans s7)
            replace P8 : PostG G (RVal G) E r1 h1 H1 Q ((if acc.length < 16777216 then lcL iv turn k (i + 1) (acc ++ [u7]) h7 else .no).bind fun ws h => .ok (.ref h.n) (h.push (.lst ws))) := P8
            split at P8
            · rename_i z
              refine ⟨vs, k1, by rw [szl, pair_len qa]; exact z, r7, h7, acc ++ [u7], vs ++ [y0], rel7.free k1 rfl k2, (st3.trans s7).free hd, ?_, upd_same, k2, pair_app (qa.mono (s3.trans s7).le) (.cons qo .nil), P8⟩
              exact er1.step hD rel1 ((st3.trans s7).free hd)
            · exact P8.elim
        | false =>
          rw [if_neg (by decide)]
          obtain ⟨r7, h7, ou, rel7, s7, qo, P8⟩ := PostG.ok (b := (none : Option V)) P6 rel5 (show ROp G r5 H3 none none from trivial)
          cases ou with
          | some _ => exact (show False from qo).elim
          | none =>
            obtain ⟨k1, k2⟩ := keepd (s3.trans s7)
            exact ⟨r7, h7, acc, vs, rel7, st3.trans s7, er1.step hD rel1 (st3.trans s7), k1, k2, qa.mono (s3.trans s7).le, P8⟩
theorem oe_lc (hX : XOk G C X) (hD : DOk D) (hk : KSv X G K) {elt tg iter : Expr} {ifs : List Expr} {scope : Scope} {own : List (Str × Nat)} {pos : Pos} {x : RP.E} {t : T} {it : I} {xs : List RP.E} (hb : blkC C.N C.sc scope own = true) (hs : ∀ v, foldedSetIterable iter X.env v = pure v) (ht : ∀ i ∈ tsl t, i ∈ own.map (·.2))
    (h0 : OI X G D E K tg iter it) (h1 : ∀ X', XOk G (C.inner scope) X' → KSv X' G K → OG X' G D0 E0 K tg t) (h2 : ∀ X', XOk G (C.inner scope) X' → KSv X' G K → OIfs X' G D0 E0 K ifs xs) (h3 : ∀ X', XOk G (C.inner scope) X' → KSv X' G K → OE X' G D0 E0 K elt x) :
    OE X G D E K (.ListComp elt [⟨tg, iter, ifs, 0⟩] scope pos) (.lc x t it xs (own.map (·.2))) := oe_of fun m => by
  have bo : BlkOk X.N X.env.scope scope own := by rw [hX.N, hX.sc]; exact blkOk_by hb
  exact PE.imp (pe_lc hX.calm (by rw [hX.N]; exact hX.nd) (h0 m) bo (fun s H A cl fp => h1 _ (hX.blk scope s H A cl fp) (hk.blk scope s H A cl fp) m) (fun s H A cl fp => h2 _ (hX.blk scope s H A cl fp) (hk.blk scope s H A cl fp) m) (fun s H A cl fp => h3 _ (hX.blk scope s H A cl fp) (hk.blk scope s H A cl fp) m) hs) (lc_read hX hD ht)
end
end RP

set_option Elab.async false
set_option linter.all false
set_option maxRecDepth 100000
set_option maxHeartbeats 4000000
/-! RP20: statements. -/
namespace RP
open PySem PySem.Spec PyProof.Rows L2

section
variable {X : Cx} {G : Gd} {C : Cc} {D : DK} {E : XK} {K : Orc}
def OS (X : Cx) (G : Gd) (D : DK) (E : XK) (K : Orc) (st : Stmt) (s : S) : Prop := ∀ m, PS X st (tS G D E (evS G.p K m s))
def OSs (X : Cx) (G : Gd) (D : DK) (E : XK) (K : Orc) (st : List Stmt) (s : List S) : Prop := ∀ m, PSs X st (tS G D E (evSs G.p K m s))
theorem ps_no {st : Stmt} : PS X st (fun _ _ _ => False) := ⟨fun _ _ _ _ _ _ z => z.elim⟩
theorem pss_no {st : List Stmt} : PSs X st (fun _ _ _ => False) := ⟨fun _ _ _ _ _ _ z => z.elim⟩
theorem os_of {st : Stmt} {s : S} (k : ∀ m, PS X st (tS G D E (evS G.p K (m + 1) s))) : OS X G D E K st s
  | 0 => PS.imp ps_no fun Dn σ H ⟨r, h, env, rel, er, P⟩ => P
  | m + 1 => k m
theorem oss_of {st : List Stmt} {s : List S} (k : ∀ m, PSs X st (tS G D E (evSs G.p K (m + 1) s))) : OSs X G D E K st s
  | 0 => PSs.imp pss_no fun Dn σ H ⟨r, h, env, rel, er, P⟩ => P
  | m + 1 => k m
/-- an outcome -/
theorem end_nx {Dn : Ends} {r : List Addr} {h : Hv} {H : Hp} {σ : L2.St} {env : Env} (rel : Rel G r h H) (er : EnvR G D r H σ env) (P : PostG G (ROut G D) E r h H (endsOf Dn) (.ok (.nx env) h)) : Dn.nx σ H := PostG.ok (b := OutB.nx σ) P rel er
theorem end_rt {Dn : Ends} {r : List Addr} {h : Hv} {H : Hp} {v : V} {w : W} (rel : Rel G r h H) (q : VW G r v w) (P : PostG G (ROut G D) E r h H (endsOf Dn) (.ok (.rt w) h)) : Dn.rt v H := PostG.ok (b := OutB.rt v) P rel q
theorem oss_nil : OSs X G D E K [] [] := oss_of fun m => PSs.imp pss_nil fun Dn σ H ⟨r, h, env, rel, er, P⟩ => end_nx rel er P
theorem oss_cons (hD : DOk D) {st : Stmt} {rest : List Stmt} {s : S} {ss : List S} (h1 : OS X G D E K st s) (h2 : OSs X G D E K rest ss) : OSs X G D E K (st :: rest) (s :: ss) := oss_of fun m => by
  refine PSs.imp (pss_cons (h1 m) (h2 m)) ?_
  rintro Dn σ H ⟨r, h, env, rel, er, P⟩
  replace P : PostG G (ROut G D) E r h H (endsOf Dn) ((evS G.p K m s env h).bind fun o h => match o with
      | .nx env => evSs G.p K m ss env h
      | o => .ok o h) := P
  refine ⟨r, h, env, rel, er, (PostG.bind (R := ROut G D) P).imp fun b H1 ⟨r1, h1, o, rel1, s1, q1, P1⟩ => ?_⟩
  cases b with
  | nx σ1 =>
    cases o with
    | nx env1 => exact ⟨r1, h1, env1, rel1, q1, P1⟩
    | _ => exact (show False from q1).elim
  | rt v =>
    cases o with
    | rt w => exact end_rt (Dn := Dn) rel1 q1 P1
    | _ => exact (show False from q1).elim
  | bk σ1 =>
    cases o with
    | bk env1 => exact PostG.ok (b := OutB.bk σ1) (Q := endsOf Dn) P1 rel1 q1
    | _ => exact (show False from q1).elim
  | ct σ1 =>
    cases o with
    | ct env1 => exact PostG.ok (b := OutB.ct σ1) (Q := endsOf Dn) P1 rel1 q1
    | _ => exact (show False from q1).elim
theorem os_pass {pos : Pos} : OS X G D E K (.Pass pos) .pass := os_of fun m => PS.imp ps_pass fun Dn σ H ⟨r, h, env, rel, er, P⟩ => end_nx rel er P
theorem os_doc {s : Str} {k : Nat} {p pos : Pos} : OS X G D E K (.Expr (.Constant (.str s) k p) pos) .pass := os_of fun m => PS.imp ps_doc fun Dn σ H ⟨r, h, env, rel, er, P⟩ => end_nx rel er P
theorem os_ret {e : Expr} {x : RP.E} {pos : Pos} (h1 : OE X G D E K e x) : OS X G D E K (.Return (some e) pos) (.ret x) := os_of fun m => by
  refine PS.imp (ps_ret (h1 m)) ?_
  rintro Dn σ H ⟨r, h, env, rel, er, P⟩
  replace P : PostG G (ROut G D) E r h H (endsOf Dn) ((evE G.p K m x env h).bind fun w h => .ok (.rt w) h) := P
  exact ⟨r, h, env, rel, er, (PostG.bind (R := RVal G) P).imp fun v H1 ⟨r1, h1, w, rel1, s1, q1, P1⟩ => end_rt rel1 q1 P1⟩
theorem os_retN {pos : Pos} : OS X G D E K (.Return none pos) (.ret (.cst .non)) := os_of fun m => by
  refine PS.imp ps_retN ?_
  rintro Dn σ H ⟨r, h, env, rel, er, P⟩
  cases m with
  | zero => exact (show False from P).elim
  | succ m => exact end_rt (w := .non) rel rfl P
theorem os_expr (hD : DOk D) {e : Expr} {x : RP.E} {pos : Pos} (hs : swapsWith e none pos.line X.env = pure false) (h1 : OE X G D E K e x) : OS X G D E K (.Expr e pos) (.ex x) := os_of fun m => by
  refine PS.imp (ps_expr (h1 m) hs) ?_
  rintro Dn σ H ⟨r, h, env, rel, er, P⟩
  replace P : PostG G (ROut G D) E r h H (endsOf Dn) ((evE G.p K m x env h).bind fun _ h => .ok (.nx env) h) := P
  exact ⟨r, h, env, rel, er, (PostG.bind (R := RVal G) P).imp fun v H1 ⟨r1, h1, w, rel1, s1, q1, P1⟩ => end_nx rel1 (er.step hD rel s1) P1⟩
theorem os_iff (hD : DOk D) {c : Expr} {a b : List Stmt} {x : RP.E} {y z : List S} {pos : Pos} (h1 : OT X G D E K c x) (h2 : OSs X G D E K a y) (h3 : OSs X G D E K b z) : OS X G D E K (.If c a b pos) (.iff x y z) := os_of fun m => by
  refine PS.imp (ps_if (h1 m) (h2 m) (h3 m)) ?_
  rintro Dn σ H ⟨r, h, env, rel, er, P⟩
  replace P : PostG G (ROut G D) E r h H (endsOf Dn) ((evT G.p K m x env h).bind fun t h => match t with
      | true => evSs G.p K m y env h
      | false => evSs G.p K m z env h) := P
  refine ⟨r, h, env, rel, er, (PostG.bind (R := RId) P).imp fun v H1 ⟨r1, h1, t, rel1, s1, q1, P1⟩ => ?_⟩
  have q1 : v = t := q1
  subst q1
  cases v with
  | true => rw [if_pos rfl]; exact ⟨r1, h1, env, rel1, er.step hD rel s1, P1⟩
  | false => rw [if_neg (by decide)]; exact ⟨r1, h1, env, rel1, er.step hD rel s1, P1⟩
theorem os_asg (hD : DOk D) {tg e : Expr} {t : T} {x : RP.E} {pos : Pos} (hs : swapsWithSole [tg] e pos.line X.env = pure false) (hw : swappedStores [tg] e X.env = pure none) (hn : noStar tg = true) (h1 : OE X G D E K e x) (h2 : OG X G D E K tg t) : OS X G D E K (.Assign [tg] e pos) (.asg t x) := os_of fun m => by
  refine PS.imp (ps_asg (h1 m) (h2 m) hs hw (by rw [asg_ne hn]; rfl)) ?_
  rintro Dn σ H ⟨r, h, env, rel, er, P⟩
  replace P : PostG G (ROut G D) E r h H (endsOf Dn) ((evE G.p K m x env h).bind fun w h => (asgT G.p K m t w env h).bind fun env h => .ok (.nx env) h) := P
  refine ⟨r, h, env, rel, er, (PostG.bind (R := RVal G) P).imp fun v H1 ⟨r1, h1, w, rel1, s1, q1, P1⟩ => ?_⟩
  exact ⟨r1, h1, env, w, rel1, er.step hD rel s1, .of q1, P1.bind.imp fun σ2 H2 ⟨r2, h2, env2, rel2, s2, ⟨er2, _⟩, P2⟩ => end_nx rel2 er2 P2⟩
/-! ### loops -/
/-- the state of a for: m turns left -/
def FoW (G : Gd) (D : DK) (E : XK) (iv : ItV) (body : W → Env → Hv → Res Out) (r1 : List Addr) (h1 : Hv) (H1 : Hp) (Dn : Ends) (i m : Nat) (σ : L2.St) (H : Hp) : Prop :=
  ∃ r h env, Rel G r h H ∧ Step G r1 h1 H1 r h H ∧ EnvR G D r H σ env ∧ PostG G (ROut G D) E r1 h1 H1 (endsOf Dn) (forL iv body m i env h)
theorem os_fo (hX : XOk G C X) (hD : DOk D) (hp : PassesOwn (model X.prog X.w) X.A X.env X.xe) {tg iter : Expr} {b : List Stmt} {t : T} {it : I} {ss : List S} {pos : Pos} (hs : ∀ x, foldedSetIterable iter X.env x = pure x) (h0 : OI X G D E K tg iter it) (h1 : OG X G D E K tg t) (h2 : OSs X G D E K b ss) :
    OS X G D E K (.For tg iter b [] pos) (.fo t it ss) := os_of fun m => by
  refine PS.imp (ps_for hp hX.calm (h0 m) (h1 m) (h2 m) hs) ?_
  rintro Dn σ H ⟨r, h, env, rel, er, P⟩
  let body : W → Env → Hv → Res Out := fun w env h => (asgT G.p K m t w env h).bind fun env h => evSs G.p K m ss env h
  replace P : PostG G (ROut G D) E r h H (endsOf Dn) ((evI G.p K m it env h).bind fun iv h => forL iv body (turns iv h) 0 env h) := P
  refine ⟨r, h, env, rel, er, P.bind.imp fun J H1 ⟨r1, h1, iv, rel1, s1, q1, P1⟩ => ?_⟩
  refine ⟨FoW G D E iv body r1 h1 H1 Dn, ⟨turns iv h1, r1, h1, env, rel1, .refl .., er.step hD rel s1, P1⟩, fun i k σ2 Hc ⟨r2, hv, env2, rel2, st2, er2, P2⟩ => ?_⟩
  cases k with
  | zero => exact (show False from P2).elim
  | succ k =>
    have e : forL iv body (k + 1) i env2 hv = (match nxt iv i hv with
      | .bad => .no
      | .stop => .ok (.nx env2) hv
      | .item w h => (body w env2 h).bind fun o h => match o with
        | .nx env => forL iv body k (i + 1) env h
        | .ct env => forL iv body k (i + 1) env h
        | .bk env => .ok (.nx env) h
        | .rt w => .ok (.rt w) h) := rfl
    rw [e] at P2
    cases g : nxt iv i hv with
    | bad => rw [g] at P2; exact P2.elim
    | stop =>
      rw [g] at P2
      exact .inl ⟨q1.stop r2 hv Hc i st2.le rel2 g, P2 (OutB.nx σ2) Hc r2 rel2 st2 er2⟩
    | item w h2' =>
      rw [g] at P2
      refine .inr ⟨q1.go r2 hv Hc i w h2' st2.le rel2 g, FoW G D E iv body r1 h1 H1 Dn (i + 1) k, fun σ' H' hn => ⟨k, Nat.lt_succ_self k, hn⟩, fun v H' y => ?_⟩
      obtain ⟨r3, rel3, s3, qv⟩ := q1.yld r2 hv Hc i w h2' v H' st2.le rel2 g y
      have st3 := st2.trans s3
      have P3 := PostG.bind2 (R := ROut G D) st3 P2
      refine ⟨r3, h2', env2, w, rel3, er2.step hD rel2 s3, .of qv, P3.bind.imp fun σ3 H3 ⟨r4, h4, env4, rel4, s4, ⟨er4, _⟩, P4⟩ => ?_⟩
      refine ⟨r4, h4, env4, rel4, er4, P4.imp fun o H5 ⟨r5, h5, w5, rel5, s5, q5, P5⟩ => ?_⟩
      have st5 := st3.trans s5
      cases o with
      | nx σ5 =>
        cases w5 with
        | nx env5 => exact ⟨r5, h5, env5, rel5, st5, q5, P5⟩
        | _ => exact (show False from q5).elim
      | ct σ5 =>
        cases w5 with
        | ct env5 => exact ⟨r5, h5, env5, rel5, st5, q5, P5⟩
        | _ => exact (show False from q5).elim
      | bk σ5 =>
        cases w5 with
        | bk env5 => exact P5 (OutB.nx σ5) H5 r5 rel5 st5 q5
        | _ => exact (show False from q5).elim
      | rt v =>
        cases w5 with
        | rt w => exact P5 (OutB.rt v) H5 r5 rel5 st5 q5
        | _ => exact (show False from q5).elim
end
end RP

set_option Elab.async false
set_option linter.all false
set_option maxRecDepth 100000
set_option maxHeartbeats 4000000
/-! RP21: while, a, b = x, y, del. -/
namespace RP
open PySem PySem.Spec PyProof.Rows L2

section
variable {X : Cx} {G : Gd} {C : Cc} {D : DK} {E : XK} {K : Orc}
def WhW (G : Gd) (D : DK) (E : XK) (test : Env → Hv → Res Bool) (body : Env → Hv → Res Out) (r1 : List Addr) (h1 : Hv) (H1 : Hp) (Dn : Ends) (m : Nat) (σ : L2.St) (H : Hp) : Prop :=
  ∃ r h env, Rel G r h H ∧ Step G r1 h1 H1 r h H ∧ EnvR G D r H σ env ∧ PostG G (ROut G D) E r1 h1 H1 (endsOf Dn) (whL test body m env h)
theorem os_wh (hD : DOk D) (hp : PassesOwn (model X.prog X.w) X.A X.env X.xe) {c : Expr} {b : List Stmt} {x : RP.E} {ss : List S} {pos : Pos} (h1 : OT X G D E K c x) (h2 : OSs X G D E K b ss) :
    OS X G D E K (.While c b [] pos) (.wh x ss) := os_of fun m => by
  refine PS.imp (ps_while hp (h1 m) (h2 m)) ?_
  rintro Dn σ H ⟨r, h, env, rel, er, P⟩
  let test : Env → Hv → Res Bool := fun env h => evT G.p K m x env h
  let body : Env → Hv → Res Out := fun env h => evSs G.p K m ss env h
  replace P : PostG G (ROut G D) E r h H (endsOf Dn) (whL test body 1000000 env h) := P
  refine ⟨WhW G D E test body r h H Dn, ⟨1000000, r, h, env, rel, .refl .., er, P⟩, fun k σ2 Hc ⟨r2, hv, env2, rel2, st2, er2, P2⟩ => ?_⟩
  cases k with
  | zero => exact (show False from P2).elim
  | succ k =>
    replace P2 : PostG G (ROut G D) E r h H (endsOf Dn) ((test env2 hv).bind fun b h => match b with
      | false => .ok (.nx env2) h
      | true => (body env2 h).bind fun o h => match o with
        | .nx env => whL test body k env h
        | .ct env => whL test body k env h
        | .bk env => .ok (.nx env) h
        | .rt w => .ok (.rt w) h) := P2
    have P3 := PostG.bind2 (R := RId) st2 P2
    refine ⟨r2, hv, env2, rel2, er2, P3.imp fun t H3 ⟨r3, h3, t', rel3, s3, q3, P3⟩ => ?_⟩
    have q3 : t = t' := q3
    subst q3
    cases t with
    | false => rw [if_neg (by decide)]; exact P3 (OutB.nx σ2) H3 r3 rel3 (st2.trans s3) (er2.step hD rel2 s3)
    | true =>
      rw [if_pos rfl]
      refine ⟨WhW G D E test body r h H Dn k, fun σ' H' hn => ⟨k, Nat.lt_succ_self k, hn⟩, ?_⟩
      have st3 := st2.trans s3
      have P4 := PostG.bind2 (R := ROut G D) st3 P3
      refine ⟨r3, h3, env2, rel3, er2.step hD rel2 s3, P4.imp fun o H5 ⟨r5, h5, w5, rel5, s5, q5, P5⟩ => ?_⟩
      have st5 := st3.trans s5
      cases o with
      | nx σ5 =>
        cases w5 with
        | nx env5 => exact ⟨r5, h5, env5, rel5, st5, q5, P5⟩
        | _ => exact (show False from q5).elim
      | ct σ5 =>
        cases w5 with
        | ct env5 => exact ⟨r5, h5, env5, rel5, st5, q5, P5⟩
        | _ => exact (show False from q5).elim
      | bk σ5 =>
        cases w5 with
        | bk env5 => exact P5 (OutB.nx σ5) H5 r5 rel5 st5 q5
        | _ => exact (show False from q5).elim
      | rt v =>
        cases w5 with
        | rt w => exact P5 (OutB.rt v) H5 r5 rel5 st5 q5
        | _ => exact (show False from q5).elim
/-- a, b, c = x, y, z with plain local names: stored from the right -/
def tPar3 (i j k : Nat) (ta : TA) : TS := fun D σ H => ta σ H fun vs H1 => ∃ v w z, vs = [v, w, z] ∧ D.nx (((σ.set i (some v)).set j (some w)).set k (some z)) H1
theorem ps_par3 {i j k : Nat} {x y z : Str} {a b c : Expr} {ta : TA} {px py pz pt : Pos} {kt k2 pt2} {pos : Pos} (hc : X.calm = true) (hN : X.N.Nodup) (hi : X.N[i]? = some x) (hj : X.N[j]? = some y) (hk : X.N[k]? = some z) (hij : i ≠ j) (hik : i ≠ k) (hjk : j ≠ k)
    (hx : X.env.scope.names.lookup x = some .local) (hy : X.env.scope.names.lookup y = some .local) (hz : X.env.scope.names.lookup z = some .local) (ha : PA X [a, b, c] ta)
    (hw : swappedStores [.Tuple [.Name x px, .Name y py, .Name z pz] kt pt] (.Tuple [a, b, c] k2 pt2) X.env = pure (some [x, y, z]))
    (hs : swapsWithSole [.Tuple [.Name x px, .Name y py, .Name z pz] kt pt] (.Tuple [a, b, c] k2 pt2) pos.line X.env = pure false := by rfl) :
    PS X (.Assign [.Tuple [.Name x px, .Name y py, .Name z pz] kt pt] (.Tuple [a, b, c] k2 pt2) pos) (tPar3 i j k ta) := by
  refine ⟨fun pins s σ H D I h => ?_⟩
  rw [exec_Assign_arm]
  refine wpAny_bind (wpAny_standAt ?_)
  rw [hs]
  refine wpAny_bind (wpAny_pure ?_)
  rw [if_neg (by decide)]
  refine wpAny_bind (Tuple_ (thn (ha.run _ pins s σ H _ I h) fun us s1 ⟨vs, H1, I1, r1, q1⟩ => ?_))
  obtain ⟨v, w, t, e1, q1⟩ := q1
  subst e1
  obtain ⟨u1, u2, u3, rfl, rv, rw', rt⟩ : ∃ u1 u2 u3, us = [u1, u2, u3] ∧ RelV v u1 ∧ RelV w u2 ∧ RelV t u3 := by
    cases r1 with
    | cons p q =>
      cases q with
      | cons p' q' =>
        cases q' with
        | cons p2 q2 =>
          cases q2
          exact ⟨_, _, _, rfl, p, p', p2⟩
  refine wpAny_newObj_type ?_ (by show 3 ≤ sizeLine; decide)
  have I2 : Inv X pins σ H1 { s1 with heap := s1.heap.push { cls := .type "tuple", data := .seq [u1, u2, u3].toArray } } := I1.kept (t' := s1.toks) fun b o e => Heap.get?_push_of_some _ e
  rw [hw]
  refine wpAny_bind (wpAny_pure ?_)
  show wpAny (model X.prog X.w) X.A (do rule "assign.swapped-stores"; let items ← unpackItems (.ref s1.heap.objs.size) 3 none; assignInOrder [fun v => bindName X.env z v, fun v => bindName X.env y v, fun v => bindName X.env x v] items.reverse; pure Flow.next) _ _ _
  refine wpAny_bind (wpAny_rule (wpAny_bind (unpackItems_tuple (items := #[u1, u2, u3]) (I.ok.hd hc) (IsTup.new s1.heap _) fun h' hx' => ?_)))
  have I3 := I2.kept (h' := h') (t' := s1.toks) fun b o e => hx' b o (Nat.ne_of_lt (Heap.lt_size e)) e
  show wpAny _ _ (assignInOrder [fun v => bindName X.env z v, fun v => bindName X.env y v, fun v => bindName X.env x v] [u3, u2, u1] >>= fun _ => pure Flow.next) _ _ _
  refine wpAny_bind (assignInOrder_cons (wpAny_bindName (store_ok I3 hN hk (.inl hz) rt (fun s2 I4 => ?_) (.inr hz))))
  refine assignInOrder_cons (wpAny_bindName (store_ok I4 hN hj (.inl hy) rw' (fun s3 I5 => ?_) (.inr hy)))
  refine assignInOrder_cons (wpAny_bindName (store_ok I5 hN hi (.inl hx) rv (fun s4 I6 => assignInOrder_nil (wpAny_pure ?_)) (.inr hx)))
  have e : ((σ.set k (some t)).set j (some w)).set i (some v) = ((σ.set i (some v)).set j (some w)).set k (some t) := by
    rw [List.set_comm _ _ hij.symm, List.set_comm (some t) (some v) hik.symm, List.set_comm (some t) (some w) hjk.symm]
  rw [e] at I6
  exact ⟨_, H1, I6, q1⟩
def setsV : List Nat → List V → L2.St → L2.St
  | i :: is, v :: vs, σ => setsV is vs (σ.set i (some v))
  | _, _, σ => σ
theorem par_env {r r0 : List Addr} {h h0 : Hv} {H H0 : Hp} {Q : OutB → Hp → Prop} {f : Env → Hv → Res Out} : ∀ {is : List Nat} {m : Nat} {vs : List V} {ws : List W} {σ : L2.St} {env : Env},
    VWs G r vs ws → EnvR G D r H σ env → PostG G (ROut G D) E r0 h0 H0 Q ((asgTs G.p K m (is.map .nm) ws env h).bind f) → is.length = vs.length ∧ ∃ env', EnvR G D r H (setsV is vs σ) env' ∧ PostG G (ROut G D) E r0 h0 H0 Q (f env' h)
  | _, 0, _, _, _, _, _, _, P => (show False from P).elim
  | [], m + 1, _, _, _, env, .nil, er, P => ⟨rfl, env, er, P⟩
  | [], m + 1, _, _, _, env, .cons _ _, er, P => (show False from P).elim
  | i :: is, m + 1, _, _, _, env, .nil, er, P => (show False from P).elim
  | i :: is, 1, _, _, _, env, .cons _ _, er, P => (show False from P).elim
  | i :: is, m + 2, v :: vs, w :: ws, σ, env, .cons q qs, er, P => by
    replace P : PostG G (ROut G D) E r0 h0 H0 Q (((if i < env.length then Res.ok (setEnv env i (some w)) h else .no).bind fun env h => asgTs G.p K (m + 1) (is.map .nm) ws env h).bind f) := P
    by_cases c : i < env.length
    · rw [if_pos c] at P
      obtain ⟨e, env', er', P'⟩ := par_env (σ := σ.set i (some v)) qs (er.set (.of q) c) P
      exact ⟨congrArg (· + 1) e, env', er', P'⟩
    · rw [if_neg c] at P
      exact (show False from P).elim
theorem os_par (hD : DOk D) {tg e : Expr} {is : List Nat} {xs : List RP.E} {pos : Pos}
    (hp : ∀ m, PS X (.Assign [tg] e pos) fun Dn σ H => tEs G D E (evEs G.p K m xs) σ H fun vs H1 => is.length = vs.length ∧ Dn.nx (setsV is vs σ) H1) : OS X G D E K (.Assign [tg] e pos) (.par is xs) := os_of fun m => by
  refine PS.imp (hp m) ?_
  rintro Dn σ H ⟨r, h, env, rel, er, P⟩
  replace P : PostG G (ROut G D) E r h H (endsOf Dn) ((evEs G.p K m xs env h).bind fun ws h => (asgTs G.p K m (is.map .nm) ws env h).bind fun env h => .ok (.nx env) h) := P
  refine ⟨r, h, env, rel, er, P.bind.imp fun vs H1 ⟨r1, h1, ws, rel1, s1, q1, P1⟩ => ?_⟩
  obtain ⟨e1, env', er', P2⟩ := par_env q1 (er.step hD rel s1) P1
  exact ⟨e1, end_nx rel1 er' P2⟩
theorem os_par2 (hX : XOk G C X) (hD : DOk D) {i j : Nat} {x y : Str} {a b : Expr} {xs : List RP.E} {px py pt pos : Pos} {kt k2 pt2} (hi : C.tslot x = some i) (hj : C.tslot y = some j) (hij : i ≠ j)
    (hx : C.sc.names.lookup x = some .local) (hy : C.sc.names.lookup y = some .local)
    (hw : swappedStores [.Tuple [.Name x px, .Name y py] kt pt] (.Tuple [a, b] k2 pt2) X.env = pure (some [x, y]))
    (hs : swapsWithSole [.Tuple [.Name x px, .Name y py] kt pt] (.Tuple [a, b] k2 pt2) pos.line X.env = pure false)
    (h1 : OEs X G D E K [a, b] xs) : OS X G D E K (.Assign [.Tuple [.Name x px, .Name y py] kt pt] (.Tuple [a, b] k2 pt2) pos) (.par [i, j] xs) := by
  obtain ⟨i1, i2, i3⟩ := tslot_is hi
  obtain ⟨j1, j2, j3⟩ := tslot_is hj
  refine os_par hD fun m => PS.imp (ps_par hX.calm (by rw [hX.N]; exact hX.nd) (by rw [hX.N]; exact i1) (by rw [hX.N]; exact j1) hij (by rw [hX.sc]; exact hx) (by rw [hX.sc]; exact hy) (h1 m) hw hs) ?_
  rintro Dn σ H ⟨r, h, env, rel, er, P⟩
  refine ⟨r, h, env, rel, er, P.imp fun vs H1 ⟨e, q⟩ => ?_⟩
  match vs, e, q with
  | [v, w], _, q => exact ⟨v, w, rfl, q⟩
theorem os_par3 (hX : XOk G C X) (hD : DOk D) {i j k : Nat} {x y z : Str} {a b c : Expr} {xs : List RP.E} {px py pz pt pos : Pos} {kt k2 pt2} (hi : C.tslot x = some i) (hj : C.tslot y = some j) (hk : C.tslot z = some k) (hij : i ≠ j) (hik : i ≠ k) (hjk : j ≠ k)
    (hx : C.sc.names.lookup x = some .local) (hy : C.sc.names.lookup y = some .local) (hz : C.sc.names.lookup z = some .local)
    (hw : swappedStores [.Tuple [.Name x px, .Name y py, .Name z pz] kt pt] (.Tuple [a, b, c] k2 pt2) X.env = pure (some [x, y, z]))
    (hs : swapsWithSole [.Tuple [.Name x px, .Name y py, .Name z pz] kt pt] (.Tuple [a, b, c] k2 pt2) pos.line X.env = pure false)
    (h1 : OEs X G D E K [a, b, c] xs) : OS X G D E K (.Assign [.Tuple [.Name x px, .Name y py, .Name z pz] kt pt] (.Tuple [a, b, c] k2 pt2) pos) (.par [i, j, k] xs) := by
  obtain ⟨i1, i2, i3⟩ := tslot_is hi
  obtain ⟨j1, j2, j3⟩ := tslot_is hj
  obtain ⟨k1, k2', k3⟩ := tslot_is hk
  refine os_par hD fun m => PS.imp (ps_par3 hX.calm (by rw [hX.N]; exact hX.nd) (by rw [hX.N]; exact i1) (by rw [hX.N]; exact j1) (by rw [hX.N]; exact k1) hij hik hjk (by rw [hX.sc]; exact hx) (by rw [hX.sc]; exact hy) (by rw [hX.sc]; exact hz) (h1 m) hw hs) ?_
  rintro Dn σ H ⟨r, h, env, rel, er, P⟩
  refine ⟨r, h, env, rel, er, P.imp fun vs H1 ⟨e, q⟩ => ?_⟩
  match vs, e, q with
  | [v, w, u], _, q => exact ⟨v, w, u, rfl, q⟩
end
end RP

set_option Elab.async false
set_option linter.all false
set_option maxRecDepth 100000
set_option maxHeartbeats 4000000
/-! RP22: del d[k]; raise. -/
namespace RP
open PySem PySem.Spec PyProof.Rows L2

section
variable {X : Cx} {G : Gd} {C : Cc} {D : DK} {E : XK} {K : Orc}
theorem drop_mem {k x : Key} : ∀ {ks : List (Key × W)}, x ∈ (dropK ks k).map (·.1) → x ∈ ks.map (·.1)
  | [], hm => hm
  | (a, b) :: ks, hm => by
    unfold dropK at hm
    split at hm
    · exact List.mem_cons_of_mem _ hm
    · rcases List.mem_cons.mp hm with z | z
      · rw [z]; exact List.mem_cons_self ..
      · exact List.mem_cons_of_mem _ (drop_mem z)
theorem drop_key {r : List Addr} {k : Key} : ∀ {es : List (Key × V)} {ks : List (Key × W)}, KVW G r es ks → (ks.map (·.1)).Nodup → KVW G r (L2.dropK es k) (dropK ks k) ∧ ((dropK ks k).map (·.1)).Nodup
  | [], [], .nil, nd => ⟨.nil, nd⟩
  | (a1, a2) :: es, (b1, b2) :: ks, .cons ⟨h1, h2⟩ t, nd => by
    have h1 : a1 = b1 := h1
    subst h1
    have nd' := List.nodup_cons.mp nd
    by_cases c : a1 = k
    · have e : dropK ((a1, b2) :: ks) k = ks := if_pos c
      have e2 : L2.dropK ((a1, a2) :: es) k = es := by
        unfold L2.dropK
        rw [List.filter_cons_of_neg (by simp [c])]
        refine List.filter_eq_self.mpr fun p hp => ?_
        refine decide_eq_true fun z => nd'.1 ?_
        show a1 ∈ ks.map (·.1)
        rw [← kv_keys t, c, ← z]
        exact List.mem_map_of_mem hp
      rw [e, e2]
      exact ⟨t, nd'.2⟩
    · have e : dropK ((a1, b2) :: ks) k = (a1, b2) :: dropK ks k := if_neg c
      have e2 : L2.dropK ((a1, a2) :: es) k = (a1, a2) :: L2.dropK es k := by
        unfold L2.dropK
        rw [List.filter_cons_of_pos (by simp [c])]
      obtain ⟨p1, p2⟩ := drop_key (k := k) t nd'.2
      rw [e, e2]
      exact ⟨.cons ⟨rfl, h2⟩ p1, List.nodup_cons.mpr ⟨fun z => nd'.1 (drop_mem z), p2⟩⟩
theorem os_del (hD : DOk D) {o i : Expr} {x y : RP.E} {tpos pos : Pos} (h1 : OE X G D E K o x) (h2 : OE X G D E K i y) : OS X G D E K (.Delete [.Subscript o i tpos] pos) (.del x y) := os_of fun m => by
  refine PS.imp (ps_ddel (h1 m) (h2 m)) ?_
  rintro Dn σ H ⟨r, h, env, rel, er, P⟩
  replace P : PostG G (ROut G D) E r h H (endsOf Dn) ((evE G.p K m x env h).bind fun x h => (evE G.p K m y env h).bind fun y h => (match x with
      | .ref m => (match h.get m, keyOf y with
        | some (.dct kvs), some k => (match lookK kvs k with
          | some _ => .ok (.nx env) (h.set m (.dct (dropK kvs k)))
          | none => .no)
        | _, _ => .no)
      | _ => .no)) := P
  refine ⟨r, h, env, rel, er, P.bind.imp fun ov H1 ⟨r1, h1, ow, rel1, s1, q1, P1⟩ => ?_⟩
  refine ⟨r1, h1, env, rel1, er.step hD rel s1, P1.bind.imp fun iv H2 ⟨r2, h2, iw, rel2, s2, q2, P2⟩ => ?_⟩
  cases ow with
  | ref n =>
    simp only at P2
    cases g : h2.get n with
    | none => rw [g] at P2; exact P2.elim
    | some ob =>
      cases ob with
      | dct kvs =>
        cases gk : keyOf iw with
        | none => rw [g, gk] at P2; exact P2.elim
        | some k =>
          cases gl : lookK kvs k with
          | none => rw [g, gk] at P2; simp only [gl] at P2; exact P2.elim
          | some w0 =>
            rw [g, gk] at P2
            simp only [gl] at P2
            have g2 : dctOf h2 (.ref n) = some kvs := by simp [dctOf, g]
            obtain ⟨n', a, es, e1, hg, ea, rfl, hA, kA, nd⟩ := dct_at rel2 (q1.mono s2.le) g2
            cases e1
            obtain ⟨p1, p2⟩ := drop_key (k := k) kA nd
            have lv := look_val k kA
            rw [gl] at lv
            obtain ⟨v0, lv, _⟩ := lv
            have st := Step.set rel2 (y := .dK (L2.dropK es k)) (o' := .dct (dropK kvs k)) hg ea rfl
            refine ⟨a, es, k, rfl, hA, key_of q2 gk, by rw [lv]; rfl, ?_⟩
            exact P2 (OutB.nx σ) _ r2 (rel2.set hg ea rfl hA rfl rfl ⟨_, upd_same, p1, p2⟩) st (((er.step hD rel s1).step hD rel1 s2).step hD rel2 st)
      | _ => rw [g] at P2; exact P2.elim
  | _ => exact P2.elim
end
end RP

set_option Elab.async false
set_option linter.all false
set_option maxRecDepth 100000
set_option maxHeartbeats 4000000
/-! RP23: dict displays. -/
namespace RP
open PySem PySem.Spec PyProof.Rows L2

section
variable {X : Cx} {G : Gd} {C : Cc} {D : DK} {E : XK} {K : Orc}
theorem kvw_mono {r r' : List Addr} (h : Le r r') {es : List (Key × V)} {ks : List (Key × W)} (q : KVW G r es ks) : KVW G r' es ks := Paired.mono (fun _ _ x => ⟨x.1, x.2.mono h⟩) q
def tNo : TE := fun _ _ _ => False
/-- the pairs of a display, read -/
def trK (G : Gd) (D : DK) (E : XK) (K : Orc) : Nat → List (RP.E × RP.E) → List (TE × TE)
  | 0, ps => ps.map fun _ => (tNo, tNo)
  | _ + 1, [] => []
  | m + 1, (a, b) :: r => (tE G D E (evE G.p K m a), tE G D E (evE G.p K m b)) :: trK G D E K m r
inductive OKs (X : Cx) (G : Gd) (D : DK) (E : XK) (K : Orc) : List (Option Expr) → List Expr → List (RP.E × RP.E) → Prop
  | nil : OKs X G D E K [] [] []
  | cons {k v : Expr} {ks : List (Option Expr)} {vs : List Expr} {a b : RP.E} {r : List (RP.E × RP.E)} (h1 : OE X G D E K k a) (h2 : OE X G D E K v b) (h3 : OKs X G D E K ks vs r) : OKs X G D E K (some k :: ks) (v :: vs) ((a, b) :: r)
theorem OKs.facts {ks : List (Option Expr)} {vs : List Expr} {ps : List (RP.E × RP.E)} (h : OKs X G D E K ks vs ps) : ks.all (·.isSome) = true ∧ ks.length = vs.length ∧ ks.length = ps.length := by
  induction h with
  | nil => exact ⟨rfl, rfl, rfl⟩
  | cons h1 h2 h3 ih => exact ⟨by simpa using ih.1, by simp [ih.2.1], by simp [ih.2.2]⟩
theorem OKs.pps {pos : Pos} {ks : List (Option Expr)} {vs : List Expr} {ps : List (RP.E × RP.E)} (h : OKs X G D E K ks vs ps) : ∀ m, PPs X pos ks vs (trK G D E K m ps) := by
  induction h with
  | nil => intro m; cases m <;> exact pps_nil
  | cons h1 h2 h3 ih =>
    intro m
    cases m with
    | zero => exact pps_cons ⟨fun _ _ _ _ _ _ z => z.elim⟩ ⟨fun _ _ _ _ _ _ z => z.elim⟩ (ih 0)
    | succ m => exact pps_cons (h1 m) (h2 m) (ih m)
theorem pairs_run {β γ : Type} {R' : List Addr → Hp → β → γ → Prop} (hD : DOk D) {r0 : List Addr} {h0 : Hv} {H0 : Hp} {Q : β → Hp → Prop} {f : List (Key × W) → Hv → Res γ} {σ : L2.St} {env : Env} : ∀ {ps : List (RP.E × RP.E)} {m : Nat} {r : List Addr} {h : Hv} {H : Hp} {es : List (Key × V)} {acc : List (Key × W)} {Qc : List (V × V) → Hp → Prop},
    Rel G r h H → Step G r0 h0 H0 r h H → EnvR G D r H σ env → KVW G r es acc → (acc.map (·.1)).Nodup → PostG G R' E r0 h0 H0 Q ((evKs G.p K m ps acc env h).bind f) →
    (∀ r2 h2 H2 (kvs : List (Key × V)) acc2, Rel G r2 h2 H2 → Step G r0 h0 H0 r2 h2 H2 → Step G r h H r2 h2 H2 → kvs.length = ps.length → KVW G r2 (mergeK es kvs) acc2 → (acc2.map (·.1)).Nodup → PostG G R' E r0 h0 H0 Q (f acc2 h2) → Qc (kvs.map fun kv => (kV kv.1, kv.2)) H2) →
    tPairs (trK G D E K m ps) σ H Qc
  | _, 0, _, _, _, _, _, _, _, _, _, _, _, P, _ => (show False from P).elim
  | [], m + 1, r, h, H, es, acc, Qc, rel, st, er, qa, nd, P, c => c r h H [] acc rel st (.refl ..) rfl qa nd P
  | (a, b) :: ps, m + 1, r, h, H, es, acc, Qc, rel, st, er, qa, nd, P, c => by
    replace P : PostG G R' E r0 h0 H0 Q (((evE G.p K m a env h).bind fun x h => (evE G.p K m b env h).bind fun y h => match keyOf x with
      | some k => evKs G.p K m ps (putK acc k y) env h
      | none => .no).bind f) := P
    rw [res_assoc] at P
    refine ⟨r, h, env, rel, er, (PostG.bind2 (R := RVal G) st P).imp fun x H1 ⟨r1, h1, xw, rel1, s1, q1, P1⟩ => ?_⟩
    rw [res_assoc] at P1
    have st1 := st.trans s1
    refine ⟨r1, h1, env, rel1, er.step hD rel s1, (PostG.bind2 (R := RVal G) st1 P1).imp fun y H2 ⟨r2, h2, yw, rel2, s2, q2, P2⟩ => ?_⟩
    have st2 := st1.trans s2
    cases gk : keyOf xw with
    | none => rw [gk] at P2; exact (show False from P2).elim
    | some k =>
      rw [gk] at P2
      obtain ⟨p1, p2⟩ := put_key (k := k) q2 (kvw_mono (s1.trans s2).le qa) nd
      refine pairs_run hD rel2 st2 ((er.step hD rel s1).step hD rel1 s2) p1 p2 P2 fun r3 h3 H3 kvs acc3 rel3 st3 s3 hl qk nd3 P3 => ?_
      have := c r3 h3 H3 ((k, y) :: kvs) acc3 rel3 st3 ((s1.trans s2).trans s3) (by simp [hl]) qk nd3 P3
      rw [List.map_cons] at this
      rw [key_of q1 gk]
      exact this
theorem oe_dct (hD : DOk D) {ks : List (Option Expr)} {vs : List Expr} {ps : List (RP.E × RP.E)} {pos : Pos} (h0 : ks ≠ []) (h15 : ks.length ≤ 15) (hk : OKs X G D E K ks vs ps) : OE X G D E K (.Dict ks vs pos) (.dct ps) := oe_of fun m => by
  obtain ⟨f1, f2, f3⟩ := hk.facts
  refine PE.imp (pe_disp (hk.pps m) f1 f2 h0 h15) ?_
  rintro σ H Q ⟨r, h, env, rel, er, P⟩ p hp
  replace P : PostG G (RVal G) E r h H Q ((evKs G.p K m ps [] env h).bind fun kvs h => .ok (.ref h.n) (h.push (.dct kvs))) := P
  have s0 : Step G r h H r h (upd H p (.dK [])) := .ext rel hp
  have rel0 : Rel G r h (upd H p (.dK [])) := rel.ext hp
  refine pairs_run hD rel0 s0 (er.step hD rel s0) (es := []) .nil List.nodup_nil P fun r2 h2 H2 kvs acc2 rel2 st2 s2 hl qk nd P2 => ?_
  have nm0 : ¬ Mu r h p := fun mu => by
    obtain ⟨y, hy, _⟩ := Mu.there rel mu
    rw [hp] at hy; cases hy
  have k1 : H2 p = some (.dK []) := s2.keep p _ upd_same (fun φ z => nomatch z) nm0 (T.not rel0 upd_same fun ps z => nomatch z)
  have k2 : ¬ Mu r2 h2 p := fun mu => by
    rcases s2.fresh p mu with z | z | ⟨o, z, nk⟩
    · exact nm0 z
    · rw [upd_same] at z; cases z
    · rw [upd_same] at z; cases z; exact nk fun φ z => nomatch z
  refine ⟨k1, kvs, rfl, by omega, ?_⟩
  have rel3 : Rel G r2 h2 (upd H2 p (.dK (mergeK [] kvs))) := rel2.free k1 rfl k2
  have st3 : Step G r h H r2 h2 (upd H2 p (.dK (mergeK [] kvs))) := st2.free hp
  exact P2 (.ref p) _ (r2 ++ [p]) (rel3.adopt k2 rfl ⟨_, upd_same, kvw_mono (Le.push r2 p) qk, nd⟩) (st3.adopt rel3 hp) ⟨p, get_new rel3 p, rfl⟩
end
end RP

set_option Elab.async false
set_option linter.all false
set_option maxRecDepth 100000
set_option maxHeartbeats 4000000
/-! RP24: dict comprehensions, {}. -/
namespace RP
open PySem PySem.Spec PyProof.Rows L2

section
variable {X : Cx} {G : Gd} {C : Cc} {D : DK} {E : XK} {K : Orc}
theorem oe_dct0 {pos : Pos} : OE X G D E K (.Dict [] [] pos) (.dct []) := oe_of fun m => by
  refine PE.imp pe_dnewK ?_
  rintro σ H Q ⟨r, h, env, rel, er, P⟩ p hp
  cases m with
  | zero => exact (show False from P).elim
  | succ m =>
    replace P : PostG G (RVal G) E r h H Q (.ok (.ref h.n) (h.push (.dct []))) := P
    have s0 : Step G r h H r h (upd H p (.dK [])) := .ext rel hp
    have rel0 : Rel G r h (upd H p (.dK [])) := rel.ext hp
    have nm0 : ¬ Mu r h p := fun mu => by
      obtain ⟨y, hy, _⟩ := Mu.there rel mu
      rw [hp] at hy; cases hy
    exact P (.ref p) _ (r ++ [p]) (rel0.adopt nm0 rfl ⟨_, upd_same, .nil, List.nodup_nil⟩) (s0.adopt rel0 hp) ⟨p, get_new rel0 p, rfl⟩
/-- the state of a dict comprehension's walk: d its dict, m the turns left -/
def DcW (G : Gd) (D : DK) (E : XK) (iv : ItV) (turn : W → Hv → Res (Key × W)) (σ : L2.St) (env : Env) (r1 : List Addr) (h1 : Hv) (H1 : Hp) (d : Addr) (Q : VK) (i m : Nat) (H : Hp) : Prop :=
  ∃ r h acc es, Rel G r h H ∧ Step G r1 h1 H1 r h H ∧ EnvR G D r H σ env ∧ H d = some (.dK es) ∧ ¬ Mu r h d ∧ KVW G r es acc ∧ (acc.map (·.1)).Nodup ∧ PostG G (RVal G) E r1 h1 H1 Q ((dcL iv turn m i acc h).bind fun ws h => .ok (.ref h.n) (h.push (.dct ws)))
/-- a turn's pair -/
def RKv (G : Gd) : List Addr → Hp → Key × V → Key × W → Prop := fun r _ a b => a.1 = b.1 ∧ VW G r a.2 b.2
theorem dc_read (hX : XOk G C X) (hD : DOk D) {own : List (Str × Nat)} {x y : RP.E} {t : T} {it : I} {m : Nat} (ht : ∀ i ∈ tsl t, i ∈ own.map (·.2)) : ∀ (σ : L2.St) (H : Hp) (Q : VK), tE G D E (evE G.p K (m + 1) (.dc x y t it (own.map (·.2)))) σ H Q →
    tDc (tM G D E (fun r _ J iv => ItR G r iv J) (evI G.p K m it)) (tGA (tsl t) G D0 E0 fun w env h => asgT G.p K m t w env h) tYes (tE G D0 E0 (evE G.p K m x)) (tE G D0 E0 (evE G.p K m y)) (own.map (·.2)) σ H Q := by
  rintro σ H Q ⟨r, h, env, rel, er, P⟩
  let turn : W → Hv → Res (Key × W) := fun w h => ((asgT G.p K m t w (wipeE (dropPend env) (own.map (·.2))) h).bind fun env' h =>
        (evE G.p K m x env' h).bind fun a h => (match keyOf a with
          | some k => (evE G.p K m y env' h).bind fun v h => .ok (k, v) h
          | none => .no)).nox
  replace P : PostG G (RVal G) E r h H Q ((evI G.p K m it env h).bind fun iv h => (dcL iv turn (turns iv h) 0 [] h).bind fun ws h => .ok (.ref h.n) (h.push (.dct ws))) := P
  refine ⟨r, h, env, rel, er, P.bind.imp fun J H1 ⟨r1, h1, iv, rel1, s1, q1, P1⟩ d hd => ?_⟩
  have er1 := er.step hD rel s1
  refine ⟨DcW G D E iv turn σ env r1 h1 H1 d Q, ⟨turns iv h1, r1, h1, [], [], rel1.ext hd, .ext rel1 hd, er1.step hD rel1 (.ext rel1 hd), upd_same, fun mu => ?_, .nil, List.nodup_nil, P1⟩, fun i k Hc ⟨r2, hv, acc, es, rel2, st2, er2, hc, nm, qa, nd, P2⟩ => ?_⟩
  · obtain ⟨y, hy, _⟩ := Mu.there rel1 mu
    rw [hd] at hy; cases hy
  · cases k with
    | zero => exact P2.elim
    | succ k =>
      have e : dcL iv turn (k + 1) i acc hv = (match nxt iv i hv with
        | .bad => .no
        | .stop => .ok acc hv
        | .item w h => (turn w h).bind fun o h => if acc.length < 16777216 then dcL iv turn k (i + 1) (putK acc o.1 o.2) h else .no) := rfl
      rw [e] at P2
      cases g : nxt iv i hv with
      | bad => rw [g] at P2; exact P2.elim
      | stop =>
        rw [g] at P2
        refine .inl ⟨q1.stop r2 hv Hc i st2.le rel2 g, ?_⟩
        exact P2 (.ref d) Hc (r2 ++ [d]) (rel2.adopt nm rfl ⟨es, hc, kvw_mono (Le.push r2 d) qa, nd⟩) (st2.adopt rel2 hd) ⟨d, get_new rel2 d, rfl⟩
      | item w h2 =>
        rw [g] at P2
        refine .inr ⟨q1.go r2 hv Hc i w h2 st2.le rel2 g, DcW G D E iv turn σ env r1 h1 H1 d Q (i + 1) k, fun H' hn => ⟨k, Nat.lt_succ_self k, hn⟩, fun v H' y => ?_⟩
        obtain ⟨r3, rel3, s3, qv⟩ := q1.yld r2 hv Hc i w h2 v H' st2.le rel2 g y
        replace P2 : PostG G (RVal G) E r1 h1 H1 Q (((turn w h2).bind fun o h => if acc.length < 16777216 then dcL iv turn k (i + 1) (putK acc o.1 o.2) h else .no).bind fun ws h => .ok (.ref h.n) (h.push (.dct ws))) := P2
        have st3 := st2.trans s3
        rw [res_assoc] at P2
        have P3 := PostG.bind2 (R := RKv G) st3 P2
        have P4 := PostG.nox (E' := E0) P3
        have keepd : ∀ {r' : List Addr} {h' : Hv} {Hx : Hp}, Step G r2 hv Hc r' h' Hx → Hx d = some (.dK es) ∧ ¬ Mu r' h' d := fun s => by
          refine ⟨s.keep d _ hc (fun φ z => nomatch z) nm (T.not rel2 hc fun ps z => nomatch z), fun mu => ?_⟩
          rcases s.fresh d mu with z | z | ⟨o, z, nk⟩
          · exact nm z
          · rw [hc] at z; cases z
          · rw [hc] at z; cases z; exact nk fun φ z => nomatch z
        refine ⟨r3, h2, wipeE (dropPend env) (own.map (·.2)), w, rel3, (er2.step hD rel2 s3).inner _, .of qv, P4.bind.imp fun σ2 H2 ⟨r4, h4, env2, rel4, s4, ⟨er4, ag⟩, P5⟩ => ⟨by rw [ag.wipe ht, wipe_wipe], ?_⟩⟩
        simp only [tYes, if_true]
        refine ⟨r4, h4, env2, rel4, er4, P5.bind.imp fun a H3 ⟨r5, h5, aw, rel5, s5, qw, P6⟩ => ?_⟩
        cases gk : keyOf aw with
        | none => rw [gk] at P6; exact (show False from P6).elim
        | some kk =>
          rw [gk] at P6
          refine ⟨r5, h5, env2, rel5, er4.step d0_ok rel4 s5, PostG.bind (R := RVal G) P6 |>.imp fun y0 H4 ⟨r6, h6, u, rel6, s6, qu, P7⟩ => ?_⟩
          obtain ⟨r7, h7, ou, rel7, s7, qo, P8⟩ := PostG.ok (b := (kk, y0)) P7 rel6 (show RKv G r6 H4 (kk, y0) (kk, u) from ⟨rfl, qu⟩)
          obtain ⟨k7, u7⟩ := ou
          obtain ⟨e7, qo⟩ := qo
          have e7 : kk = k7 := e7
          subst e7
          obtain ⟨k1, k2⟩ := keepd (s3.trans s7)
          replace P8 : PostG G (RVal G) E r1 h1 H1 Q ((if acc.length < 16777216 then dcL iv turn k (i + 1) (putK acc kk u7) h7 else .no).bind fun ws h => .ok (.ref h.n) (h.push (.dct ws))) := P8
          split at P8
          · rename_i z
            obtain ⟨p1, p2⟩ := put_key (k := kk) qo (kvw_mono (s3.trans s7).le qa) nd
            refine ⟨es, kk, key_of qw gk, k1, by rw [szl, pair_len qa]; exact z, r7, h7, putK acc kk u7, L2.putK es kk y0, rel7.free k1 rfl k2, (st3.trans s7).free hd, ?_, upd_same, k2, p1, p2, P8⟩
            exact er1.step hD rel1 ((st3.trans s7).free hd)
          · exact P8.elim
theorem oe_dc (hX : XOk G C X) (hD : DOk D) (hk : KSv X G K) {kx vx tg iter : Expr} {scope : Scope} {own : List (Str × Nat)} {pos : Pos} {x y : RP.E} {t : T} {it : I} (hb : blkC C.N C.sc scope own = true) (hs : ∀ v, foldedSetIterable iter X.env v = pure v) (ht : ∀ i ∈ tsl t, i ∈ own.map (·.2))
    (h0 : OI X G D E K tg iter it) (h1 : ∀ X', XOk G (C.inner scope) X' → KSv X' G K → OG X' G D0 E0 K tg t) (h2 : ∀ X', XOk G (C.inner scope) X' → KSv X' G K → OE X' G D0 E0 K kx x) (h3 : ∀ X', XOk G (C.inner scope) X' → KSv X' G K → OE X' G D0 E0 K vx y) :
    OE X G D E K (.DictComp kx vx [⟨tg, iter, [], 0⟩] scope pos) (.dc x y t it (own.map (·.2))) := oe_of fun m => by
  have bo : BlkOk X.N X.env.scope scope own := by rw [hX.N, hX.sc]; exact blkOk_by hb
  exact PE.imp (pe_dc hX.calm (by rw [hX.N]; exact hX.nd) (h0 m) bo (fun s H A cl fp => h1 _ (hX.blk scope s H A cl fp) (hk.blk scope s H A cl fp) m) (fun s H A cl fp => pts_nil) (fun s H A cl fp => h2 _ (hX.blk scope s H A cl fp) (hk.blk scope s H A cl fp) m) (fun s H A cl fp => h3 _ (hX.blk scope s H A cl fp) (hk.blk scope s H A cl fp) m) hs) (dc_read hX hD ht)
end
end RP

set_option Elab.async false
set_option linter.all false
set_option maxRecDepth 100000
set_option maxHeartbeats 4000000
/-! RP25: what is iterated. -/
namespace RP
open PySem PySem.Spec PyProof.Rows L2

section
variable {X : Cx} {G : Gd} {C : Cc} {D : DK} {E : XK} {K : Orc}
/-- a list, a tuple or a text -/
def iAny (K : PySem.W.Frag) (te : TE) : TI := fun σ H R => te σ H fun v H1 => (∃ a, v = .ref a ∧ (∃ xs, SqL K H1 a xs) ∧ R (Itl K a) H1) ∨ (∃ a, v = .ref a ∧ (∃ xs, SqT K H1 a xs) ∧ R (Itt K a) H1) ∨ (∃ x, v = .str x ∧ R (Its x) H1)
theorem pi_any {tg l : Expr} {tl : TE} (hl : PE X l tl) : PI X tg l (iAny X.K tl) := by
  refine ⟨fun pins s σ H R I h => ?_⟩
  refine thn (hl.run pins s σ H _ I h) fun v s1 ⟨y, H1, I1, r1, q1⟩ => ?_
  rcases q1 with ⟨a, e, ⟨xs, hq⟩, q⟩ | ⟨a, e, ⟨xs, hq⟩, q⟩ | ⟨x, e, q⟩
  · subst e
    cases r1
    obtain ⟨its, rv, p, hz⟩ := I1.list hq
    refine wpAny_pyIter_list p.isList ?_
    refine ⟨s1.heap.objs.size, [s1.heap.objs.size], _, _, H1, rfl, I1.kept (t' := s1.toks) fun b o e => Heap.get?_push_of_some _ e, turn_list a _, ⟨_, Heap.get?_push_size _ rfl, rfl, rfl⟩, fun b hb => ?_, q⟩
    have e : b = s1.heap.objs.size := by simpa using hb
    subst e
    exact I1.fpOk (Nat.le_refl _) (I1.hok.fresh (Nat.le_refl _))
  · subst e
    cases r1
    obtain ⟨its, rv, p, hz⟩ := I1.tuple hq
    refine wpAny_pyIter_tuple (show s1.heap.IsTuple a its.toArray from p) ?_
    refine ⟨s1.heap.objs.size, [s1.heap.objs.size], _, _, H1, rfl, I1.kept (t' := s1.toks) fun b o e => Heap.get?_push_of_some _ e, turn_tuple a _, ⟨_, Heap.get?_push_size _ rfl, rfl, rfl⟩, fun b hb => ?_, q⟩
    have e : b = s1.heap.objs.size := by simpa using hb
    subst e
    exact I1.fpOk (Nat.le_refl _) (I1.hok.fresh (Nat.le_refl _))
  · subst e
    obtain ⟨t, rfl⟩ := r1
    cases ha : x.cps.all (· < 128)
    · exact wpAny_pyIter_wide ha (pi_one (tk := s1.toks) I1 _ (turn_str _ x t "str_iterator" (.inr rfl)) ⟨_, Heap.get?_push_size _ rfl, rfl, rfl⟩ q)
    · exact wpAny_pyIter_ascii ha (pi_one (tk := s1.toks) I1 _ (turn_str _ x t "str_ascii_iterator" (.inl rfl)) ⟨_, Heap.get?_push_size _ rfl, rfl, rfl⟩ q)
def noSt : RP.E → Bool
  | .star _ => false
  | _ => true
theorem evEs_len {p : Pg} {K : Orc} {env : Env} : ∀ {m : Nat} {xs : List RP.E} {h h' : Hv} {ws : List W}, evEs p K m xs env h = .ok ws h' → xs.all noSt = true → ws.length = xs.length
  | 0, _, _, _, _, e, _ => by cases e
  | m + 1, [], h, h', ws, e, _ => by cases e; rfl
  | m + 1, x :: xs, h, h', ws, e, n => by
    rw [List.all_cons, Bool.and_eq_true] at n
    have e : ((evE p K m x env h).bind fun w h => (evEs p K m xs env h).bind fun ws h => .ok (w :: ws) h) = .ok ws h' := by
      cases x <;> first | exact e | cases n.1
    cases g : evE p K m x env h with
    | ok w h1 =>
      rw [g] at e
      have e : ((evEs p K m xs env h1).bind fun ws h => .ok (w :: ws) h) = .ok ws h' := e
      cases g2 : evEs p K m xs env h1 with
      | ok us h2 =>
        rw [g2] at e
        cases e
        exact congrArg (· + 1) (evEs_len g2 n.2)
      | ex _ _ _ => rw [g2] at e; cases e
      | no => rw [g2] at e; cases e
    | ex _ _ _ => rw [g] at e; cases e
    | no => rw [g] at e; cases e
theorem evEs_bind {β : Type} {p : Pg} {K : Orc} {env : Env} {m : Nat} {xs : List RP.E} {h : Hv} {f : List W → Hv → Res β} (n : xs.all noSt = true) : (evEs p K m xs env h).bind f = (evEs p K m xs env h).bind fun ws h => if ws.length = xs.length then f ws h else .no := by
  cases g : evEs p K m xs env h with
  | ok ws h' =>
    show f ws h' = if ws.length = xs.length then f ws h' else .no
    rw [if_pos (evEs_len g n)]
  | ex _ _ _ => rfl
  | no => rfl
theorem vw_int {r : List Addr} {v : V} {j : Int} (q : VW G r v (.int j)) : v = .int j := q
theorem oi_rng1 {tg a : Expr} {p pos : Pos} {xs : List RP.E} (hn : xs.all noSt = true) (hl : xs.length = 1) (hg : Gl X "range") (hm : X.mg "range" = none) (hs : starEach [a] X.env = [(false, eval a X.env)]) (h1 : OEs X G D E K [a] xs) : OI X G D E K tg (.Call (.Name "range" p) [a] [] pos) (.rng xs) := oi_of fun m => by
  refine PI.imp (pi_range1 hg hm (h1 m) hs) ?_
  rintro σ H R ⟨r, h, env, rel, er, P⟩
  replace P : PostG G (fun r _ J iv => ItR G r iv J) E r h H R ((evEs G.p K m xs env h).bind fun ws h => (match ws with
      | [.int j] => if -(2 ^ 62) ≤ j ∧ j < 2 ^ 62 then .ok (.rng 0 j.toNat) h else .no
      | [.int i, .int j] => if -(2 ^ 62) ≤ i ∧ i < 2 ^ 62 ∧ -(2 ^ 62) ≤ j ∧ j < 2 ^ 62 then .ok (.rng i (j - i).toNat) h else .no
      | _ => .no)) := P
  rw [evEs_bind hn, hl] at P
  refine ⟨r, h, env, rel, er, P.bind.imp fun vs H1 ⟨r1, h1, ws, rel1, s1, q1, P1⟩ => ?_⟩
  split at P1
  · rename_i e1
    cases q1 with
    | nil => cases e1
    | @cons v w vs ws q qs =>
      cases qs with
      | cons _ _ => cases e1
      | nil =>
        cases w with
        | int j =>
          simp only at P1
          split at P1
          · rename_i z
            exact ⟨j, by rw [vw_int q], z.1, z.2, PostG.ok P1 rel1 itr_rng⟩
          · exact P1.elim
        | _ => exact P1.elim
  · exact P1.elim
theorem oi_rng2 {tg a b : Expr} {p pos : Pos} {xs : List RP.E} (hn : xs.all noSt = true) (hl : xs.length = 2) (hg : Gl X "range") (hm : X.mg "range" = none) (hs : starEach [a, b] X.env = [(false, eval a X.env), (false, eval b X.env)]) (hs2 : starEach [b] X.env = [(false, eval b X.env)]) (h1 : OEs X G D E K [a, b] xs) : OI X G D E K tg (.Call (.Name "range" p) [a, b] [] pos) (.rng xs) := oi_of fun m => by
  refine PI.imp (pi_range2 hg hm (h1 m) hs hs2) ?_
  rintro σ H R ⟨r, h, env, rel, er, P⟩
  replace P : PostG G (fun r _ J iv => ItR G r iv J) E r h H R ((evEs G.p K m xs env h).bind fun ws h => (match ws with
      | [.int j] => if -(2 ^ 62) ≤ j ∧ j < 2 ^ 62 then .ok (.rng 0 j.toNat) h else .no
      | [.int i, .int j] => if -(2 ^ 62) ≤ i ∧ i < 2 ^ 62 ∧ -(2 ^ 62) ≤ j ∧ j < 2 ^ 62 then .ok (.rng i (j - i).toNat) h else .no
      | _ => .no)) := P
  rw [evEs_bind hn, hl] at P
  refine ⟨r, h, env, rel, er, P.bind.imp fun vs H1 ⟨r1, h1, ws, rel1, s1, q1, P1⟩ => ?_⟩
  split at P1
  · rename_i e1
    cases q1 with
    | nil => cases e1
    | @cons v w vs ws q qs =>
      cases qs with
      | nil => cases e1
      | @cons v2 w2 vs ws q2 qs =>
        cases qs with
        | cons _ _ => cases e1
        | nil =>
          cases w with
          | int i =>
            cases w2 with
            | int j =>
              simp only at P1
              split at P1
              · rename_i z
                exact ⟨i, j, by rw [vw_int q, vw_int q2], z, PostG.ok P1 rel1 itr_rng⟩
              · exact P1.elim
            | _ => exact P1.elim
          | _ => exact P1.elim
  · exact P1.elim
theorem PI.or {tg e : Expr} {t t' : TI} (a : PI X tg e t) (b : PI X tg e t') : PI X tg e (fun σ H R => t σ H R ∨ t' σ H R) := ⟨fun pins s σ H R I h => h.elim (a.run pins s σ H R I) (b.run pins s σ H R I)⟩
/-- the run of an iterated value -/
theorem any_run {m : Nat} {x : RP.E} {env : Env} {r : List Addr} {h : Hv} {H : Hp} {σ : L2.St} {R : It → Hp → Prop} (rel : Rel G r h H) (er : EnvR G D r H σ env)
    (P : PostG G (fun r _ J iv => ItR G r iv J) E r h H R ((evE G.p K m x env h).bind fun x h => (match x with
        | .str s => .ok (.sg s) h
        | x => (match seqOf h x with
          | some _ => .ok (.seq x (isLst h x)) h
          | none => .no)))) : iAny G.K (tE G D E (evE G.p K m x)) σ H R := by
  refine ⟨r, h, env, rel, er, P.bind.imp fun v H1 ⟨r1, h1, w, rel1, s1, q1, P1⟩ => ?_⟩
  have go : (match seqOf h1 w with
          | some _ => Res.ok (ItV.seq w (isLst h1 w)) h1
          | none => .no) = Res.no ∨ ∃ ws, seqOf h1 w = some ws ∧ (match seqOf h1 w with
          | some _ => Res.ok (ItV.seq w (isLst h1 w)) h1
          | none => .no) = Res.ok (ItV.seq w (isLst h1 w)) h1 := by
    cases g : seqOf h1 w with
    | none => exact .inl rfl
    | some ws => exact .inr ⟨ws, rfl, rfl⟩
  cases w with
  | str s => exact .inr (.inr ⟨s, q1, PostG.ok P1 rel1 itr_str⟩)
  | ref n =>
    simp only at P1
    cases g : seqOf h1 (.ref n) with
    | none => rw [g] at P1; exact P1.elim
    | some ws =>
      rw [g] at P1
      obtain ⟨a, vs, e1, _, _, l1, l2⟩ := seq_at rel1 q1 g
      subst e1
      cases k : isLst h1 (.ref n) with
      | true => rw [k] at P1; exact .inl ⟨a, rfl, ⟨vs, l1 k⟩, PostG.ok P1 rel1 (itr_list q1)⟩
      | false => rw [k] at P1; exact .inr (.inl ⟨a, rfl, ⟨vs, l2 k⟩, PostG.ok P1 rel1 (itr_tup q1)⟩)
  | _ => exact P1.elim
theorem oi_e (hX : XOk G C X) {tg e : Expr} {x : RP.E} (h1 : OE X G D E K e x) : OI X G D E K tg e (.e x) := oi_of fun m => by
  refine PI.imp (pi_any (h1 m)) ?_
  rintro σ H R ⟨r, h, env, rel, er, P⟩
  rw [hX.K]
  exact any_run rel er P
end
end RP

set_option Elab.async false
set_option linter.all false
set_option maxRecDepth 100000
set_option maxHeartbeats 4000000
/-! RP26: enumerate over a list or a tuple. -/
namespace RP
open PySem PySem.Spec PyProof.Rows L2

/-- a list (k) or a tuple -/
def SqB (k : Bool) (K : PySem.W.Frag) (H : Hp) (a : Addr) (xs : List V) : Prop := if k = true then SqL K H a xs else SqT K H a xs
def IterB (k : Bool) (h : Heap) (it a : Addr) (i : Nat) : Prop := if k = true then h.IsListIter it a i else h.IsTupleIter it a i
def IsB (k : Bool) (h : Heap) (a : Addr) (items : Array Value) : Prop := if k = true then h.IsList a items else h.IsTuple a items
theorem drawsB {prog : Program} {w : World} {A : Around} (hh : A.handled = none) (k : Bool) (it a : Addr) (hne : a ≠ it) (items : Array Value) :
    Draws prog w A it [it, a] items.size (fun i v => items[i]? = some v) (fun i h => IterB k h it a i ∧ IsB k h a items) := by
  cases k with
  | true => exact Draws.list hh it a hne items
  | false => exact Draws.tuple hh it a hne items
def objB (k : Bool) (a : Addr) : Obj := { cls := .type (if k = true then "list_iterator" else "tuple_iterator"), data := .fields #[.ref a, .int 0 0] }
theorem beginsB (k : Bool) (a : Addr) (items : Array Value) : Begins (.ref a) (objB k a) fun h => IsB k h a items := by
  cases k with
  | true => exact begins_list a items
  | false => exact begins_tuple a items
theorem invB {X : Cx} {pins : List (Addr × Obj)} {σ : L2.St} {H : Hp} {s : Shared} {k : Bool} {a : Addr} {xs : List V} (I : L2.Inv X pins σ H s) (h : SqB k X.K H a xs) : ∃ its, Vals xs its ∧ IsB k s.heap a its.toArray := by
  cases k with
  | true =>
    obtain ⟨its, rv, p, _⟩ := I.list (show SqL X.K H a xs from h)
    exact ⟨its, rv, p.isList⟩
  | false =>
    obtain ⟨its, rv, p, _⟩ := I.tuple (show SqT X.K H a xs from h)
    exact ⟨its, rv, p⟩
theorem iterB_at {k : Bool} {h h' : Heap} {it a : Addr} {i : Nat} (x : IterB k h it a i) (y : ∀ o, h.get? it = some o → h'.get? it = some o) : IterB k h' it a i := by
  cases k with
  | true => exact Heap.IsListIter.at x y
  | false => exact Heap.IsTupleIter.at x y
theorem iterB_obj {k : Bool} {h : Heap} {it a : Addr} {i : Nat} (x : IterB k h it a i) : ∃ o, h.get? it = some o ∧ ∀ v, o.data ≠ .cell v := by
  cases k with
  | true => obtain ⟨o, ho, hc, hd⟩ := x; exact ⟨o, ho, fun v q => by rw [hd] at q; cases q⟩
  | false => obtain ⟨o, ho, hc, hd⟩ := x; exact ⟨o, ho, fun v q => by rw [hd] at q; cases q⟩
theorem neB {k : Bool} {h : Heap} {a b : Addr} {items : Array Value} {vs : Array Value} {o : Obj} (p : IsB k h a items) (e : h.get? b = some o) (d : o.data = .fields vs) : a ≠ b := by
  rintro rfl
  cases k with
  | true =>
    obtain ⟨o', e', z⟩ := (show h.IsList a items from p)
    rw [e] at e'; cases e'
    have z2 := z.2
    rw [d] at z2
    obtain ⟨_, z2⟩ := z2
    cases z2
  | false =>
    obtain ⟨o', e', z⟩ := (show h.IsTuple a items from p)
    rw [e] at e'; cases e'
    have z2 := z.2
    rw [d] at z2
    obtain ⟨_, z2⟩ := z2
    cases z2
theorem iterB_ne {k : Bool} {h : Heap} {a it : Addr} {i : Nat} {items : Array Value} (p : IsB k h a items) (x : IterB k h it a i) : a ≠ it := by
  cases k with
  | true => obtain ⟨o, ho, hc, hd⟩ := x; exact neB p ho hd
  | false => obtain ⟨o, ho, hc, hd⟩ := x; exact neB p ho hd
/-- the sequence at a as it stands at each turn, each item in a new pair -/
def IteB (k : Bool) (K : PySem.W.Frag) (a : Addr) : It :=
  ⟨fun i H => ∃ (xs : List V) (x : V), SqB k K H a xs ∧ xs[i]? = some x, fun i H v H' => ∃ T x, v = .ref T ∧ H T = none ∧ H' = upd H T (.tup [.int (i : Nat), x]) ∧ ∀ xs, SqB k K H a xs → xs[i]? = some x, fun i H => ∃ xs : List V, SqB k K H a xs ∧ xs.length ≤ i⟩
theorem injB {X : Cx} {pins : List (Addr × Obj)} {σ : L2.St} {H : Hp} {s : Shared} {k : Bool} {a : Addr} {xs ys : List V} (I : L2.Inv X pins σ H s) (h1 : SqB k X.K H a xs) (h2 : SqB k X.K H a ys) : xs = ys := by
  cases k with
  | true => exact I.list_inj h1 h2
  | false => exact I.tuple_inj h1 h2
theorem enum_endT {prog : Program} {w : World} {A : Around} {E : Value → Shared → Prop} {s : Shared} {e it t : Addr} {n : Nat} {items : Array Value} {i : Int} {old : Value} {Q : Option Value → Shared → Prop} (hh : A.handled = none)
    (he : IsEnum s.heap e it i old) (hit : s.heap.IsTupleIter it t n) (ht : s.heap.IsTuple t items) (hx : items[n]? = none)
    (hQ : ∀ h', Heap.ExtBut it s.heap h' → Q none { s with heap := h' }) : wpAny (model prog w) A (pyNext (.ref e)) Q E s := by
  have hT : s.TypeIs (.ref e) "enumerate" := ⟨_, he, rfl⟩
  unfold pyNext
  refine wpAny_bind (wpAny_attempt (wpAny_callSpecial?_slot (name := Str.ofString "__next__") hT F.slot_enumerate_next
    (wpAny_call_entry F.slot_enumerate_next hT F.entry_enumerate_next ?_ (F.args_enumerate_next_1 _))))
  show wpAny _ _ (field (.ref e) 2 >>= _) _ _ _
  refine wpAny_bind (wpAny_field he rfl (x := .ref it) rfl ?_)
  refine wpAny_bind (wpAny_nextOf_tuple_end hh hit ht hx fun h' x he' hx' => ?_)
  obtain ⟨o, ho, hc⟩ := hx'
  refine wpAny_bind (wpAny_isInstance (T := "StopIteration") (b := true) ⟨o, ho, hc⟩ isSubtype_stop ?_)
  exact wpAny_pure (hQ _ he')
theorem turn_enumB {P : Program} {w : World} {K : PySem.W.Frag} {elts : List Expr} {kk : Nat} {tpos : Pos} (k : Bool) (a e it : Addr) :
    Turn P w K (.Tuple elts kk tpos) (IteB k K a) [e, it] e (fun i h => (∃ old, IsEnum h e it ((i : Nat) : Int) old) ∧ IterB k h it a i ∧ e ≠ it) where
  mem := by simp
  obj := fun i h st b hb => by
    obtain ⟨⟨old, he⟩, ib, _⟩ := st
    have e' : b = e ∨ b = it := by simpa using hb
    rcases e' with z | z
    · rw [z]; exact ⟨_, he, fun v q => nomatch q⟩
    · rw [z]; exact iterB_obj ib
  keep := fun i h h' st kp => let ⟨⟨old, he⟩, hi, hne⟩ := st; ⟨⟨old, kp e (by simp) _ he⟩, iterB_at hi fun o q => kp it (by simp) o q, hne⟩
  item := by
    intro X hP hw hK hc i pins s σ H E I hf st hg
    subst hP hw hK
    obtain ⟨⟨old, he⟩, hit, hne⟩ := st
    obtain ⟨xs, x, hq, hx⟩ := hg
    obtain ⟨its, rv, p⟩ := invB I hq
    obtain ⟨u, hu, ru⟩ := rv.get hx
    have hel : e < s.heap.objs.size := Heap.lt_size he
    have hil : it < s.heap.objs.size := by obtain ⟨_, q, _⟩ := iterB_obj hit; exact Heap.lt_size q
    have hai : a ≠ it := iterB_ne p hit
    have hae : e ∉ [it, a] := by
      intro z
      rcases List.mem_cons.mp z with z | z
      · exact hne z
      · exact neB p he rfl (List.mem_singleton.mp z).symm
    have hlt : i < its.toArray.size := by
      have := List.getElem?_eq_some_iff.mp hu
      obtain ⟨z, _⟩ := this
      simpa using z
    refine wpAny_pyNext_enum_itemD (drawsB (A := X.A.in1) (I.ok.hd hc) k it a hai its.toArray) he ⟨hit, p⟩ hlt hne hae fun u' h' tk hPx ho ⟨hit', _⟩ hT hsz hk => ?_
    have eu : u' = u := by
      have z : its[i]? = some u' := by simpa using hPx
      rw [hu] at z; cases z; rfl
    subst eu
    refine ⟨_, rfl, wpAny_letOwnedTupleGo_enum (s := { s with heap := h', toks := tk + 1 }) ho fun h'' he' sb => ?_⟩
    have hT2 : h''.get? s.heap.objs.size = some { cls := .type "tuple", data := .seq #[.int i tk, u'] } := (sb.2 _ (Nat.ne_of_gt hel)).trans hT
    have new : ObjOk X.prog X.w (upd H s.heap.objs.size (.tup [.int (i : Nat), x])) h'' s.heap.objs.size (.tup [.int (i : Nat), x]) :=
      ⟨by show 2 ≤ sizeLine; decide, [.int i tk, u'], .cons ⟨_, rfl⟩ (.cons ru .nil), ⟨_, hT2, rfl, _, rfl⟩⟩
    have I1 : L2.Inv X pins σ (upd H s.heap.objs.size (.tup [.int (i : Nat), x])) { s with heap := h'', toks := tk + 1 } :=
      I.turnedNew (ch := [e, it]) (fun b ob hb q => (sb.2 b (fun z => hb (by simp [z]))).trans (hk b ob (fun z => hb (by simp [z])) (fun z => hb (by simp [z])) q)) hf (Nat.le_refl _) new
    refine ⟨.ref s.heap.objs.size, _, I1, rfl, ⟨_, x, rfl, I.hok.fresh (Nat.le_refl _), rfl, fun ys hy => by rw [injB I hy hq]; exact hx⟩, ⟨⟨u', ?_⟩, iterB_at hit' fun o q => (sb.2 it (Ne.symm hne)).trans q, hne⟩, fun b hb => ?_⟩
    · have e1 : ((i + 1 : Nat) : Int) = (i : Int) + 1 := by omega
      rw [e1]; exact he'
    · have hb' : b < s.heap.objs.size := by
        have e' : b = e ∨ b = it := by simpa using hb
        rcases e' with z | z
        · rw [z]; exact hel
        · rw [z]; exact hil
      rw [upd_ne (Nat.ne_of_lt hb')]
      exact (hf b hb).1
  done := by
    intro X hP hw hK hc i pins s σ H E I hf st hg
    subst hP hw hK
    obtain ⟨⟨old, he⟩, hit, hne⟩ := st
    obtain ⟨xs, hq, hx⟩ := hg
    obtain ⟨its, rv, p⟩ := invB I hq
    obtain ⟨f0, f1, f2, f3, f4, f5⟩ := hf it (by simp)
    have hl := rv.length
    cases k with
    | true => exact wpAny_pyNext_enum_end (I.ok.hd hc) he hit p (by simp; omega) fun h' eb => ⟨rfl, I.turned (t' := s.toks) (fun b o hb q => eb b o hb q) f0 f1 f3 f4 f5⟩
    | false => exact enum_endT (I.ok.hd hc) he hit p (by simp; omega) fun h' eb => ⟨rfl, I.turned (t' := s.toks) (fun b o hb q => eb b o hb q) f0 f1 f3 f4 f5⟩
  self := fun A i s Q E st h => let ⟨⟨_, he⟩, _⟩ := st; wpAny_pyIter_enum he h
end RP

set_option Elab.async false
set_option linter.all false
set_option maxRecDepth 100000
set_option maxHeartbeats 4000000
/-! RP27: enumerate, read. -/
namespace RP
open PySem PySem.Spec PyProof.Rows L2

section
variable {G : Gd} {r : List Addr} {h : Hv} {H : Hp}
theorem itr_enmB {k : Bool} {a : Addr} {w : W} (q : VW G r (.ref a) w) : ItR G r (.enm w k) (IteB k G.K a) where
  stop := fun r' h H i l rel e => by
    obtain ⟨ws, e1, e2⟩ := nxt_enm.1 e
    obtain ⟨vs, s, p⟩ := seqK_at rel (q.mono l) e1
    exact ⟨vs, s, List.getElem?_eq_none_iff.mp (pair_none p e2)⟩
  go := fun r' h H i x h' l rel e => by
    obtain ⟨ws, y, e1, e2, _, _⟩ := nxt_enm.2 x h' e
    obtain ⟨vs, s, p⟩ := seqK_at rel (q.mono l) e1
    obtain ⟨v, p1, _⟩ := pair_get p e2
    exact ⟨vs, v, s, p1⟩
  yld := fun r' h H i x h' v H' l rel e y => by
    obtain ⟨ws, y0, e1, e2, rfl, rfl⟩ := nxt_enm.2 x h' e
    obtain ⟨vs, s, p⟩ := seqK_at rel (q.mono l) e1
    obtain ⟨v', p1, p2⟩ := pair_get p e2
    obtain ⟨T, x0, rfl, hT, rfl, y⟩ := y
    have z := y vs s
    rw [p1] at z; cases z
    exact made_tup rel hT (.cons rfl (.cons p2 .nil))
end
set_option maxHeartbeats 1000000 in
theorem meets_enum1 {v : Value} {o : Obj} {H : Heap → Prop} (B : Begins v o H) :
    Meets (Builtin.«enumerate.__new__» ⟨[.type "enumerate", v], []⟩) (fun _ R s => H s.heap ∧
      R (.ok (.ret (.ref (s.heap.push o).objs.size))) { s with heap := (s.heap.push o).push { cls := .type "enumerate", data := .fields #[.none, .bool false, .ref s.heap.objs.size, rawInt 0, .none, .none] } }) :=
  .of_wp fun prog w A R s h => by
    obtain ⟨hp, g, d, tk, os⟩ := s; obtain ⟨h1, h⟩ := h
    have hsub := sub_enumerate
    have q1 : ∀ {A' : Around} {E : Value → Shared → Prop} {Q : Value → Shared → Prop}, Q (.ref hp.objs.size) ⟨hp.push o, g, d, tk, os⟩ → wpAny (model prog w) A' (pyIter v) Q E ⟨hp, g, d, tk, os⟩ :=
      fun q => B.iter prog w _ _ ⟨hp, g, d, tk, os⟩ _ h1 q
    wp_walk using q1
    refine wpAny_stack_any fun st => wpAny_pure ?_
    split
    · rename_i c _ _ _ _ _
      cases (c == Value.type "enumerate")
      · wp_walk using q1
        exact ⟨_, rfl, h⟩
      · wp_walk using q1
        exact ⟨_, rfl, h⟩
    · wp_walk using q1
      exact ⟨_, rfl, h⟩
section
variable {prog : Program} {w : World} {A : Around} {E : Value → Shared → Prop} {s : Shared}
theorem enum1 {v : Value} {o : Obj} {H : Heap → Prop} {Q : Value → Shared → Prop} (B : Begins v o H) (h1 : H s.heap)
    (h : ∀ h', IsEnum h' (s.heap.objs.size + 1) s.heap.objs.size 0 .none → h'.get? s.heap.objs.size = some o → h'.objs.size = s.heap.objs.size + 2 →
      (∀ b o, s.heap.get? b = some o → h'.get? b = some o) → Q (.ref (s.heap.objs.size + 1)) { s with heap := h' }) :
    wpAny (model prog w) A (call (.type "enumerate") [v]) Q E s := by
  refine callType_new F.called_enumerate (by decide) (F.typeCall_enumerate_1 _) (F.newCall_enumerate_1 _) (fun obj => F.args_object_init_2 obj _) F.entry_enumerate_new
    (meets_enum1 B) ⟨h1, ?_⟩
  have hz : (s.heap.push o).objs.size = s.heap.objs.size + 1 := Heap.size_push ..
  show _ ∧ _
  rw [hz]
  have he : IsEnum ((s.heap.push o).push { cls := .type "enumerate", data := .fields #[.none, .bool false, .ref s.heap.objs.size, rawInt 0, .none, .none] }) (s.heap.objs.size + 1) s.heap.objs.size 0 .none := by
    have := Heap.get?_push_size (s.heap.push o) (o := { cls := .type "enumerate", data := .fields #[.none, .bool false, .ref s.heap.objs.size, rawInt 0, .none, .none] }) rfl
    rw [hz] at this; exact this
  refine ⟨⟨_, he, rfl⟩, h _ he (Heap.get?_push_of_some _ (Heap.get?_push_size _ B.free)) (by rw [Heap.size_push, hz]) fun b o x => Heap.get?_push_of_some _ (Heap.get?_push_of_some _ x)⟩
end
theorem iterB_new {k : Bool} {h : Heap} {it a : Addr} (e : h.get? it = some (objB k a)) : IterB k h it a 0 := by
  cases k with
  | true => exact ⟨_, e, rfl, rfl⟩
  | false => exact ⟨_, e, rfl, rfl⟩
def iEnumB (K : PySem.W.Frag) (ta : TA) : TI := fun σ H R => ta σ H fun vs H1 => ∃ k a xs, vs = [.ref a] ∧ SqB k K H1 a xs ∧ R (IteB k K a) H1
theorem pi_enumB {X : Cx} {e : Expr} {ta : TA} {p pos tpos : Pos} {elts : List Expr} {kk : Nat} (hg : Gl X "enumerate") (hm : X.mg "enumerate" = none) (ha : PA X [e] ta) (hs : starEach [e] X.env = [(false, eval e X.env)]) :
    PI X (.Tuple elts kk tpos) (.Call (.Name "enumerate" p) [e] [] pos) (iEnumB X.K ta) := by
  refine ⟨fun pins s σ H R I h => ?_⟩
  refine Call_ (ld_blt I hg hm boot_enumerate (PyProof.Rows.callWith_type1 (thn (ha.run pos pins s σ H _ I h) fun us s1 ⟨vs, H1, I1, r1, q1⟩ => ?_) hs rfl))
  obtain ⟨k, a, xs, ex, hq, q⟩ := q1
  subst ex
  cases r1 with
  | cons r rr =>
    cases rr
    cases r
    obtain ⟨its, rv, p'⟩ := invB I1 hq
    refine enum1 (beginsB k a its.toArray) p' fun h' he hit hsz hk => wpAny_pyIter_enum he ?_
    have I2 : L2.Inv X pins σ H1 { s1 with heap := h' } := I1.kept (t' := s1.toks) hk
    refine ⟨s1.heap.objs.size + 1, [s1.heap.objs.size + 1, s1.heap.objs.size], _, _, H1, rfl, I2, turn_enumB k a (s1.heap.objs.size + 1) s1.heap.objs.size, ⟨⟨.none, he⟩, iterB_new hit, Nat.succ_ne_self _⟩, fun b hb => ?_, q⟩
    have e' : b = s1.heap.objs.size + 1 ∨ b = s1.heap.objs.size := by simpa using hb
    have hle : s1.heap.objs.size ≤ b := by
      rcases e' with z | z
      · rw [z]; exact Nat.le_add_right _ _
      · rw [z]; exact Nat.le_refl _
    exact I1.fpOk hle (I1.hok.fresh hle)
section
variable {X : Cx} {G : Gd} {C : Cc} {D : DK} {E : XK} {K : Orc}
theorem pa_one {X : Cx} {e : Expr} {t : TE} (h : PE X e t) (he : starEach [e] X.env = [(false, eval e X.env)]) : PA X [e] (fun σ H Q => t σ H fun v H1 => Q [v] H1) := pa_cons h pa_nil he
theorem oi_enm (hX : XOk G C X) {e : Expr} {x : RP.E} {p pos tpos : Pos} {elts : List Expr} {kk : Nat} (hg : Gl X "enumerate") (hm : X.mg "enumerate" = none) (hs : starEach [e] X.env = [(false, eval e X.env)]) (h1 : OE X G D E K e x) :
    OI X G D E K (.Tuple elts kk tpos) (.Call (.Name "enumerate" p) [e] [] pos) (.enm x) := oi_of fun m => by
  refine PI.imp (pi_enumB hg hm (pa_one (h1 m) hs) hs) ?_
  rintro σ H R ⟨r, h, env, rel, er, P⟩
  replace P : PostG G (fun r _ J iv => ItR G r iv J) E r h H R ((evE G.p K m x env h).bind fun x h => (match seqOf h x with
      | some _ => .ok (.enm x (isLst h x)) h
      | none => .no)) := P
  refine ⟨r, h, env, rel, er, P.bind.imp fun v H1 ⟨r1, h1, w, rel1, s1, q1, P1⟩ => ?_⟩
  cases g : seqOf h1 w with
  | none => rw [g] at P1; exact P1.elim
  | some ws =>
    rw [g] at P1
    obtain ⟨a, vs, e1, _, _, l1, l2⟩ := seq_at rel1 q1 g
    subst e1
    refine ⟨isLst h1 w, a, vs, rfl, ?_, PostG.ok P1 rel1 (by rw [hX.K]; exact itr_enmB q1)⟩
    rw [hX.K]
    cases k : isLst h1 w with
    | true => exact l1 k
    | false => exact l2 k
end
end RP

set_option Elab.async false
set_option linter.all false
set_option maxRecDepth 100000
set_option maxHeartbeats 4000000
/-! RP28: plain arguments are bound; comprehensions stored; raise. -/
namespace RP
open PySem PySem.Spec PyProof.Rows L2

theorem zip_lookup {α : Type} : ∀ {ns : List Str} {us : List α}, ns.Nodup → us.length = ns.length → (ns.filterMap fun n => ((ns.zip us).lookup n).map (n, ·)) = ns.zip us
  | [], [], _, _ => rfl
  | n :: ns, u :: us, nd, hl => by
    have nd' := List.nodup_cons.mp nd
    have ih := zip_lookup nd'.2 (us := us) (by simpa using hl)
    rw [List.zip_cons_cons, List.filterMap_cons]
    have e1 : ((n, u) :: ns.zip us).lookup n = some u := by rw [List.lookup_cons]; simp
    rw [e1]
    show (n, u) :: _ = _
    congr 1
    refine Eq.trans ?_ ih
    have fm : ∀ (l : List Str) (f g : Str → Option (Str × α)), (∀ x ∈ l, f x = g x) → l.filterMap f = l.filterMap g := fun l f g h => by
      induction l with
      | nil => rfl
      | cons a l hi => rw [List.filterMap_cons, List.filterMap_cons, h a (List.mem_cons_self ..), hi fun x hx => h x (List.mem_cons_of_mem _ hx)]
    refine fm _ _ _ fun x hx => ?_
    have ne : (x == n) = false := by
      have : x ≠ n := fun z => nd'.1 (z ▸ hx)
      simpa using this
    rw [List.lookup_cons, ne]
theorem zip_some {α : Type} : ∀ {ns : List Str} {us : List α}, us.length = ns.length → ∀ n ∈ ns, (((ns.zip us).lookup n).isNone) = false
  | n :: ns, u :: us, hl, x, hx => by
    rw [List.zip_cons_cons, List.lookup_cons]
    cases c : (x == n) with
    | true => rfl
    | false =>
      have hx' : x ∈ ns := (List.mem_cons.mp hx).resolve_left fun z => by rw [z] at c; simp at c
      exact zip_some (by simpa using hl) x hx'
theorem bind_plain {fd : FuncData} {as : List Arg} {us : List Value} (hp : fd.params = ⟨[], as, none, [], [], none, []⟩) (hd : fd.defaults = .none) (nd : (as.map (·.arg)).Nodup) (hl : us.length = as.length) : bindArgs fd ⟨us, []⟩ = pure ((as.map (·.arg)).zip us) := by
  have hl2 : us.length = (as.map (·.arg)).length := by rw [List.length_map]; exact hl
  have h1 : ∀ n ∈ as.map (·.arg), ((((as.map (·.arg)).zip us).lookup n).isNone) = false := zip_some hl2
  have h2 : ∀ l : List Str, (∀ n ∈ l, n ∈ as.map (·.arg)) → (List.filter (fun n => (((as.map (·.arg)).zip us).lookup n).isNone) l).isEmpty = true := fun l hl => by
    rw [List.isEmpty_iff, List.filter_eq_nil_iff]
    intro n hn
    rw [h1 n (hl n hn)]
    decide
  have h3 := zip_lookup nd hl2
  have hs : seqItems? Value.none = pure none := rfl
  unfold bindArgs
  rw [hp, hd]
  simp [hs, hl]
  rw [if_neg]
  · exact congrArg pure (by rw [← List.filterMap_map]; exact h3)
  · rw [h2 _ fun n hn => by simpa using List.mem_of_mem_take hn]
    decide
end RP

set_option Elab.async false
set_option linter.all false
set_option maxRecDepth 100000
set_option maxHeartbeats 400000
/-! RP29: comprehensions stored, C(), raise, try. -/
namespace RP
open PySem PySem.Spec PyProof.Rows L2

section
variable {X : Cx} {G : Gd} {C : Cc} {D : DK} {E : XK} {K : Orc}
/-- the new dict is stored within its comprehension -/
theorem ps_keepDc {i : Nat} {y : Str} {py : Pos} {kx vx tg iter : Expr} {ifs : List Expr} {scope : Scope} {own : List (Str × Nat)} {pos spos : Pos} {wi : TI} {g : TG} {tt : TT} {tk tv : TE} (hc : X.calm = true) (hN : X.N.Nodup) (hy : X.N[i]? = some y) (hyl : X.env.scope.names.lookup y = some .local)
    (sw : swapsWith (.DictComp kx vx [⟨tg, iter, ifs, 0⟩] scope pos) (some (.Name y py)) spos.line X.env = pure true) (hi : PI X tg iter wi) (bo : BlkOk X.N X.env.scope scope own)
    (h1 : ∀ s H A cl fp, PG (X.blk s H scope (compEnvC scope cl A X.env) fp) tg g) (h2 : ∀ s H A cl fp, PTs (X.blk s H scope (compEnvC scope cl A X.env) fp) ifs tt)
    (h3 : ∀ s H A cl fp, PE (X.blk s H scope (compEnvC scope cl A X.env) fp) kx tk) (h4 : ∀ s H A cl fp, PE (X.blk s H scope (compEnvC scope cl A X.env) fp) vx tv) (hs : ∀ x, foldedSetIterable iter X.env x = pure x) :
    PS X (.Assign [.Name y py] (.DictComp kx vx [⟨tg, iter, ifs, 0⟩] scope pos) spos) (tAsg (tDc wi g tt tk tv (own.map (·.2))) (gName i)) := by
  refine ⟨fun pins s σ H Dn I t => ?_⟩
  rw [exec_Assign_Name_used _ _ _ _ sw]
  refine wpAny_bind (wpAny_standAt (wpAny_bind ?_))
  show wpAny _ X.A (do let _ ← comprehension (.DictComp kx vx [⟨tg, iter, ifs, 0⟩] scope pos) scope X.env (firstIterPos [⟨tg, iter, ifs, 0⟩] pos) newDict false (eval iter X.env) (some (assign (.Name y py) X.env))) _ _ s
  replace t : tDc wi g tt tk tv (own.map (·.2)) σ H (fun x H1 => gName i x σ H1 Dn.nx) := t
  refine wpAny_bind (thn (dc_core (Qf := fun _ s' => SP X pins Dn .next s') hc hN I hi bo h1 h2 h3 h4 hs t fun L B s' m H' I' q hn f => ?_) fun _ s' hq => wpAny_pure (wpAny_pure hq))
  show wpAny _ _ (assign (.Name y py) X.env (.ref L)) _ _ _
  refine wpAny_assign_Name (store_ok2 (v := V.ref L) I' hN hy (.inl hyl) rfl (fun s2 I2 ⟨a, sb, ha⟩ => ?_) (.inr hyl))
  obtain ⟨f0, f1, f2, f3, f4, f5⟩ := f
  have hne : B ≠ a := by
    rcases ha with z | z
    · rw [z]; exact f1
    · exact fun e => f4 y a z e.symm
  exact ⟨m, hn.sameBut sb hne, fun h3 sb3 => ⟨_, H', I2.turned (t' := s2.toks) (fun b o hb e => (sb3.2 b hb).trans e) f0 f1 f3 f4 f5, q⟩⟩
/-- what a store behind a value does -/
theorem keep_nm {m : Nat} {i : Nat} {Dn : Ends} {σ : L2.St} {r r1 : List Addr} {h h1 : Hv} {H H1 : Hp} {env : Env} {v : V} {w : W} (rel1 : Rel G r1 h1 H1) (er : EnvR G D r1 H1 σ env) (q : VW G r1 v w)
    (P : PostG G (ROut G D) E r1 h1 H1 (endsOf Dn) ((asgT G.p K m (.nm i) w env h1).bind fun env h => .ok (.nx env) h)) : Dn.nx (σ.set i (some v)) H1 := by
  cases m with
  | zero => exact (show False from P).elim
  | succ m =>
    replace P : PostG G (ROut G D) E r1 h1 H1 (endsOf Dn) ((if i < env.length then Res.ok (setEnv env i (some w)) h1 else .no).bind fun env h => .ok (.nx env) h) := P
    by_cases c : i < env.length
    · rw [if_pos c] at P
      exact end_nx rel1 (er.set (.of q) c) P
    · rw [if_neg c] at P
      exact (show False from P).elim
theorem os_setLc (hX : XOk G C X) (hD : DOk D) (hk : KSv X G K) {elt tg iter : Expr} {ifs : List Expr} {scope : Scope} {own : List (Str × Nat)} {pos py spos : Pos} {x : RP.E} {t : T} {it : I} {xs : List RP.E} {y : Str} {i : Nat} (hi : C.tslot y = some i) (hl : C.sc.names.lookup y = some .local)
    (sw : swapsWith (.ListComp elt [⟨tg, iter, ifs, 0⟩] scope pos) (some (.Name y py)) spos.line X.env = pure true) (hb : blkC C.N C.sc scope own = true) (hs : ∀ v, foldedSetIterable iter X.env v = pure v) (ht : ∀ i ∈ tsl t, i ∈ own.map (·.2))
    (h0 : OI X G D E K tg iter it) (h1 : ∀ X', XOk G (C.inner scope) X' → KSv X' G K → OG X' G D0 E0 K tg t) (h2 : ∀ X', XOk G (C.inner scope) X' → KSv X' G K → OIfs X' G D0 E0 K ifs xs) (h3 : ∀ X', XOk G (C.inner scope) X' → KSv X' G K → OE X' G D0 E0 K elt x) :
    OS X G D E K (.Assign [.Name y py] (.ListComp elt [⟨tg, iter, ifs, 0⟩] scope pos) spos) (.asg (.nm i) (.lc x t it xs (own.map (·.2)))) := os_of fun m => by
  cases m with
  | zero => exact PS.imp ps_no fun Dn σ H ⟨r, h, env, rel, er, P⟩ => (show False from P)
  | succ m =>
    have bo : BlkOk X.N X.env.scope scope own := by rw [hX.N, hX.sc]; exact blkOk_by hb
    obtain ⟨i1, i2, i3⟩ := tslot_is hi
    refine PS.imp (ps_setLc hX.calm (by rw [hX.N]; exact hX.nd) (by rw [hX.N]; exact i1) (by rw [hX.sc]; exact hl) sw (h0 m) bo (fun s H A cl fp => h1 _ (hX.blk scope s H A cl fp) (hk.blk scope s H A cl fp) m) (fun s H A cl fp => h2 _ (hX.blk scope s H A cl fp) (hk.blk scope s H A cl fp) m) (fun s H A cl fp => h3 _ (hX.blk scope s H A cl fp) (hk.blk scope s H A cl fp) m) hs) ?_
    rintro Dn σ H ⟨r, h, env, rel, er, P⟩
    refine lc_read hX hD ht σ H _ ⟨r, h, env, rel, er, (PostG.bind (R := RVal G) P).imp fun v H1 ⟨r1, h1, w, rel1, s1, q1, P1⟩ => ?_⟩
    exact keep_nm (r := r) (h := h) (H := H) rel1 (er.step hD rel s1) q1 P1
theorem os_setDc (hX : XOk G C X) (hD : DOk D) (hk : KSv X G K) {kx vx tg iter : Expr} {scope : Scope} {own : List (Str × Nat)} {pos py spos : Pos} {x x2 : RP.E} {t : T} {it : I} {y : Str} {i : Nat} (hi : C.tslot y = some i) (hl : C.sc.names.lookup y = some .local)
    (sw : swapsWith (.DictComp kx vx [⟨tg, iter, [], 0⟩] scope pos) (some (.Name y py)) spos.line X.env = pure true) (hb : blkC C.N C.sc scope own = true) (hs : ∀ v, foldedSetIterable iter X.env v = pure v) (ht : ∀ i ∈ tsl t, i ∈ own.map (·.2))
    (h0 : OI X G D E K tg iter it) (h1 : ∀ X', XOk G (C.inner scope) X' → KSv X' G K → OG X' G D0 E0 K tg t) (h2 : ∀ X', XOk G (C.inner scope) X' → KSv X' G K → OE X' G D0 E0 K kx x) (h3 : ∀ X', XOk G (C.inner scope) X' → KSv X' G K → OE X' G D0 E0 K vx x2) :
    OS X G D E K (.Assign [.Name y py] (.DictComp kx vx [⟨tg, iter, [], 0⟩] scope pos) spos) (.asg (.nm i) (.dc x x2 t it (own.map (·.2)))) := os_of fun m => by
  cases m with
  | zero => exact PS.imp ps_no fun Dn σ H ⟨r, h, env, rel, er, P⟩ => (show False from P)
  | succ m =>
    have bo : BlkOk X.N X.env.scope scope own := by rw [hX.N, hX.sc]; exact blkOk_by hb
    obtain ⟨i1, i2, i3⟩ := tslot_is hi
    refine PS.imp (ps_keepDc hX.calm (by rw [hX.N]; exact hX.nd) (by rw [hX.N]; exact i1) (by rw [hX.sc]; exact hl) sw (h0 m) bo (fun s H A cl fp => h1 _ (hX.blk scope s H A cl fp) (hk.blk scope s H A cl fp) m) (fun s H A cl fp => pts_nil) (fun s H A cl fp => h2 _ (hX.blk scope s H A cl fp) (hk.blk scope s H A cl fp) m) (fun s H A cl fp => h3 _ (hX.blk scope s H A cl fp) (hk.blk scope s H A cl fp) m) hs) ?_
    rintro Dn σ H ⟨r, h, env, rel, er, P⟩
    refine dc_read hX hD ht σ H _ ⟨r, h, env, rel, er, (PostG.bind (R := RVal G) P).imp fun v H1 ⟨r1, h1, w, rel1, s1, q1, P1⟩ => ?_⟩
    exact keep_nm (r := r) (h := h) (H := H) rel1 (er.step hD rel s1) q1 P1
/-! ### raise -/
/-- what the __init__ of such a class promises -/
def spKeep (C : Addr) (f : Str) : Sp := fun vs H Q _ => ∃ a y, vs = [.ref a, y] ∧ H a = some (exo a C none) ∧ ∀ dx, H dx = none → dx ≠ a → Q .non (upd (upd H dx (exd dx [(f, y)])) a (exo a C (some dx)))
/-- a class of exceptions whose __init__ keeps its one argument -/
structure XcOk (G : Gd) (c : Nat) : Prop where
  T : OexC G.K (G.C c)
  ini : ∃ (fI : Addr) (nm qual self p f : Str) (as : List Arg) (scope : Scope) (kV doc pm cdv ct oc : Value) (an od : Option Addr) (osl : Array (Option Value)) (p1 p2 p3 pos : Pos),
    PySem.W.findIn G.K (.ref (G.C c)) "__init__" = some (some (.ref fI)) ∧ PySem.W.typeIn G.K (.ref fI) = some (.type "function") ∧
    G.K.lookup fI = some ⟨oc, od, .func (PySem.W.fnOf nm qual ⟨[], as, none, [], [], none, []⟩ [.Assign [.Attribute (.Name self p1) f p2] (.Name p p3) pos] scope .none kV doc pm an cdv ct), osl⟩ ∧ PySem.W.codeIn G.K cdv qual = true ∧
    as.map (·.arg) = [self, p] ∧ C8.scC [self, p] [self, p] scope = true ∧ PySem.W.findIn G.K (.ref (G.C c)) f = some none ∧
    ([self, p].all fun x => !(x == ("__debug__" : Str)) && !(x == ("__classdict__" : Str))) = true
theorem keep_fn {P : Program} {w : World} {mg : Str → Option Value} {base : Heap} {CX : CXT} {c k : Nat} (x : XcOk G c) : ∃ fI f fd, PySem.W.findIn G.K (.ref (G.C c)) "__init__" = some (some (.ref fI)) ∧ PySem.W.typeIn G.K (.ref fI) = some (.type "function") ∧
    ∃ self p, FnOk P w G.K mg base CX (k + 1) fI fd [self, p] (spKeep (G.C c) f) ∧ Binds G.K fd [self, p] [] := by
  obtain ⟨fI, nm, qual, self, p, f, as, scope, kV, doc, pm, cdv, ct, oc, an, od, osl, p1, p2, p3, pos, e1, e2, lk, hcd, ea, sc, ef, dn⟩ := x.ini
  have S := C8.fnScope_by sc
  have nd : ([self, p] : List Str).Nodup := S.nd
  simp only [List.all_cons, List.all_nil, Bool.and_eq_true, Bool.and_true, Bool.not_eq_true'] at dn
  have vis : ∀ y ∈ [self, p], Vis scope y := fun y hy => (S.par y hy).elim (fun z => .inl z) fun z => .inr (.inl z)
  refine ⟨fI, f, _, e1, e2, self, p, fn_of lk hcd S (fun vs H Q E ⟨a, y, hv, _⟩ => by rw [hv]; rfl) fun A outer s H vs Q E hr ⟨a, y, hv, ha, q⟩ => ?_, .all fun us hl => ?_⟩
  · subst hv
    refine ⟨_, pss_cons (ps_ost (pe_var (i := 0) rfl (vis self (by simp)) dn.1.1 dn.1.2) (pe_var (i := 1) rfl (vis p (by simp)) dn.2.1 dn.2.2)) pss_nil, ?_⟩
    exact ⟨y, rfl, .ref a, rfl, a, G.C c, rfl, x.T, ef, .inl ⟨ha, q⟩⟩
  · rw [← ea]
    exact bind_plain rfl rfl (by rw [ea]; exact nd) (by rw [← List.length_map (f := fun x : Arg => x.arg), ea]; exact hl)
/-- what is raised here is taken by E -/
def TakE (X : Cx) (E : XK) : Prop := Takes X fun c d _ H => E c d H
theorem os_rais (hX : XOk G C X) (hG : GOk G) (hD : DOk D) (tk : TakE X E) (hr : Room 2 X.A) (hxc : ∀ c, (excI G.p c).isSome = true → XcOk G c) {n : Str} {c : Nat} {e : Expr} {x : RP.E} {p1 p2 pos : Pos} (hc : C.glob n = some (.cls c)) (hs : noStar e = true) (hx : ∀ a, x ≠ .star a) (h1 : OE X G D E K e x) :
    OS X G D E K (.Raise (some (.Call (.Name n p1) [e] [] p2)) none pos) (.rais c [x]) := os_of fun m => by
  cases g : excI G.p c with
  | none =>
    exact PS.imp ps_no fun Dn σ H ⟨r, h, env, rel, er, P⟩ => by
      replace P : PostG G (ROut G D) E r h H (endsOf Dn) (match excI G.p c with
        | some _ => (evEs G.p K m [x] env h).bind fun ws h => (match ws with
          | [w] => .ex c [("", w)] h
          | _ => .no)
        | none => .no) := P
      rw [g] at P
      exact P
  | some f0 =>
    have xc := hxc c (by rw [g]; rfl)
    obtain ⟨fI, f, fd, i1, i2, self, p, F, B⟩ := keep_fn (P := G.P) (w := G.w) (mg := G.mg) (base := G.base) (CX := fun _ _ _ _ _ _ => False) (k := 0) xc
    obtain ⟨g1, g2, g3⟩ := glob_is hX hc
    have h2 : OEs X G D E K [e] [x] := oes_cons hD hs hx h1 oes_nil
    have T' : OexC X.K (G.C c) := by rw [hX.K]; exact xc.T
    have i1' : PySem.W.findIn X.K (.ref (G.C c)) "__init__" = some (some (.ref fI)) := by rw [hX.K]; exact i1
    have i2' : PySem.W.typeIn X.K (.ref fI) = some (.type "function") := by rw [hX.K]; exact i2
    have F' : FnOk X.prog X.w X.K X.mg X.base (fun _ _ _ _ _ _ => False) 1 fI fd [self, p] (spKeep (G.C c) f) := by rw [hX.K, hX.prog, hX.w, hX.mg, hX.base]; exact F
    have B' : Binds X.K fd [self, p] [] := by rw [hX.K]; exact B
    have m' : X.mg n = some (.ref (G.C c)) := by rw [hX.mg]; exact hG.cls n c g3
    have he : starEach [e] X.env = (false, eval e X.env) :: starEach [] X.env := star_ne hs
    have hpl : (backTo p2 (starEach [] X.env)).any (·.1) = false := rfl
    have hmk : PMk X (.Call (.Name n p1) [e] [] p2) (tMkO (G.C c) (spKeep (G.C c) f) [] (tEs G D E (evEs G.p K m [x]))) :=
      pmk_oex (k := 1) T' i1' i2' F' hr B' .nil (fun _ _ _ _ _ _ _ z => z.elim) g1 m' (h2 m) g2 he hpl
    have hp := ps_raise (W := fun c d _ H => E c d H) (pos := pos) hX.calm tk hmk
    refine PS.imp hp ?_
    rintro Dn σ H ⟨r, h, env, rel, er, P⟩
    replace P : PostG G (ROut G D) E r h H (endsOf Dn) (match excI G.p c with
        | some _ => (evEs G.p K m [x] env h).bind fun ws h => (match ws with
          | [w] => .ex c [("", w)] h
          | _ => .no)
        | none => .no) := P
    rw [g] at P
    refine ⟨r, h, env, rel, er, (PostG.bind (R := RVals G) P).imp fun vs H1 ⟨r1, h1, ws, rel1, s1, q1, P1⟩ => ?_⟩
    cases q1 with
    | nil => exact (show False from P1).elim
    | @cons v w vs ws q qs =>
      cases qs with
      | cons _ _ => exact (show False from P1).elim
      | nil =>
        replace P1 : PostG G (ROut G D) E r1 h1 H1 (endsOf Dn) (.ex c [("", w)] h1) := P1
        refine ⟨Nat.le_of_ble_eq_true rfl, fun a ha => ⟨a, v, rfl, upd_same, fun dx hdx ne => ?_⟩⟩
        have hd : H1 dx = none := by rw [upd_ne ne] at hdx; exact hdx
        have eH : upd (del (upd (upd (upd H1 a (exo a (G.C c) none)) dx (exd dx [(f, v)])) a (exo a (G.C c) (some dx))) a) dx (.xd [(f, v)]) = upd H1 dx (.xd [(f, v)]) := by
          funext b
          by_cases hb : b = dx
          · rw [hb, upd_same, upd_same]
          · rw [upd_ne hb, upd_ne hb]
            by_cases hba : b = a
            · rw [hba, del_same, ha]
            · rw [del_ne hba, upd_ne hba, upd_ne hb, upd_ne hba]
        refine ⟨rfl, dx, [(f, v)], upd_same, by rw [upd_ne ne, upd_same], hd, ?_⟩
        rw [eH]
        exact P1 dx _ r1 (rel1.ext hd) (Step.ext rel1 hd)
end
end RP

set_option Elab.async false
set_option linter.all false
set_option maxRecDepth 100000
set_option maxHeartbeats 400000
/-! RP30: try. -/
namespace RP
open PySem PySem.Spec PyProof.Rows L2

section
variable {X : Cx} {G : Gd} {C : Cc} {D : DK} {E : XK} {K : Orc}
theorem cx_no {P : Program} {w : World} {l : List PySem.Env} {H : Hp} {s : Shared} {e : Value} {s' : Shared} : ¬ L2.CX P w l H s (fun _ _ _ => False) e s' := fun ⟨_, _, _, _, _, _, _, _, _, _, _, _, z⟩ => z
theorem KSv.kok (h : KSv X G K) (tk : TakE X E) : KOk X G E K := by
  obtain ⟨k, hr, F, _⟩ := h.ok
  exact ⟨L2.CX X.prog X.w, k, hr, passes_call tk fun _ _ _ _ z => z, fun _ _ _ _ _ => cx_no, F⟩
/-- a running frame of a def -/
structure FrOk (X : Cx) : Prop where
  stk : X.stack = X.env :: X.outer
  fr : X.env.frame = some X.env.locals
  own : PassesOwn (model X.prog X.w) X.A X.env X.xe
  room : Room 2 X.A
theorem XOk.tr (hX : XOk G C X) (pn : List (Addr × Obj)) (xe : Value → Shared → Prop) : XOk G C (X.tr pn xe) :=
  ⟨hX.prog, hX.w, hX.K, hX.mg, hX.base, hX.N, hX.sc, hX.nd, hX.gl, hX.calm, hX.units, hX.fn⟩
theorem KSv.tr (h : KSv X G K) (pn : List (Addr × Obj)) (xe : Value → Shared → Prop) : KSv (X.tr pn xe) G K := ⟨h.ok⟩
/-- an exception's class and a clause's -/
def ExmOk (G : Gd) : Prop := ∀ d c b, exQ G.p d c = some b → PySem.W.exmOne G.K (.ref (G.C d)) (.ref (G.C c)) = some b
theorem os_try (hX : XOk G C X) (hG : GOk G) (hk : KSv X G K) (tk : TakE X E) (fr : FrOk X) (hm : ExmOk G) {e : Expr} {x : RP.E} {n : Str} {c : Nat} {b1 b2 : Bool} {k1 k2 : Nat} {p0 p1 p2 p3 p4 p5 p6 pos : Pos} (hc : C.glob n = some (.cls c)) (he : ∀ env : PySem.Env, swapsWith e none p0.line env = pure false)
    (h1 : ∀ pn xe E', TakE (X.tr pn xe) E' → OE (X.tr pn xe) G D E' K e x) :
    OS X G D E K (.Try [.Expr e p0, .Return (some (.Constant (.bool b1) k1 p1)) p2] [.ExceptHandler (some (.Name n p3)) none [.Return (some (.Constant (.bool b2) k2 p4)) p5] p6] [] [] pos) (.tryb x b1 c b2) := os_of fun m => by
  obtain ⟨g1, g2, g3⟩ := glob_is hX hc
  have hn : Names X n (.ref (G.C c)) := ⟨g1, g2, .inl (by rw [hX.mg]; exact hG.cls n c g3)⟩
  refine PS.imp (ps_try_only (tb := fun W Dn σ H => ∃ E' : XK, (∀ c d σ H, E' c d H → W c d σ H) ∧ tE G D E' (evE G.p K m x) σ H fun _ H1 => Dn.rt (.bl b1) H1) (ts := fun _ _ _ Dn σ H => Dn.rt (.bl b2) H) fr.stk fr.fr hn tk (fun W pn xe tw po => ⟨fun pins s σ H Dn I ⟨E', hE, t⟩ => ?_⟩) fun a oe cls d pn _ _ => ⟨fun pins s σ H Dn I t => (pss_cons (ps_ret (pe_bl (b := b2))) pss_nil).run pins s σ H Dn I t⟩) ?_
  · have hp := h1 pn xe E' (tw.imp fun c d σ H z => hE c d σ H z) m
    exact (pss_cons (ps_expr hp (he _)) (pss_cons (ps_ret (pe_bl (b := b1))) pss_nil)).run pins s σ H Dn I t
  · rintro Dn σ H ⟨r, h, env, rel, er, P⟩
    replace P : PostG G (ROut G D) E r h H (endsOf Dn) (match evE G.p K m x env h with
      | .ok _ h => .ok (.rt (.bl b1)) h
      | .ex d fs h => (match exQ G.p d c with
        | some true => .ok (.rt (.bl b2)) h
        | some false => .ex d fs h
        | none => .no)
      | .no => .no) := P
    refine ⟨fun cls d H' => ∃ b, PySem.W.exmOne X.K cls (.ref (G.C c)) = some b ∧ (b = true → Dn.rt (.bl b2) H') ∧ (b = false → E cls d H'), fun cls d σ' H' ⟨b, z1, z2, z3⟩ => ⟨b, z1, fun zb a ha => z2 zb, z3⟩, r, h, env, rel, er, ?_⟩
    cases g : evE G.p K m x env h with
    | ok w h' =>
      rw [g] at P
      exact fun v H' r' rel' st q => P (OutB.rt (.bl b1)) H' r' rel' st rfl
    | no => rw [g] at P; exact P
    | ex d fs h' =>
      rw [g] at P
      simp only at P
      cases q : exQ G.p d c with
      | none => rw [q] at P; exact P.elim
      | some b =>
        rw [q] at P
        intro dd H' r' rel' st
        refine ⟨b, by rw [hX.K]; exact hm d c b q, fun zb => ?_, fun zb => ?_⟩
        · subst zb; exact P (OutB.rt (.bl b2)) H' r' rel' st rfl
        · subst zb; exact P dd H' r' rel' st
end
end RP

set_option Elab.async false
set_option linter.all false
set_option maxRecDepth 100000
set_option maxHeartbeats 400000
/-! RP31: zip of two, each a list or a tuple. -/
namespace RP
open PySem PySem.Spec PyProof.Rows L2

/-- the sequences at a and b as they stand at each turn, the items in new pairs -/
def ItzB (ka kb : Bool) (K : PySem.W.Frag) (a b : Addr) : It :=
  ⟨fun i H => ∃ (xs ys : List V) (x y : V), SqB ka K H a xs ∧ SqB kb K H b ys ∧ xs[i]? = some x ∧ ys[i]? = some y,
    fun i H v H' => ∃ T x y, v = .ref T ∧ H T = none ∧ H' = upd H T (.tup [x, y]) ∧ (∀ xs, SqB ka K H a xs → xs[i]? = some x) ∧ ∀ ys, SqB kb K H b ys → ys[i]? = some y,
    fun i H => ∃ xs ys : List V, SqB ka K H a xs ∧ SqB kb K H b ys ∧ i ≤ xs.length ∧ i ≤ ys.length ∧ (i = xs.length ∨ i = ys.length)⟩
theorem iterB_ext {k : Bool} {h h' : Heap} {it a : Addr} {i : Nat} {x : Addr} (st : IterB k h it a i) (sb : Heap.SameBut x h h') (n : it ≠ x) : IterB k h' it a i := iterB_at st fun o q => (sb.2 it n).trans q
theorem turn_zipB {P : Program} {w : World} {K : PySem.W.Frag} {elts : List Expr} {kk : Nat} {tpos : Pos} (ka kb : Bool) {a b z TI TO i1 i2 : Addr} (S : ZipSep2 z TI TO i1 i2 [i1, a] [i2, b]) :
    Turn P w K (.Tuple elts kk tpos) (ItzB ka kb K a b) [z, TI, TO, i1, i2] z (fun i h => IsZip h z TI TO .none ∧ IsTupOf2 h TI (.ref i1) (.ref i2) ∧ (∃ x y, IsTupOf2 h TO x y) ∧ IterB ka h i1 a i ∧ IterB kb h i2 b i) where
  mem := by simp
  obj := fun i h st c hc => by
    obtain ⟨hz, hTI, ⟨x, y, hTO⟩, s1, s2⟩ := st
    have e' : c = z ∨ c = TI ∨ c = TO ∨ c = i1 ∨ c = i2 := by simpa using hc
    rcases e' with q | q | q | q | q
    · rw [q]; exact ⟨_, hz, fun v q => nomatch q⟩
    · rw [q]; exact ⟨_, hTI, fun v q => nomatch q⟩
    · rw [q]; exact ⟨_, hTO, fun v q => nomatch q⟩
    · rw [q]; exact iterB_obj s1
    · rw [q]; exact iterB_obj s2
  keep := fun i h h' st k => by
    obtain ⟨hz, hTI, ⟨x, y, hTO⟩, s1, s2⟩ := st
    exact ⟨k z (by simp) _ hz, k TI (by simp) _ hTI, ⟨x, y, k TO (by simp) _ hTO⟩, iterB_at s1 fun o q => k i1 (by simp) o q, iterB_at s2 fun o q => k i2 (by simp) o q⟩
  item := by
    intro X hP hw hK hc i pins s σ H E I hf st hg
    subst hP hw hK
    obtain ⟨hz, hTI, ⟨x0, y0, hTO⟩, s1, s2⟩ := st
    obtain ⟨xs, ys, x, y, hqx, hqy, hx, hy⟩ := hg
    obtain ⟨its, rv, p⟩ := invB I hqx
    obtain ⟨its2, rv2, p2⟩ := invB I hqy
    obtain ⟨u, hu, ru⟩ := rv.get hx
    obtain ⟨u2, hu2, ru2⟩ := rv2.get hy
    have hzl : z < s.heap.objs.size := Heap.lt_size hz
    have l1 : i < its.toArray.size := by simpa using (List.getElem?_eq_some_iff.mp hu).1
    have l2 : i < its2.toArray.size := by simpa using (List.getElem?_eq_some_iff.mp hu2).1
    refine wpAny_pyNext_zipD2_item S (drawsB (A := X.A.in1) (I.ok.hd hc) ka i1 a (iterB_ne p s1) its.toArray) (drawsB (A := X.A.in1) (I.ok.hd hc) kb i2 b (iterB_ne p2 s2) its2.toArray) hz hTI hTO ⟨s1, p⟩ ⟨s2, p2⟩ l1 l2 fun y1 y2 h' tk e1 e2 z' TO' ⟨s1', _⟩ ⟨s2', _⟩ hT hsz hk => ?_
    have q1 : y1 = u := by
      have e : its[i]? = some y1 := by simpa using e1
      rw [hu] at e; cases e; rfl
    have q2 : y2 = u2 := by
      have e : its2[i]? = some y2 := by simpa using e2
      rw [hu2] at e; cases e; rfl
    subst q1 q2
    refine ⟨_, rfl, wpAny_letOwnedTupleGo_zip (s := { s with heap := h', toks := tk }) z' fun h'' z'' sb => ?_⟩
    have hT2 : h''.get? s.heap.objs.size = some { cls := .type "tuple", data := .seq #[y1, y2] } := (sb.2 _ (Nat.ne_of_gt hzl)).trans hT
    have new : ObjOk X.prog X.w (upd H s.heap.objs.size (.tup [x, y])) h'' s.heap.objs.size (.tup [x, y]) :=
      ⟨by show 2 ≤ sizeLine; decide, [y1, y2], .cons ru (.cons ru2 .nil), ⟨_, hT2, rfl, _, rfl⟩⟩
    have I1 : Inv X pins σ (upd H s.heap.objs.size (.tup [x, y])) { s with heap := h'', toks := tk } :=
      I.turnedNew (t' := tk) (ch := [z, TI, TO, i1, i2]) (fun c o hb q => (sb.2 c (fun q' => hb (by simp [q']))).trans (hk c o (fun q' => hb (by simp [q'])) (fun q' => hb (by simp [q'])) (fun q' => hb (by simp [q'])) (fun q' => hb (by simp [q'])) q)) hf (Nat.le_refl _) new
    refine ⟨.ref s.heap.objs.size, _, I1, rfl, ⟨_, x, y, rfl, I.hok.fresh (Nat.le_refl _), rfl, fun l hl => by rw [injB I hl hqx]; exact hx, fun l hl => by rw [injB I hl hqy]; exact hy⟩, ⟨z'', ?_, ⟨y1, y2, ?_⟩, ?_, ?_⟩, fun c hcm => ?_⟩
    · exact (sb.2 _ S.TIz).trans (hk _ _ S.TIz S.TITO S.TIi1 S.TIi2 hTI)
    · exact (sb.2 _ S.TOz).trans TO'
    · exact iterB_ext s1' sb (Ne.symm S.zi1)
    · exact iterB_ext s2' sb (Ne.symm S.zi2)
    · have hlt : c < s.heap.objs.size := by
        have e' : c = z ∨ c = TI ∨ c = TO ∨ c = i1 ∨ c = i2 := by simpa using hcm
        rcases e' with q | q | q | q | q
        · rw [q]; exact hzl
        · rw [q]; exact Heap.lt_size hTI
        · rw [q]; exact Heap.lt_size hTO
        · rw [q]; obtain ⟨_, e1, _⟩ := iterB_obj s1; exact Heap.lt_size e1
        · rw [q]; obtain ⟨_, e2, _⟩ := iterB_obj s2; exact Heap.lt_size e2
      rw [upd_ne (Nat.ne_of_lt hlt)]
      exact (hf c hcm).1
  done := by
    intro X hP hw hK hc i pins s σ H E I hf st hg
    subst hP hw hK
    obtain ⟨hz, hTI, ⟨x0, y0, hTO⟩, s1, s2⟩ := st
    obtain ⟨xs, ys, hqx, hqy, hl1, hl2, hend⟩ := hg
    obtain ⟨its, rv, p⟩ := invB I hqx
    obtain ⟨its2, rv2, p2⟩ := invB I hqy
    have n1 : its.toArray.size = xs.length := by rw [List.size_toArray]; exact rv.length.symm
    have n2 : its2.toArray.size = ys.length := by rw [List.size_toArray]; exact rv2.length.symm
    exact wpAny_pyNext_zipD2_end S (drawsB (A := X.A.in1) (I.ok.hd hc) ka i1 a (iterB_ne p s1) its.toArray) (drawsB (A := X.A.in1) (I.ok.hd hc) kb i2 b (iterB_ne p2 s2) its2.toArray) hz hTI hTO ⟨s1, p⟩ ⟨s2, p2⟩ (by rw [n1]; exact hl1) (by rw [n2]; exact hl2) (by rw [n1, n2]; exact hend)
      fun h' tk hk => ⟨rfl, I.turnedL (t' := tk) (ch := [z, TI, TO, i1, i2]) (fun c o hb q => hk c o (fun q' => hb (by simp [q'])) (fun q' => hb (by simp [q'])) (fun q' => hb (by simp [q'])) (fun q' => hb (by simp [q'])) q) hf⟩
  self := fun A i s Q E st h => wpAny_pyIter_zip st.1 h
/-- where a sequence stands -/
theorem isB_lt {k : Bool} {h : Heap} {a : Addr} {its : Array Value} (p : IsB k h a its) : a < h.objs.size := by
  cases k with
  | true => obtain ⟨o, e, _⟩ := (show h.IsList a its from p); exact Heap.lt_size e
  | false => obtain ⟨o, e, _⟩ := (show h.IsTuple a its from p); exact Heap.lt_size e
theorem one_lt {a n : Nat} (h : a < n) : ∀ b ∈ [a], b < n := fun b hb => by rw [List.mem_singleton.mp hb]; exact h
def iZipB (K : PySem.W.Frag) (ta : TA) : TI := fun σ H R => ta σ H fun vs H1 => ∃ ka kb a b xs ys, vs = [.ref a, .ref b] ∧ SqB ka K H1 a xs ∧ SqB kb K H1 b ys ∧ R (ItzB ka kb K a b) H1
theorem pi_zipB {X : Cx} {e e2 : Expr} {ta : TA} {p pos tpos : Pos} {elts : List Expr} {kk : Nat} (hg : Gl X "zip") (hm : X.mg "zip" = none) (ha : PA X [e, e2] ta)
    (hs : starEach [e, e2] X.env = (false, eval e X.env) :: starEach [e2] X.env) (hpl : (backTo pos (starEach [e2] X.env)).any (·.1) = false) :
    PI X (.Tuple elts kk tpos) (.Call (.Name "zip" p) [e, e2] [] pos) (iZipB X.K ta) := by
  refine ⟨fun pins s σ H R I h => ?_⟩
  refine Call_ (ld_blt I hg hm PyProof.Rows.boot_zip (PyProof.Rows.callWith_type1 (thn (ha.run pos pins s σ H _ I h) fun us s1 ⟨vs, H1, I1, r1, q1⟩ => ?_) hs hpl))
  obtain ⟨ka, kb, a, b, xs, ys, ex, hqx, hqy, q⟩ := q1
  subst ex
  cases r1 with
  | cons r rr =>
    cases rr with
    | cons r' rr =>
      cases rr
      cases r
      cases r'
      obtain ⟨its, rv, p1⟩ := invB I1 hqx
      obtain ⟨its2, rv2, p2⟩ := invB I1 hqy
      refine zip_begins2 (beginsB ka a its.toArray) (beginsB kb b its2.toArray) p1 p2 fun h' hz hTI hTO h1 h2 hsz hk => wpAny_pyIter_zip hz ?_
      have I2 : L2.Inv X pins σ H1 { s1 with heap := h' } := I1.kept (t' := s1.toks) hk
      refine ⟨s1.heap.objs.size + 4, [s1.heap.objs.size + 4, s1.heap.objs.size + 2, s1.heap.objs.size + 3, s1.heap.objs.size, s1.heap.objs.size + 1], _, _, H1, rfl, I2, turn_zipB ka kb (zip_sep2 (one_lt (isB_lt p1)) (one_lt (isB_lt p2))), ⟨hz, hTI, ⟨_, _, hTO⟩, iterB_new h1, iterB_new h2⟩, fun c hcm => ?_, q⟩
      have e' : c = s1.heap.objs.size + 4 ∨ c = s1.heap.objs.size + 2 ∨ c = s1.heap.objs.size + 3 ∨ c = s1.heap.objs.size ∨ c = s1.heap.objs.size + 1 := by simpa using hcm
      have hle : s1.heap.objs.size ≤ c := by
        rcases e' with z | z | z | z | z <;> rw [z] <;> first | exact Nat.le_refl _ | exact Nat.le_add_right _ _
      exact I1.fpOk hle (I1.hok.fresh hle)
section
variable {G : Gd} {r : List Addr} {h : Hv} {H : Hp}
theorem nxt_zp {w u : W} {k l : Bool} {i : Nat} {h : Hv} : (nxt (.zp w k u l) i h = .stop → ∃ ws us, seqK h w k = some ws ∧ seqK h u l = some us ∧ i ≤ ws.length ∧ i ≤ us.length ∧ (i = ws.length ∨ i = us.length)) ∧ (∀ x h', nxt (.zp w k u l) i h = .item x h' → ∃ ws us y y2, seqK h w k = some ws ∧ seqK h u l = some us ∧ ws[i]? = some y ∧ us[i]? = some y2 ∧ x = .ref h.n ∧ h' = h.push (.tup [y, y2])) := by
  have e : nxt (.zp w k u l) i h = (match seqK h w k, seqK h u l with
    | some xs, some ys => if i ≤ xs.length ∧ i ≤ ys.length then (match xs[i]?, ys[i]? with
      | some x, some y => .item (.ref h.n) (h.push (.tup [x, y]))
      | _, _ => .stop) else .bad
    | _, _ => .bad) := rfl
  cases g : seqK h w k with
  | none => rw [g] at e; exact ⟨fun z => (by rw [e] at z; cases z), fun x h' z => by rw [e] at z; cases z⟩
  | some ws =>
    cases g' : seqK h u l with
    | none => rw [g, g'] at e; exact ⟨fun z => (by rw [e] at z; cases z), fun x h' z => by rw [e] at z; cases z⟩
    | some us =>
      rw [g, g'] at e
      simp only at e
      by_cases c : i ≤ ws.length ∧ i ≤ us.length
      · rw [if_pos c] at e
        cases g2 : ws[i]? with
        | none =>
          have l1 : ws.length ≤ i := List.getElem?_eq_none_iff.mp g2
          simp only [g2] at e
          exact ⟨fun z => ⟨ws, us, rfl, rfl, c.1, c.2, .inl (by omega)⟩, fun x h' z => by rw [e] at z; cases z⟩
        | some y =>
          cases g3 : us[i]? with
          | none =>
            have l1 : us.length ≤ i := List.getElem?_eq_none_iff.mp g3
            simp only [g2, g3] at e
            exact ⟨fun z => ⟨ws, us, rfl, rfl, c.1, c.2, .inr (by omega)⟩, fun x h' z => by rw [e] at z; cases z⟩
          | some y2 =>
            simp only [g2, g3] at e
            exact ⟨fun z => (by rw [e] at z; cases z), fun x h' z => by rw [e] at z; cases z; exact ⟨ws, us, y, y2, rfl, rfl, g2, g3, rfl, rfl⟩⟩
      · rw [if_neg c] at e
        exact ⟨fun z => (by rw [e] at z; cases z), fun x h' z => by rw [e] at z; cases z⟩
theorem itr_zpB {ka kb : Bool} {a b : Addr} {w u : W} (q : VW G r (.ref a) w) (q2 : VW G r (.ref b) u) : ItR G r (.zp w ka u kb) (ItzB ka kb G.K a b) where
  stop := fun r' h H i l rel e => by
    obtain ⟨ws, us, e1, e2, l1, l2, l3⟩ := nxt_zp.1 e
    obtain ⟨vs, s, p⟩ := seqK_at rel (q.mono l) e1
    obtain ⟨vs2, s2, p2⟩ := seqK_at rel (q2.mono l) e2
    exact ⟨vs, vs2, s, s2, by rw [pair_len p]; exact l1, by rw [pair_len p2]; exact l2, by rw [pair_len p, pair_len p2]; exact l3⟩
  go := fun r' h H i x h' l rel e => by
    obtain ⟨ws, us, y, y2, e1, e2, g1, g2, _, _⟩ := nxt_zp.2 x h' e
    obtain ⟨vs, s, p⟩ := seqK_at rel (q.mono l) e1
    obtain ⟨vs2, s2, p2⟩ := seqK_at rel (q2.mono l) e2
    obtain ⟨v, p3, _⟩ := pair_get p g1
    obtain ⟨v2, p4, _⟩ := pair_get p2 g2
    exact ⟨vs, vs2, v, v2, s, s2, p3, p4⟩
  yld := fun r' h H i x h' v H' l rel e y => by
    obtain ⟨ws, us, y1, y2, e1, e2, g1, g2, rfl, rfl⟩ := nxt_zp.2 x h' e
    obtain ⟨vs, s, p⟩ := seqK_at rel (q.mono l) e1
    obtain ⟨vs2, s2, p2⟩ := seqK_at rel (q2.mono l) e2
    obtain ⟨v1, p3, p5⟩ := pair_get p g1
    obtain ⟨v2, p4, p6⟩ := pair_get p2 g2
    obtain ⟨T, x0, x1, rfl, hT, rfl, f1, f2⟩ := y
    have z1 := f1 vs s
    have z2 := f2 vs2 s2
    rw [p3] at z1; cases z1
    rw [p4] at z2; cases z2
    exact made_tup rel hT (.cons p5 (.cons p6 .nil))
end
section
variable {X : Cx} {G : Gd} {C : Cc} {D : DK} {E : XK} {K : Orc}
theorem pa_two {X : Cx} {e e2 : Expr} {t t2 : TE} (h : PE X e t) (h2 : PE X e2 t2) (n1 : noStar e = true) (n2 : noStar e2 = true) : PA X [e, e2] (fun σ H Q => t σ H fun v H1 => t2 σ H1 fun u H2 => Q [v, u] H2) := pa_cons h (pa_cons h2 pa_nil (star_ne n2)) (star_ne n1)
/-- what a walked value is -/
theorem sq_of {r : List Addr} {h : Hv} {H : Hp} (rel : Rel G r h H) {v : V} {w : W} {ws : List W} (q : VW G r v w) (g : seqOf h w = some ws) : ∃ a vs, v = .ref a ∧ SqB (isLst h w) G.K H a vs := by
  obtain ⟨a, vs, e1, _, _, l1, l2⟩ := seq_at rel q g
  refine ⟨a, vs, e1, ?_⟩
  cases k : isLst h w with
  | true => exact l1 k
  | false => exact l2 k
theorem SqB.keep {k : Bool} {Kf : PySem.W.Frag} {a : Addr} {r r' : List Addr} {h h' : Hv} {H H' : Hp} {w : W} (rel' : Rel G r' h' H') (q : VW G r' (.ref a) w) {ws : List W} (g : seqOf h' w = some ws) : ∃ vs, SqB (isLst h' w) G.K H' a vs := by
  obtain ⟨a', vs, e, s⟩ := sq_of rel' q g
  cases e
  exact ⟨vs, s⟩
theorem oi_zp (hX : XOk G C X) (hG : GOk G) (hD : DOk D) {e e2 : Expr} {x y : RP.E} {p pos tpos : Pos} {elts : List Expr} {kk : Nat} (hb : C.blt "zip" = true) (n1 : noStar e = true) (n2 : noStar e2 = true) (h1 : OE X G D E K e x) (h2 : OE X G D E K e2 y) :
    OI X G D E K (.Tuple elts kk tpos) (.Call (.Name "zip" p) [e, e2] [] pos) (.zp x y) := oi_of fun m => by
  obtain ⟨hg, hm⟩ := blt_is hX hG hb (by decide)
  refine PI.imp (pi_zipB hg hm (pa_two (h1 m) (h2 m) n1 n2) (star_ne n1) (stars_no (es := [e2]) (by simp [n2])).1) ?_
  rintro σ H R ⟨r, h, env, rel, er, P⟩
  replace P : PostG G (fun r _ J iv => ItR G r iv J) E r h H R ((evE G.p K m x env h).bind fun x h => (evE G.p K m y env h).bind fun y h => (match seqOf h x, seqOf h y with
      | some _, some _ => .ok (.zp x (isLst h x) y (isLst h y)) h
      | _, _ => .no)) := P
  refine ⟨r, h, env, rel, er, P.bind.imp fun v H1 ⟨r1, h1, w, rel1, s1, q1, P1⟩ => ?_⟩
  refine ⟨r1, h1, env, rel1, er.step hD rel s1, P1.bind.imp fun u H2 ⟨r2, h2, w2, rel2, s2, q2, P2⟩ => ?_⟩
  have q1 := q1.mono s2.le
  cases g : seqOf h2 w with
  | none => rw [g] at P2; exact P2.elim
  | some ws =>
    cases g2 : seqOf h2 w2 with
    | none => rw [g, g2] at P2; exact P2.elim
    | some us =>
      rw [g, g2] at P2
      obtain ⟨a, vs, rfl, z1⟩ := sq_of rel2 q1 g
      obtain ⟨b, vs2, rfl, z2⟩ := sq_of rel2 q2 g2
      rw [hX.K]
      exact ⟨isLst h2 w, isLst h2 w2, a, b, vs, vs2, rfl, z1, z2, PostG.ok P2 rel2 (itr_zpB q1 q2)⟩
end
end RP

set_option Elab.async false
set_option linter.all false
set_option maxRecDepth 100000
set_option maxHeartbeats 400000
/-! RP32: zip of three, each a list or a tuple. -/
namespace RP
open PySem PySem.Spec PyProof.Rows L2

def ItzC (ka kb kc : Bool) (K : PySem.W.Frag) (a b c : Addr) : It :=
  ⟨fun i H => ∃ (xs ys zs : List V) (x y z : V), SqB ka K H a xs ∧ SqB kb K H b ys ∧ SqB kc K H c zs ∧ xs[i]? = some x ∧ ys[i]? = some y ∧ zs[i]? = some z,
    fun i H v H' => ∃ T x y z, v = .ref T ∧ H T = none ∧ H' = upd H T (.tup [x, y, z]) ∧ (∀ xs, SqB ka K H a xs → xs[i]? = some x) ∧ (∀ ys, SqB kb K H b ys → ys[i]? = some y) ∧ ∀ zs, SqB kc K H c zs → zs[i]? = some z,
    fun i H => ∃ xs ys zs : List V, SqB ka K H a xs ∧ SqB kb K H b ys ∧ SqB kc K H c zs ∧ i ≤ xs.length ∧ i ≤ ys.length ∧ i ≤ zs.length ∧ (i = xs.length ∨ i = ys.length ∨ i = zs.length)⟩
theorem turn_zipC {P : Program} {w : World} {K : PySem.W.Frag} {elts : List Expr} {kk : Nat} {tpos : Pos} (ka kb kc : Bool) {a b d z TI TO i1 i2 i3 : Addr} (S : ZipSep3 z TI TO i1 i2 i3 [i1, a] [i2, b] [i3, d]) :
    Turn P w K (.Tuple elts kk tpos) (ItzC ka kb kc K a b d) [z, TI, TO, i1, i2, i3] z (fun i h => IsZip h z TI TO .none ∧ IsTupOf3 h TI (.ref i1) (.ref i2) (.ref i3) ∧ (∃ x y u, IsTupOf3 h TO x y u) ∧ IterB ka h i1 a i ∧ IterB kb h i2 b i ∧ IterB kc h i3 d i) where
  mem := by simp
  obj := fun i h st c hc => by
    obtain ⟨hz, hTI, ⟨x, y, u, hTO⟩, s1, s2, s3⟩ := st
    have e' : c = z ∨ c = TI ∨ c = TO ∨ c = i1 ∨ c = i2 ∨ c = i3 := by simpa using hc
    rcases e' with q | q | q | q | q | q
    · rw [q]; exact ⟨_, hz, fun v q => nomatch q⟩
    · rw [q]; exact ⟨_, hTI, fun v q => nomatch q⟩
    · rw [q]; exact ⟨_, hTO, fun v q => nomatch q⟩
    · rw [q]; exact iterB_obj s1
    · rw [q]; exact iterB_obj s2
    · rw [q]; exact iterB_obj s3
  keep := fun i h h' st k => by
    obtain ⟨hz, hTI, ⟨x, y, u, hTO⟩, s1, s2, s3⟩ := st
    exact ⟨k z (by simp) _ hz, k TI (by simp) _ hTI, ⟨x, y, u, k TO (by simp) _ hTO⟩, iterB_at s1 fun o q => k i1 (by simp) o q, iterB_at s2 fun o q => k i2 (by simp) o q, iterB_at s3 fun o q => k i3 (by simp) o q⟩
  item := by
    intro X hP hw hK hc i pins s σ H E I hf st hg
    subst hP hw hK
    obtain ⟨hz, hTI, ⟨x0, y0, u0, hTO⟩, s1, s2, s3⟩ := st
    obtain ⟨xs, ys, zs, x, y, v, hqx, hqy, hqz, hx, hy, hv⟩ := hg
    obtain ⟨its, rv, p⟩ := invB I hqx
    obtain ⟨its2, rv2, p2⟩ := invB I hqy
    obtain ⟨its3, rv3, p3⟩ := invB I hqz
    obtain ⟨u, hu, ru⟩ := rv.get hx
    obtain ⟨u2, hu2, ru2⟩ := rv2.get hy
    obtain ⟨u3, hu3, ru3⟩ := rv3.get hv
    have hzl : z < s.heap.objs.size := Heap.lt_size hz
    have l1 : i < its.toArray.size := by simpa using (List.getElem?_eq_some_iff.mp hu).1
    have l2 : i < its2.toArray.size := by simpa using (List.getElem?_eq_some_iff.mp hu2).1
    have l3 : i < its3.toArray.size := by simpa using (List.getElem?_eq_some_iff.mp hu3).1
    refine wpAny_pyNext_zipD3_item S (drawsB (A := X.A.in1) (I.ok.hd hc) ka i1 a (iterB_ne p s1) its.toArray) (drawsB (A := X.A.in1) (I.ok.hd hc) kb i2 b (iterB_ne p2 s2) its2.toArray) (drawsB (A := X.A.in1) (I.ok.hd hc) kc i3 d (iterB_ne p3 s3) its3.toArray) hz hTI hTO ⟨s1, p⟩ ⟨s2, p2⟩ ⟨s3, p3⟩ l1 l2 l3 fun y1 y2 y3 h' tk e1 e2 e3 z' TO' ⟨s1', _⟩ ⟨s2', _⟩ ⟨s3', _⟩ hT hsz hk => ?_
    have q1 : y1 = u := by
      have e : its[i]? = some y1 := by simpa using e1
      rw [hu] at e; cases e; rfl
    have q2 : y2 = u2 := by
      have e : its2[i]? = some y2 := by simpa using e2
      rw [hu2] at e; cases e; rfl
    have q3 : y3 = u3 := by
      have e : its3[i]? = some y3 := by simpa using e3
      rw [hu3] at e; cases e; rfl
    subst q1 q2 q3
    refine ⟨_, rfl, wpAny_letOwnedTupleGo_zip (s := { s with heap := h', toks := tk }) z' fun h'' z'' sb => ?_⟩
    have hT2 : h''.get? s.heap.objs.size = some { cls := .type "tuple", data := .seq #[y1, y2, y3] } := (sb.2 _ (Nat.ne_of_gt hzl)).trans hT
    have new : ObjOk X.prog X.w (upd H s.heap.objs.size (.tup [x, y, v])) h'' s.heap.objs.size (.tup [x, y, v]) :=
      ⟨by show 3 ≤ sizeLine; decide, [y1, y2, y3], .cons ru (.cons ru2 (.cons ru3 .nil)), ⟨_, hT2, rfl, _, rfl⟩⟩
    have I1 : Inv X pins σ (upd H s.heap.objs.size (.tup [x, y, v])) { s with heap := h'', toks := tk } :=
      I.turnedNew (t' := tk) (ch := [z, TI, TO, i1, i2, i3]) (fun c o hb q => (sb.2 c (fun q' => hb (by simp [q']))).trans (hk c o (fun q' => hb (by simp [q'])) (fun q' => hb (by simp [q'])) (fun q' => hb (by simp [q'])) (fun q' => hb (by simp [q'])) (fun q' => hb (by simp [q'])) q)) hf (Nat.le_refl _) new
    refine ⟨.ref s.heap.objs.size, _, I1, rfl, ⟨_, x, y, v, rfl, I.hok.fresh (Nat.le_refl _), rfl, fun l hl => by rw [injB I hl hqx]; exact hx, fun l hl => by rw [injB I hl hqy]; exact hy, fun l hl => by rw [injB I hl hqz]; exact hv⟩, ⟨z'', ?_, ⟨y1, y2, y3, ?_⟩, ?_, ?_, ?_⟩, fun c hcm => ?_⟩
    · exact (sb.2 _ S.TIz).trans (hk _ _ S.TIz S.TITO S.TIi1 S.TIi2 S.TIi3 hTI)
    · exact (sb.2 _ S.TOz).trans TO'
    · exact iterB_ext s1' sb (Ne.symm S.zi1)
    · exact iterB_ext s2' sb (Ne.symm S.zi2)
    · exact iterB_ext s3' sb (Ne.symm S.zi3)
    · have hlt : c < s.heap.objs.size := by
        have e' : c = z ∨ c = TI ∨ c = TO ∨ c = i1 ∨ c = i2 ∨ c = i3 := by simpa using hcm
        rcases e' with q | q | q | q | q | q
        · rw [q]; exact hzl
        · rw [q]; exact Heap.lt_size hTI
        · rw [q]; exact Heap.lt_size hTO
        · rw [q]; obtain ⟨_, e1, _⟩ := iterB_obj s1; exact Heap.lt_size e1
        · rw [q]; obtain ⟨_, e2, _⟩ := iterB_obj s2; exact Heap.lt_size e2
        · rw [q]; obtain ⟨_, e3, _⟩ := iterB_obj s3; exact Heap.lt_size e3
      rw [upd_ne (Nat.ne_of_lt hlt)]
      exact (hf c hcm).1
  done := by
    intro X hP hw hK hc i pins s σ H E I hf st hg
    subst hP hw hK
    obtain ⟨hz, hTI, ⟨x0, y0, u0, hTO⟩, s1, s2, s3⟩ := st
    obtain ⟨xs, ys, zs, hqx, hqy, hqz, hl1, hl2, hl3, hend⟩ := hg
    obtain ⟨its, rv, p⟩ := invB I hqx
    obtain ⟨its2, rv2, p2⟩ := invB I hqy
    obtain ⟨its3, rv3, p3⟩ := invB I hqz
    have n1 : its.toArray.size = xs.length := by rw [List.size_toArray]; exact rv.length.symm
    have n2 : its2.toArray.size = ys.length := by rw [List.size_toArray]; exact rv2.length.symm
    have n3 : its3.toArray.size = zs.length := by rw [List.size_toArray]; exact rv3.length.symm
    exact wpAny_pyNext_zipD3_end S (drawsB (A := X.A.in1) (I.ok.hd hc) ka i1 a (iterB_ne p s1) its.toArray) (drawsB (A := X.A.in1) (I.ok.hd hc) kb i2 b (iterB_ne p2 s2) its2.toArray) (drawsB (A := X.A.in1) (I.ok.hd hc) kc i3 d (iterB_ne p3 s3) its3.toArray) hz hTI hTO ⟨s1, p⟩ ⟨s2, p2⟩ ⟨s3, p3⟩ (by rw [n1]; exact hl1) (by rw [n2]; exact hl2) (by rw [n3]; exact hl3) (by rw [n1, n2, n3]; exact hend)
      fun h' tk hk => ⟨rfl, I.turnedL (t' := tk) (ch := [z, TI, TO, i1, i2, i3]) (fun c o hb q => hk c o (fun q' => hb (by simp [q'])) (fun q' => hb (by simp [q'])) (fun q' => hb (by simp [q'])) (fun q' => hb (by simp [q'])) (fun q' => hb (by simp [q'])) q) hf⟩
  self := fun A i s Q E st h => wpAny_pyIter_zip st.1 h
def iZipC (K : PySem.W.Frag) (ta : TA) : TI := fun σ H R => ta σ H fun vs H1 => ∃ ka kb kc a b d xs ys zs, vs = [.ref a, .ref b, .ref d] ∧ SqB ka K H1 a xs ∧ SqB kb K H1 b ys ∧ SqB kc K H1 d zs ∧ R (ItzC ka kb kc K a b d) H1
theorem pi_zipC {X : Cx} {e e2 e3 : Expr} {ta : TA} {p pos tpos : Pos} {elts : List Expr} {kk : Nat} (hg : Gl X "zip") (hm : X.mg "zip" = none) (ha : PA X [e, e2, e3] ta)
    (hs : starEach [e, e2, e3] X.env = (false, eval e X.env) :: starEach [e2, e3] X.env) (hpl : (backTo pos (starEach [e2, e3] X.env)).any (·.1) = false) :
    PI X (.Tuple elts kk tpos) (.Call (.Name "zip" p) [e, e2, e3] [] pos) (iZipC X.K ta) := by
  refine ⟨fun pins s σ H R I h => ?_⟩
  refine Call_ (ld_blt I hg hm PyProof.Rows.boot_zip (PyProof.Rows.callWith_type1 (thn (ha.run pos pins s σ H _ I h) fun us s1 ⟨vs, H1, I1, r1, q1⟩ => ?_) hs hpl))
  obtain ⟨ka, kb, kc, a, b, d, xs, ys, zs, ex, hqx, hqy, hqz, q⟩ := q1
  subst ex
  cases r1 with
  | cons r rr =>
    cases rr with
    | cons r' rr =>
      cases rr with
      | cons r2 rr =>
        cases rr
        cases r
        cases r'
        cases r2
        obtain ⟨its, rv, p1⟩ := invB I1 hqx
        obtain ⟨its2, rv2, p2⟩ := invB I1 hqy
        obtain ⟨its3, rv3, p3⟩ := invB I1 hqz
        refine zip_begins3 (beginsB ka a its.toArray) (beginsB kb b its2.toArray) (beginsB kc d its3.toArray) p1 p2 p3 fun h' hz hTI hTO h1 h2 h3 hsz hk => wpAny_pyIter_zip hz ?_
        have I2 : L2.Inv X pins σ H1 { s1 with heap := h' } := I1.kept (t' := s1.toks) hk
        refine ⟨s1.heap.objs.size + 5, [s1.heap.objs.size + 5, s1.heap.objs.size + 3, s1.heap.objs.size + 4, s1.heap.objs.size, s1.heap.objs.size + 1, s1.heap.objs.size + 2], _, _, H1, rfl, I2, turn_zipC ka kb kc (zip_sep3 (one_lt (isB_lt p1)) (one_lt (isB_lt p2)) (one_lt (isB_lt p3))), ⟨hz, hTI, ⟨_, _, _, hTO⟩, iterB_new h1, iterB_new h2, iterB_new h3⟩, fun c hcm => ?_, q⟩
        have e' : c = s1.heap.objs.size + 5 ∨ c = s1.heap.objs.size + 3 ∨ c = s1.heap.objs.size + 4 ∨ c = s1.heap.objs.size ∨ c = s1.heap.objs.size + 1 ∨ c = s1.heap.objs.size + 2 := by simpa using hcm
        have hle : s1.heap.objs.size ≤ c := by
          rcases e' with z | z | z | z | z | z <;> rw [z] <;> first | exact Nat.le_refl _ | exact Nat.le_add_right _ _
        exact I1.fpOk hle (I1.hok.fresh hle)
section
variable {G : Gd} {r : List Addr} {h : Hv} {H : Hp}
theorem nxt_zp3 {w u v : W} {k l n : Bool} {i : Nat} {h : Hv} : (nxt (.zp3 w k u l v n) i h = .stop → ∃ ws us vs, seqK h w k = some ws ∧ seqK h u l = some us ∧ seqK h v n = some vs ∧ i ≤ ws.length ∧ i ≤ us.length ∧ i ≤ vs.length ∧ (i = ws.length ∨ i = us.length ∨ i = vs.length)) ∧
    (∀ x h', nxt (.zp3 w k u l v n) i h = .item x h' → ∃ ws us vs y y2 y3, seqK h w k = some ws ∧ seqK h u l = some us ∧ seqK h v n = some vs ∧ ws[i]? = some y ∧ us[i]? = some y2 ∧ vs[i]? = some y3 ∧ x = .ref h.n ∧ h' = h.push (.tup [y, y2, y3])) := by
  have e : nxt (.zp3 w k u l v n) i h = (match seqK h w k, seqK h u l, seqK h v n with
    | some xs, some ys, some zs => if i ≤ xs.length ∧ i ≤ ys.length ∧ i ≤ zs.length then (match xs[i]?, ys[i]?, zs[i]? with
      | some x, some y, some z => .item (.ref h.n) (h.push (.tup [x, y, z]))
      | _, _, _ => .stop) else .bad
    | _, _, _ => .bad) := rfl
  cases g : seqK h w k with
  | none => rw [g] at e; exact ⟨fun z => (by rw [e] at z; cases z), fun x h' z => by rw [e] at z; cases z⟩
  | some ws =>
    cases g' : seqK h u l with
    | none => rw [g, g'] at e; exact ⟨fun z => (by rw [e] at z; cases z), fun x h' z => by rw [e] at z; cases z⟩
    | some us =>
      cases g'' : seqK h v n with
      | none => rw [g, g', g''] at e; exact ⟨fun z => (by rw [e] at z; cases z), fun x h' z => by rw [e] at z; cases z⟩
      | some vs =>
        rw [g, g', g''] at e
        simp only at e
        by_cases c : i ≤ ws.length ∧ i ≤ us.length ∧ i ≤ vs.length
        · rw [if_pos c] at e
          obtain ⟨c1, c2, c3⟩ := c
          cases g2 : ws[i]? with
          | none =>
            have l1 : ws.length ≤ i := List.getElem?_eq_none_iff.mp g2
            simp only [g2] at e
            exact ⟨fun z => ⟨ws, us, vs, rfl, rfl, rfl, c1, c2, c3, .inl (by omega)⟩, fun x h' z => by rw [e] at z; cases z⟩
          | some y =>
            cases g3 : us[i]? with
            | none =>
              have l1 : us.length ≤ i := List.getElem?_eq_none_iff.mp g3
              simp only [g2, g3] at e
              exact ⟨fun z => ⟨ws, us, vs, rfl, rfl, rfl, c1, c2, c3, .inr (.inl (by omega))⟩, fun x h' z => by rw [e] at z; cases z⟩
            | some y2 =>
              cases g4 : vs[i]? with
              | none =>
                have l1 : vs.length ≤ i := List.getElem?_eq_none_iff.mp g4
                simp only [g2, g3, g4] at e
                exact ⟨fun z => ⟨ws, us, vs, rfl, rfl, rfl, c1, c2, c3, .inr (.inr (by omega))⟩, fun x h' z => by rw [e] at z; cases z⟩
              | some y3 =>
                simp only [g2, g3, g4] at e
                exact ⟨fun z => (by rw [e] at z; cases z), fun x h' z => by rw [e] at z; cases z; exact ⟨ws, us, vs, y, y2, y3, rfl, rfl, rfl, g2, g3, g4, rfl, rfl⟩⟩
        · rw [if_neg c] at e
          exact ⟨fun z => (by rw [e] at z; cases z), fun x h' z => by rw [e] at z; cases z⟩
theorem itr_zpC {ka kb kc : Bool} {a b d : Addr} {w u x2 : W} (q : VW G r (.ref a) w) (q2 : VW G r (.ref b) u) (q3 : VW G r (.ref d) x2) : ItR G r (.zp3 w ka u kb x2 kc) (ItzC ka kb kc G.K a b d) where
  stop := fun r' h H i l rel e => by
    obtain ⟨ws, us, ts, e1, e2, e3, l1, l2, l4, l3⟩ := nxt_zp3.1 e
    obtain ⟨vs, s, p⟩ := seqK_at rel (q.mono l) e1
    obtain ⟨vs2, s2, p2⟩ := seqK_at rel (q2.mono l) e2
    obtain ⟨vs3, s3, p3⟩ := seqK_at rel (q3.mono l) e3
    exact ⟨vs, vs2, vs3, s, s2, s3, by rw [pair_len p]; exact l1, by rw [pair_len p2]; exact l2, by rw [pair_len p3]; exact l4, by rw [pair_len p, pair_len p2, pair_len p3]; exact l3⟩
  go := fun r' h H i x h' l rel e => by
    obtain ⟨ws, us, ts, y, y2, y3, e1, e2, e3, g1, g2, g3, _, _⟩ := nxt_zp3.2 x h' e
    obtain ⟨vs, s, p⟩ := seqK_at rel (q.mono l) e1
    obtain ⟨vs2, s2, p2⟩ := seqK_at rel (q2.mono l) e2
    obtain ⟨vs3, s3, p3⟩ := seqK_at rel (q3.mono l) e3
    obtain ⟨v, p4, _⟩ := pair_get p g1
    obtain ⟨v2, p5, _⟩ := pair_get p2 g2
    obtain ⟨v3, p6, _⟩ := pair_get p3 g3
    exact ⟨vs, vs2, vs3, v, v2, v3, s, s2, s3, p4, p5, p6⟩
  yld := fun r' h H i x h' v H' l rel e y => by
    obtain ⟨ws, us, ts, y1, y2, y3, e1, e2, e3, g1, g2, g3, rfl, rfl⟩ := nxt_zp3.2 x h' e
    obtain ⟨vs, s, p⟩ := seqK_at rel (q.mono l) e1
    obtain ⟨vs2, s2, p2⟩ := seqK_at rel (q2.mono l) e2
    obtain ⟨vs3, s3, p3⟩ := seqK_at rel (q3.mono l) e3
    obtain ⟨v1, p4, m1⟩ := pair_get p g1
    obtain ⟨v2, p5, m2⟩ := pair_get p2 g2
    obtain ⟨v3, p6, m3⟩ := pair_get p3 g3
    obtain ⟨T, x0, x1, x3, rfl, hT, rfl, f1, f2, f3⟩ := y
    have z1 := f1 vs s
    have z2 := f2 vs2 s2
    have z3 := f3 vs3 s3
    rw [p4] at z1; cases z1
    rw [p5] at z2; cases z2
    rw [p6] at z3; cases z3
    exact made_tup rel hT (.cons m1 (.cons m2 (.cons m3 .nil)))
end
section
variable {X : Cx} {G : Gd} {C : Cc} {D : DK} {E : XK} {K : Orc}
theorem pa_three {X : Cx} {e e2 e3 : Expr} {t t2 t3 : TE} (h : PE X e t) (h2 : PE X e2 t2) (h3 : PE X e3 t3) (n1 : noStar e = true) (n2 : noStar e2 = true) (n3 : noStar e3 = true) : PA X [e, e2, e3] (fun σ H Q => t σ H fun v H1 => t2 σ H1 fun u H2 => t3 σ H2 fun z H3 => Q [v, u, z] H3) := pa_cons h (pa_cons h2 (pa_cons h3 pa_nil (star_ne n3)) (star_ne n2)) (star_ne n1)
theorem oi_zp3 (hX : XOk G C X) (hG : GOk G) (hD : DOk D) {e e2 e3 : Expr} {x y z : RP.E} {p pos tpos : Pos} {elts : List Expr} {kk : Nat} (hb : C.blt "zip" = true) (n1 : noStar e = true) (n2 : noStar e2 = true) (n3 : noStar e3 = true) (h1 : OE X G D E K e x) (h2 : OE X G D E K e2 y) (h3 : OE X G D E K e3 z) :
    OI X G D E K (.Tuple elts kk tpos) (.Call (.Name "zip" p) [e, e2, e3] [] pos) (.zp3 x y z) := oi_of fun m => by
  obtain ⟨hg, hm⟩ := blt_is hX hG hb (by decide)
  refine PI.imp (pi_zipC hg hm (pa_three (h1 m) (h2 m) (h3 m) n1 n2 n3) (star_ne n1) (stars_no (es := [e2, e3]) (by simp [n2, n3])).1) ?_
  rintro σ H R ⟨r, h, env, rel, er, P⟩
  replace P : PostG G (fun r _ J iv => ItR G r iv J) E r h H R ((evE G.p K m x env h).bind fun x h => (evE G.p K m y env h).bind fun y h => (evE G.p K m z env h).bind fun z h => (match seqOf h x, seqOf h y, seqOf h z with
      | some _, some _, some _ => .ok (.zp3 x (isLst h x) y (isLst h y) z (isLst h z)) h
      | _, _, _ => .no)) := P
  refine ⟨r, h, env, rel, er, P.bind.imp fun v H1 ⟨r1, h1, w, rel1, s1, q1, P1⟩ => ?_⟩
  refine ⟨r1, h1, env, rel1, er.step hD rel s1, P1.bind.imp fun u H2 ⟨r2, h2, w2, rel2, s2, q2, P2⟩ => ?_⟩
  refine ⟨r2, h2, env, rel2, (er.step hD rel s1).step hD rel1 s2, P2.bind.imp fun u3 H3 ⟨r3, h3, w3, rel3, s3, q3, P3⟩ => ?_⟩
  have q1 := (q1.mono s2.le).mono s3.le
  have q2 := q2.mono s3.le
  cases g : seqOf h3 w with
  | none => rw [g] at P3; exact P3.elim
  | some ws =>
    cases g2 : seqOf h3 w2 with
    | none => rw [g, g2] at P3; exact P3.elim
    | some us =>
      cases g3 : seqOf h3 w3 with
      | none => rw [g, g2, g3] at P3; exact P3.elim
      | some ts =>
        rw [g, g2, g3] at P3
        obtain ⟨a, vs, rfl, z1⟩ := sq_of rel3 q1 g
        obtain ⟨b, vs2, rfl, z2⟩ := sq_of rel3 q2 g2
        obtain ⟨d, vs3, rfl, z3⟩ := sq_of rel3 q3 g3
        rw [hX.K]
        exact ⟨isLst h3 w, isLst h3 w2, isLst h3 w3, a, b, d, vs, vs2, vs3, rfl, z1, z2, z3, PostG.ok P3 rel3 (itr_zpC q1 q2 q3)⟩
end
end RP

set_option Elab.async false
set_option linter.all false
set_option maxRecDepth 100000
set_option maxHeartbeats 400000
/-! RP33: a zip that a name holds. -/
namespace RP
open PySem PySem.Spec PyProof.Rows L2

def zH (H : Hp) (N : Nat) (φ0 φ1 φ2 φ3 φ4 : Heap → Prop) : Hp := upd (upd (upd (upd (upd H N (.ext φ0)) (N + 1) (.ext φ1)) (N + 2) (.ext φ2)) (N + 3) (.ext φ3)) (N + 4) (.ext φ4)
theorem nne {N i j : Nat} (h : i ≠ j) : N + i ≠ N + j := fun e => h (Nat.add_left_cancel e)
theorem nn0 {N i : Nat} (h : i ≠ 0) : N + i ≠ N := fun e => h (Nat.add_left_cancel (e.trans (Nat.add_zero N).symm))
theorem five {N b : Nat} (h : N ≤ b) (h5 : b < N + 5) : b = N ∨ b = N + 1 ∨ b = N + 2 ∨ b = N + 3 ∨ b = N + 4 := by omega
section
variable {H : Hp} {N : Nat} {φ0 φ1 φ2 φ3 φ4 : Heap → Prop}
theorem zH_old {b : Nat} (h : ∀ j : Nat, j < 5 → b ≠ N + j) : zH H N φ0 φ1 φ2 φ3 φ4 b = H b := by
  unfold zH
  rw [upd_ne (h 4 (by decide)), upd_ne (h 3 (by decide)), upd_ne (h 2 (by decide)), upd_ne (h 1 (by decide)), upd_ne (show b ≠ N from h 0 (by decide))]
theorem zH0 : zH H N φ0 φ1 φ2 φ3 φ4 N = some (.ext φ0) := by
  unfold zH
  rw [upd_ne (Ne.symm (nn0 (by decide))), upd_ne (Ne.symm (nn0 (by decide))), upd_ne (Ne.symm (nn0 (by decide))), upd_ne (Ne.symm (nn0 (by decide))), upd_same]
theorem zH1 : zH H N φ0 φ1 φ2 φ3 φ4 (N + 1) = some (.ext φ1) := by
  unfold zH
  rw [upd_ne (nne (by decide)), upd_ne (nne (by decide)), upd_ne (nne (by decide)), upd_same]
theorem zH2 : zH H N φ0 φ1 φ2 φ3 φ4 (N + 2) = some (.ext φ2) := by
  unfold zH
  rw [upd_ne (nne (by decide)), upd_ne (nne (by decide)), upd_same]
theorem zH3 : zH H N φ0 φ1 φ2 φ3 φ4 (N + 3) = some (.ext φ3) := by
  unfold zH
  rw [upd_ne (nne (by decide)), upd_same]
theorem zH4 : zH H N φ0 φ1 φ2 φ3 φ4 (N + 4) = some (.ext φ4) := by
  unfold zH
  rw [upd_same]
end
/-- an object told by its record -/
def atH (a : Addr) (o : Obj) : Heap → Prop := fun h => h.get? a = some o
theorem atH_ok {P : Program} {w : World} {H : Hp} {h : Heap} {a : Addr} {o : Obj} (e : h.get? a = some o) : ObjOk P w H h a (.ext (atH a o)) := ⟨e, ⟨o, e⟩, fun h1 h2 z k => k _ z⟩
theorem inv_zip {X : Cx} {pins : List (Addr × Obj)} {σ : L2.St} {H : Hp} {s : Shared} {h' : Heap} {o0 o1 o2 o3 o4 : Obj} (I : L2.Inv X pins σ H s) (hk : ∀ b o, s.heap.get? b = some o → h'.get? b = some o)
    (e0 : h'.get? s.heap.objs.size = some o0) (e1 : h'.get? (s.heap.objs.size + 1) = some o1) (e2 : h'.get? (s.heap.objs.size + 2) = some o2) (e3 : h'.get? (s.heap.objs.size + 3) = some o3) (e4 : h'.get? (s.heap.objs.size + 4) = some o4) :
    L2.Inv X pins σ (zH H s.heap.objs.size (atH s.heap.objs.size o0) (atH (s.heap.objs.size + 1) o1) (atH (s.heap.objs.size + 2) o2) (atH (s.heap.objs.size + 3) o3) (atH (s.heap.objs.size + 4) o4)) { s with heap := h' } := by
  have old : ∀ b, b < s.heap.objs.size → zH H s.heap.objs.size (atH s.heap.objs.size o0) (atH (s.heap.objs.size + 1) o1) (atH (s.heap.objs.size + 2) o2) (atH (s.heap.objs.size + 3) o3) (atH (s.heap.objs.size + 4) o4) b = H b := fun b hb => zH_old fun j _ => Nat.ne_of_lt (Nat.lt_of_lt_of_le hb (Nat.le_add_right _ _))
  have lt : ∀ b u, H b = some u → b < s.heap.objs.size := fun b u e => I.hok.lt e
  refine I.un (t' := s.toks) ⟨fun b o q n _ _ => hk b o q, fun b o q n _ _ => ⟨o.slots, hk b o q⟩, fun b o q n _ => (old b (Heap.lt_size q)).trans n, fun b o q _ => ⟨o, hk b o q⟩, fun b xs q => (old b (lt b _ q)).trans q, fun b o u q => (old b (lt b _ q)).trans q, fun b ps q => ⟨#[], by rw [old b (lt b _ q), q]; simp⟩⟩ fun b u e => ?_
  by_cases hb : b < s.heap.objs.size
  · rw [old b hb] at e
    exact (I.hok b u e).stay (fun c v _ q => hk c v q) (fun c q => (old c (lt c _ q)).trans q) fun c xs q => (old c (lt c _ q)).trans q
  · by_cases hb5 : b < s.heap.objs.size + 5
    · rcases five (Nat.le_of_not_lt hb) hb5 with z | z | z | z | z
      · rw [z, zH0] at e; cases e; rw [z]; exact atH_ok e0
      · rw [z, zH1] at e; cases e; rw [z]; exact atH_ok e1
      · rw [z, zH2] at e; cases e; rw [z]; exact atH_ok e2
      · rw [z, zH3] at e; cases e; rw [z]; exact atH_ok e3
      · rw [z, zH4] at e; cases e; rw [z]; exact atH_ok e4
    · rw [zH_old fun j hj z => hb5 (by rw [z]; exact Nat.add_lt_add_left hj _), I.hok.fresh (Nat.le_of_not_lt hb)] at e
      cases e
def tZipH (X : Cx) (ta : TA) : TE := fun σ H Q => ta σ H fun vs H1 => ∃ ka kb a b xs ys, vs = [.ref a, .ref b] ∧ SqB ka X.K H1 a xs ∧ SqB kb X.K H1 b ys ∧ ∀ (N : Nat) φ0 φ1 φ2 φ3 φ4, X.s_0.heap.objs.size ≤ N → (∀ j : Nat, H1 (N + j) = none) → ZipAt (zH H1 N φ0 φ1 φ2 φ3 φ4) N a ka b kb φ0 φ1 φ2 φ3 φ4 → Q (.ref (N + 4)) (zH H1 N φ0 φ1 φ2 φ3 φ4)
theorem itAt_new {k : Bool} {h : Heap} {it a : Addr} (e : h.get? it = some (objB k a)) : ItAt h it a k := by
  cases k with
  | true => exact ⟨_, e, rfl, rfl⟩
  | false => exact ⟨_, e, rfl, rfl⟩
theorem pe_zipH {X : Cx} {e e2 : Expr} {ta : TA} {p pos : Pos} (hg : Gl X "zip") (hm : X.mg "zip" = none) (ha : PA X [e, e2] ta)
    (hs : starEach [e, e2] X.env = (false, eval e X.env) :: starEach [e2] X.env) (hpl : (backTo pos (starEach [e2] X.env)).any (·.1) = false) :
    PE X (.Call (.Name "zip" p) [e, e2] [] pos) (tZipH X ta) := by
  refine ⟨fun pins s σ H Q I h => ?_⟩
  refine Call_ (ld_blt I hg hm PyProof.Rows.boot_zip (PyProof.Rows.callWith_type1 (thn (ha.run pos pins s σ H _ I h) fun us s1 ⟨vs, H1, I1, r1, q1⟩ => ?_) hs hpl))
  obtain ⟨ka, kb, a, b, xs, ys, ex, hqx, hqy, q⟩ := q1
  subst ex
  cases r1 with
  | cons r rr =>
    cases rr with
    | cons r' rr =>
      cases rr
      cases r
      cases r'
      obtain ⟨its, rv, p1⟩ := invB I1 hqx
      obtain ⟨its2, rv2, p2⟩ := invB I1 hqy
      refine zip_begins2 (beginsB ka a its.toArray) (beginsB kb b its2.toArray) p1 p2 fun h' hz hTI hTO h1 h2 hsz hk => ?_
      refine ⟨.ref (s1.heap.objs.size + 4), _, inv_zip I1 hk h1 h2 hTI hTO hz, rfl, q _ _ _ _ _ _ I1.sz (fun j => I1.hok.fresh (Nat.le_add_right _ _)) ⟨zH0, zH1, zH2, zH3, zH4, fun h z => itAt_new z, fun h z => itAt_new z, fun h z => z, fun h z => z, fun h z => z⟩⟩
/-! ### the virtual side -/
section
variable {G : Gd} {r : List Addr} {h : Hv} {H : Hp} {N : Nat} {φ0 φ1 φ2 φ3 φ4 : Heap → Prop}
theorem Rel.zipped (rel : Rel G r h H) (n : ∀ j : Nat, H (N + j) = none) : Rel G r h (zH H N φ0 φ1 φ2 φ3 φ4) := by
  have r0 := rel.ext (p := N) (x := .ext φ0) (n 0)
  have r1 := r0.ext (p := N + 1) (x := .ext φ1) (by rw [upd_ne (nn0 (by decide))]; exact n 1)
  have r2 := r1.ext (p := N + 2) (x := .ext φ2) (by rw [upd_ne (nne (by decide)), upd_ne (nn0 (by decide))]; exact n 2)
  have r3 := r2.ext (p := N + 3) (x := .ext φ3) (by rw [upd_ne (nne (by decide)), upd_ne (nne (by decide)), upd_ne (nn0 (by decide))]; exact n 3)
  exact r3.ext (p := N + 4) (x := .ext φ4) (by rw [upd_ne (nne (by decide)), upd_ne (nne (by decide)), upd_ne (nne (by decide)), upd_ne (nn0 (by decide))]; exact n 4)
theorem zH_keep (n : ∀ j : Nat, H (N + j) = none) {q : Addr} {o : HO} (e : H q = some o) : zH H N φ0 φ1 φ2 φ3 φ4 q = some o :=
  (zH_old fun j _ (z : q = N + j) => by rw [z, n j] at e; cases e).trans e
theorem Step.zipped (n : ∀ j : Nat, H (N + j) = none) : Step G r h H r h (zH H N φ0 φ1 φ2 φ3 φ4) where
  le := .refl r
  keep := fun q o e _ _ _ => zH_keep n e
  fresh := fun q m => .inl m
  tab := fun q _ ⟨o, e, kp⟩ => ⟨o, zH_keep n e, kp⟩
theorem Rel.setz (rel : Rel G r h H) {z : Option (Nat × (W × Bool) × (W × Bool))} (hz : ∀ m x y, z = some (m, x, y) → ∃ N b c φ0 φ1 φ2 φ3 φ4, r[m]? = some (N + 4) ∧ VW G r (.ref b) x.1 ∧ VW G r (.ref c) y.1 ∧ ZipAt H N b x.2 c y.2 φ0 φ1 φ2 φ3 φ4) : Rel G r (h.setz z) H :=
  ⟨rel.len, rel.obj, rel.inj, rel.cinj, hz, rel.tabs, rel.pre⟩
theorem Step.setz {r' : List Addr} {h' : Hv} {H' : Hp} (s : Step G r h H r' h' H') (z : Option (Nat × (W × Bool) × (W × Bool))) : Step G r h H r' (h'.setz z) H' := ⟨s.le, s.keep, s.fresh, s.tab⟩
/-- the five objects are let go -/
def dH (H : Hp) (N : Nat) : Hp := fun (b : Nat) => if N ≤ b ∧ b < N + 5 then none else H b
theorem dH_in {b : Nat} (h1 : N ≤ b) (h2 : b < N + 5) : dH H N b = none := if_pos ⟨h1, h2⟩
theorem dH_out {b : Nat} (h : ¬ (N ≤ b ∧ b < N + 5)) : dH H N b = H b := if_neg h
theorem OR.kpt {H' : Hp} {b : Addr} (kk : ∀ q o, H q = some o → Kpt q o → H' q = some o) : ∀ {o : O}, OR G r H b o → OR G r H' b o
  | .lst ws, ⟨vs, e, z⟩ => ⟨vs, kk _ _ e (fun φ q => nomatch q), z⟩
  | .tup ws, ⟨vs, e, z⟩ => ⟨vs, by
      rcases e with (e | ⟨o, e⟩) | e
      · exact .inl (.inl (kk _ _ e fun φ q => nomatch q))
      · exact .inl (.inr ⟨o, kk _ _ e fun φ q => nomatch q⟩)
      · exact .inr e, z⟩
  | .rls ws, ⟨vs, e, z⟩ => ⟨vs, by
      rcases e with ⟨o, e⟩ | e
      · exact .inl ⟨o, kk _ _ e fun φ q => nomatch q⟩
      · exact .inr e, z⟩
  | .dct kvs, ⟨es, e, z⟩ => ⟨es, kk _ _ e (fun φ q => nomatch q), z⟩
  | .ins c fs, ⟨dx, es, e, z⟩ => ⟨dx, es, kk _ _ e (fun φ q => nomatch q), z⟩
  | .wdc kvs, q => q
  | .clo l cs, ⟨vs, F, ps, c, bb, e, z⟩ => ⟨vs, F, ps, c, bb, e.kp ⟨fun q o u e => kk _ _ e fun φ q => (nomatch q), fun q s e => kk _ _ e fun φ q => ⟨s, rfl⟩⟩, z⟩
  | .dead, _ => trivial
theorem Rel.dropped (rel : Rel G r h H) (n : ∀ (q : Nat) (o : HO), N ≤ q → q < N + 5 → H q = some o → ¬ Kpt q o) : Rel G r (h.setz none) (dH H N) := by
  have kk : ∀ q o, H q = some o → Kpt q o → dH H N q = some o := fun q o e kp => (dH_out fun z => n q o z.1 z.2 e kp).trans e
  have kp : Kp H (dH H N) := ⟨fun q o u e => kk _ _ e fun φ q => (nomatch q), fun q s e => kk _ _ e fun φ q => ⟨s, rfl⟩⟩
  refine ⟨rel.len, fun n o a e q => OR.kpt kk (rel.obj n o a e q), rel.inj, fun i j a b c o1 o2 q1 q2 c1 c2 e1 e2 z1 z2 => ?_, fun m x y e => (nomatch e), TabsN.keeps rel.tabs kp fun q ps e => kk _ _ e fun φ q => (nomatch q), rel.pre⟩
  have back : ∀ (n : Nat) (ok : O) (b : Addr), h.get n = some ok → isClo ok = true → r[n]? = some b → Cel (dH H N) b c → Cel H b c := fun n ok b q ck e z => by
    obtain ⟨l, vs, F, ps, cs, bb, CC⟩ := OR.clo ck (rel.obj n ok b q e)
    exact CC.back (fun o u e => kp.frz _ _ _ e) z
  exact rel.cinj i j a b c o1 o2 q1 q2 c1 c2 e1 e2 (back i o1 a q1 c1 e1 z1) (back j o2 b q2 c2 e2 z2)
theorem Step.dropped (n : ∀ (q : Nat) (o : HO), N ≤ q → q < N + 5 → H q = some o → ¬ Kpt q o) : Step G r h H r (h.setz none) (dH H N) where
  le := .refl r
  keep := fun q o e kp _ _ => (dH_out fun z => n q o z.1 z.2 e kp).trans e
  fresh := fun q m => .inl m
  tab := fun q _ ⟨o, e, kp⟩ => ⟨o, (dH_out fun z => n q o z.1 z.2 e kp).trans e, kp⟩
end
section
variable {X : Cx} {G : Gd} {C : Cc} {D : DK} {E : XK} {K : Orc}
/-- what D tells of a zip that a name of this frame holds -/
def DZi (X : Cx) (D : DK) : Prop := ∀ (H : Hp) (n N : Nat), X.s_0.heap.objs.size ≤ N → D H (.ref (N + 4)) (.zipv n)
def DZe (X : Cx) (D : DK) : Prop := ∀ H v n, D H v (.zipv n) → ∃ N : Nat, v = .ref (N + 4) ∧ X.s_0.heap.objs.size ≤ N
theorem os_asgz (hX : XOk G C X) (hG : GOk G) (hD : DOk D) (hz : DZi X D) {e e2 : Expr} {x y : RP.E} {yn : Str} {i : Nat} {p py pos spos : Pos} (hi : C.tslot yn = some i) (hb : C.blt "zip" = true) (n1 : noStar e = true) (n2 : noStar e2 = true) (h1 : OE X G D E K e x) (h2 : OE X G D E K e2 y) :
    OS X G D E K (.Assign [.Name yn py] (.Call (.Name "zip" p) [e, e2] [] pos) spos) (.asgz i x y) := os_of fun m => by
  obtain ⟨hg, hm⟩ := blt_is hX hG hb (by decide)
  obtain ⟨i1, i2, i3⟩ := tslot_is hi
  refine PS.imp (ps_set (by rw [hX.N]; exact hX.nd) (by rw [hX.N]; exact i1) (by rw [hX.sc]; exact loc_of i3) (pe_zipH hg hm (pa_two (h1 m) (h2 m) n1 n2) (star_ne n1) (stars_no (es := [e2]) (by simp [n2])).1) (hf := by rw [hX.sc]; exact hX.fn yn i2 i3)) ?_
  rintro Dn σ H ⟨r, h, env, rel, er, P⟩
  replace P : PostG G (ROut G D) E r h H (endsOf Dn) ((evE G.p K m x env h).bind fun x h => (evE G.p K m y env h).bind fun y h => (match seqOf h x, seqOf h y, h.z with
      | some _, some _, none => if i < env.length then .ok (.nx (setEnv env i (some (.zipv h.n)))) ((h.push .dead).setz (some (h.n, (x, isLst h x), (y, isLst h y)))) else .no
      | _, _, _ => .no)) := P
  refine ⟨r, h, env, rel, er, (PostG.bind (R := RVal G) P).imp fun v H1 ⟨r1, h1, w, rel1, s1, q1, P1⟩ => ?_⟩
  have er1 := er.step hD rel s1
  refine ⟨r1, h1, env, rel1, er1, (PostG.bind (R := RVal G) P1).imp fun u H2 ⟨r2, h2, w2, rel2, s2, q2, P2⟩ => ?_⟩
  have q1 := q1.mono s2.le
  have er2 := er1.step hD rel1 s2
  cases g : seqOf h2 w with
  | none => rw [g] at P2; exact (show False from P2).elim
  | some ws =>
    cases g2 : seqOf h2 w2 with
    | none => rw [g, g2] at P2; exact (show False from P2).elim
    | some us =>
      cases g3 : h2.z with
      | some _ => rw [g, g2, g3] at P2; exact (show False from P2).elim
      | none =>
        rw [g, g2, g3] at P2
        simp only at P2
        split at P2
        · rename_i hl
          obtain ⟨a, vs, rfl, z1⟩ := sq_of rel2 q1 g
          obtain ⟨b, vs2, rfl, z2⟩ := sq_of rel2 q2 g2
          refine ⟨isLst h2 w, isLst h2 w2, a, b, vs, vs2, rfl, by rw [hX.K]; exact z1, by rw [hX.K]; exact z2, fun N φ0 φ1 φ2 φ3 φ4 hs hn Z => ?_⟩
          have rel3 := rel2.zipped (φ0 := φ0) (φ1 := φ1) (φ2 := φ2) (φ3 := φ3) (φ4 := φ4) hn
          have st3 := Step.zipped (G := G) (r := r2) (h := h2) (φ0 := φ0) (φ1 := φ1) (φ2 := φ2) (φ3 := φ3) (φ4 := φ4) hn
          have nm : ¬ Mu r2 h2 (N + 4) := fun mu => by
            obtain ⟨y, hy, my⟩ := Mu.there rel3 mu
            rw [zH4] at hy; cases hy; cases my
          have rel4 := rel3.adopt (o := .dead) nm rfl trivial
          have st4 := st3.adopt (o := .dead) rel3 (hn 4)
          have rel5 := rel4.setz (z := some (h2.n, (w, isLst h2 w), (w2, isLst h2 w2))) fun m x y ez => by
            cases ez
            exact ⟨N, a, b, φ0, φ1, φ2, φ3, φ4, get_new rel3 _, q1.mono (Le.push _ _), q2.mono (Le.push _ _), Z⟩
          have st5 := st4.setz (some (h2.n, (w, isLst h2 w), (w2, isLst h2 w2)))
          refine P2 (OutB.nx (σ.set i (some (.ref (N + 4))))) _ _ rel5 st5 ?_
          exact (er2.step hD rel2 st5).set ⟨⟨_, get_new rel3 _, rfl⟩, hz _ _ N hs⟩ hl
        · exact (show False from P2).elim
end
end RP

set_option Elab.async false
set_option linter.all false
set_option maxRecDepth 100000
set_option maxHeartbeats 400000
/-! RP34: a held zip is gone through. -/
namespace RP
open PySem PySem.Spec PyProof.Rows L2

theorem itAt_iter {k : Bool} {h : Heap} {it a : Addr} (e : ItAt h it a k) : IterB k h it a 0 := by
  cases k with
  | true => exact e
  | false => exact e
theorem iterB_one {k : Bool} {h : Heap} {it a : Addr} {i : Nat} (x : IterB k h it a i) : ∃ o v t, h.get? it = some o ∧ o.data = .fields #[v, .int (i : Nat) t] := by
  cases k with
  | true => obtain ⟨o, ho, hc, hd⟩ := x; exact ⟨o, _, _, ho, hd⟩
  | false => obtain ⟨o, ho, hc, hd⟩ := x; exact ⟨o, _, _, ho, hd⟩
section
variable {X : Cx} {pins : List (Addr × Obj)} {σ : L2.St} {H : Hp} {s : Shared}
theorem code_at {q : Addr} {o : HO} (I : L2.Inv X pins σ H s) (e : H q = some o) (he : ∃ φ, o = .ext φ) (kp : Kpt q o) : ∃ (oc : Obj) (vs : Array Value) (x : Str) (t : Tok), s.heap.get? q = some oc ∧ oc.data = .fields vs ∧ vs[1]? = some (.str x t) := by
  obtain ⟨φ, eo⟩ := he
  obtain ⟨x, ec⟩ := kp φ eo
  rw [ec] at e
  obtain ⟨⟨oc, vs, t, h1, h2, h3⟩, _, _⟩ := I.hok q _ e
  exact ⟨oc, vs, x, t, h1, h2, h3⟩
theorem sqB_ext {k : Bool} {a : Addr} {xs : List V} (I : L2.Inv X pins σ H s) (h : SqB k X.K H a xs) (φ : Heap → Prop) : H a ≠ some (.ext φ) := fun e => by
  cases k with
  | true =>
    rcases (show SqL X.K H a xs from h) with (z | ⟨o, z⟩) | ⟨o, its, n, z, _⟩
    · rw [e] at z; cases z
    · rw [e] at z; cases z
    · have := (I.bs a o (I.mod.kin a o z)).2
      rw [e] at this; cases this
  | false =>
    rcases (show SqT X.K H a xs from h) with (z | ⟨o, z⟩) | ⟨o, its, n, z, _⟩
    · rw [e] at z; cases z
    · rw [e] at z; cases z
    · have := (I.bs a o (I.mod.kin a o z)).2
      rw [e] at this; cases this
theorem zip_five {N : Nat} {a b : Addr} {ka kb : Bool} {φ0 φ1 φ2 φ3 φ4 : Heap → Prop} (Z : ZipAt H N a ka b kb φ0 φ1 φ2 φ3 φ4) {q : Nat} (h1 : N ≤ q) (h2 : q < N + 5) : ∃ φ, H q = some (.ext φ) := by
  rcases five h1 h2 with z | z | z | z | z
  · rw [z]; exact ⟨_, Z.e0⟩
  · rw [z]; exact ⟨_, Z.e1⟩
  · rw [z]; exact ⟨_, Z.e2⟩
  · rw [z]; exact ⟨_, Z.e3⟩
  · rw [z]; exact ⟨_, Z.e4⟩
theorem pi_held {y : Str} {i : Nat} {pos tpos : Pos} {elts : List Expr} {kk : Nat} (hN : X.N[i]? = some y) (hv : Vis X.env.scope y) (hd : (y == ("__debug__" : Str)) = false) (hcd : (y == ("__classdict__" : Str)) = false) :
    PI X (.Tuple elts kk tpos) (.Name y pos) (fun σ H R => ∃ (N : Nat) (a b : Addr) (ka kb : Bool) (φ0 φ1 φ2 φ3 φ4 : Heap → Prop) (xs ys : List V), σ[i]? = some (some (.ref (N + 4))) ∧ X.s_0.heap.objs.size ≤ N ∧ ZipAt H N a ka b kb φ0 φ1 φ2 φ3 φ4 ∧ SqB ka X.K H a xs ∧ SqB kb X.K H b ys ∧
      ((∀ (q : Nat) (o : HO), N ≤ q → q < N + 5 → H q = some o → ¬ Kpt q o) → R (ItzB ka kb X.K a b) (dH H N))) := by
  refine ⟨fun pins s σ H R I h => ?_⟩
  obtain ⟨N, a, b, ka, kb, φ0, φ1, φ2, φ3, φ4, xs, ys, hs, hle, Z, z1, z2, hR⟩ := h
  refine thn ((pe_var (pos := pos) hN hv hd hcd).run pins s σ H (fun v H1 => v = .ref (N + 4) ∧ H1 = H) I ⟨.ref (N + 4), hs, rfl, rfl⟩) fun v s1 ⟨w, H1, I1, r1, q1⟩ => ?_
  obtain ⟨e1, e2⟩ := q1
  subst e1 e2
  obtain rfl : v = Value.ref (N + 4) := r1
  have at4 : IsZip s1.heap (N + 4) (N + 2) (N + 3) .none := Z.a4 _ (I1.hok _ _ Z.e4).1
  have at2 : IsPair s1.heap (N + 2) (.ref N) (.ref (N + 1)) := Z.a2 _ (I1.hok _ _ Z.e2).1
  have at3 : IsPair s1.heap (N + 3) .none .none := Z.a3 _ (I1.hok _ _ Z.e3).1
  have at0 := itAt_iter (Z.a0 _ (I1.hok _ _ Z.e0).1)
  have at1 := itAt_iter (Z.a1 _ (I1.hok _ _ Z.e1).1)
  have no : ∀ (q : Nat) (o : HO), N ≤ q → q < N + 5 → H1 q = some o → ¬ Kpt q o := fun q o h1 h2 e kp => by
    obtain ⟨φ, e'⟩ := zip_five Z h1 h2
    have eo : o = .ext φ := by rw [e] at e'; exact Option.some.inj e'
    obtain ⟨oc, vs, x, t, g1, g2, g3⟩ := code_at I1 e ⟨φ, eo⟩ kp
    rcases five h1 h2 with z | z | z | z | z
    · rw [z] at g1
      obtain ⟨o', v, t', k1, k2⟩ := iterB_one at0
      rw [g1] at k1; cases k1
      rw [g2] at k2; cases k2
      simp at g3
    · rw [z] at g1
      obtain ⟨o', v, t', k1, k2⟩ := iterB_one at1
      rw [g1] at k1; cases k1
      rw [g2] at k2; cases k2
      simp at g3
    · rw [z] at g1
      have k : some oc = some _ := g1.symm.trans at2
      cases k; cases g2
    · rw [z] at g1
      have k : some oc = some _ := g1.symm.trans at3
      cases k; cases g2
    · rw [z] at g1
      have k : some oc = some _ := g1.symm.trans at4
      cases k; cases g2
      simp at g3
  have kne : ∀ (q : Nat) (o : HO), H1 q = some o → (∀ φ, o ≠ .ext φ) → dH H1 N q = some o := fun q o e ne => by
    rw [dH_out fun z => ?_]
    · exact e
    · obtain ⟨φ, e'⟩ := zip_five Z z.1 z.2
      rw [e] at e'
      exact ne φ (Option.some.inj e')
  have I2 : L2.Inv X pins σ (dH H1 N) s1 := by
    refine I1.un (h' := s1.heap) (t' := s1.toks) ⟨fun b o q n _ _ => q, fun b o q n _ _ => ⟨o.slots, q⟩, fun b o q n _ => ?_, fun b o q _ => ⟨o, q⟩, fun b xs q => kne b _ q fun φ z => (nomatch z), fun b o u q => kne b _ q fun φ z => (nomatch z), fun b ps q => ⟨#[], by rw [kne b _ q fun φ z => (nomatch z)]; simp⟩⟩ fun b u e => ?_
    · unfold dH
      split
      · rfl
      · exact n
    · have hb : ¬ (N ≤ b ∧ b < N + 5) := fun z => by rw [dH_in z.1 z.2] at e; cases e
      rw [dH_out hb] at e
      exact (I1.hok b u e).stay (fun c v _ q => q) (fun c q => kne c _ q fun φ z => (nomatch z)) fun c xs q => kne c _ q fun φ z => (nomatch z)
  have nsq : ∀ {k : Bool} {c : Addr} {l : List V}, SqB k X.K H1 c l → ∀ j : Nat, j < 5 → c ≠ N + j := fun {k c l} hq j hj z => by
    obtain ⟨φ, e'⟩ := zip_five Z (Nat.le_add_right N j) (Nat.add_lt_add_left hj N)
    rw [← z] at e'
    exact sqB_ext I1 hq φ e'
  have na := nsq z1
  have nb := nsq z2
  have two : ∀ {x y c : Nat}, x ≠ y → x ≠ c → x ∉ ([y, c] : List Addr) := fun {x y c} h1 h2 hm => by
    rcases List.mem_cons.mp hm with z | z
    · exact h1 z
    · exact h2 (List.mem_singleton.mp z)
  have S : ZipSep2 (N + 4) (N + 2) (N + 3) N (N + 1) [N, a] [N + 1, b] :=
    { TIz := nne (by decide), TOz := nne (by decide), TITO := nne (by decide), TIi1 := nn0 (by decide), mem1 := List.mem_cons_self .., zf1 := two (nn0 (by decide)) (Ne.symm (na 4 (by decide))), Tf1 := two (nn0 (by decide)) (Ne.symm (na 3 (by decide))),
      TIi2 := nne (by decide), mem2 := List.mem_cons_self .., zf2 := two (nne (by decide)) (Ne.symm (nb 4 (by decide))), Tf2 := two (nne (by decide)) (Ne.symm (nb 3 (by decide))),
      sep1_2 := two (Ne.symm (nn0 (by decide))) (fun z => nb 0 (by decide) z.symm), sep2_1 := two (nn0 (by decide)) (Ne.symm (na 1 (by decide))) }
  refine wpAny_pyIter_zip at4 ?_
  refine ⟨N + 4, [N + 4, N + 2, N + 3, N, N + 1], _, _, dH H1 N, rfl, I2, turn_zipB ka kb S, ⟨at4, at2, ⟨_, _, at3⟩, at0, at1⟩, fun c hc => ?_, hR no⟩
  have hc5 : N ≤ c ∧ c < N + 5 := by
    have e' : c = N + 4 ∨ c = N + 2 ∨ c = N + 3 ∨ c = N ∨ c = N + 1 := by simpa using hc
    rcases e' with z | z | z | z | z <;> rw [z]
    · exact ⟨Nat.le_add_right _ _, Nat.add_lt_add_left (by decide) _⟩
    · exact ⟨Nat.le_add_right _ _, Nat.add_lt_add_left (by decide) _⟩
    · exact ⟨Nat.le_add_right _ _, Nat.add_lt_add_left (by decide) _⟩
    · exact ⟨Nat.le_refl _, Nat.lt_add_of_pos_right (by decide)⟩
    · exact ⟨Nat.le_add_right _ _, Nat.add_lt_add_left (by decide) _⟩
  obtain ⟨φ, ec⟩ := zip_five Z hc5.1 hc5.2
  have nz : ∀ {b : Addr}, H1 b = none → c ≠ b := fun {b} e z => by rw [z, e] at ec; cases ec
  refine ⟨dH_in hc5.1 hc5.2, nz I1.free, fun hm => ?_, .inr (Nat.le_trans hle hc5.1), fun x c' e z => nz (I1.freeC x c' e) z.symm, fun p hp z => nz (I1.pin p hp).2.1 z.symm⟩
  have hmem : c ∈ frs X.stack := by
    rcases I1.ok.stk with e | ⟨e, hf⟩
    · rw [e]; exact hm
    · rw [e]
      unfold frs
      rw [List.filterMap_cons, hf]
      exact List.mem_cons_of_mem _ hm
  exact nz (I1.stkFree c hmem) rfl
end
section
variable {X : Cx} {G : Gd} {C : Cc} {D : DK} {E : XK} {K : Orc}
theorem oi_ez_any (hX : XOk G C X) {tg e : Expr} {x : RP.E} (nz : ∀ env, zipAt env x = none) (h1 : OE X G D E K e x) : OI X G D E K tg e (.ez x) := oi_of fun m => by
  refine PI.imp (pi_any (h1 m)) ?_
  rintro σ H R ⟨r, h, env, rel, er, P⟩
  rw [hX.K]
  refine any_run rel er ?_
  have e : evI G.p K (m + 1) (.ez x) env h = (match zipAt env x with
      | some m => (match h.z with
        | some (m', x, y) => if m = m' ∧ isLst h x.1 = x.2 ∧ isLst h y.1 = y.2 then (match seqOf h x.1, seqOf h y.1 with
          | some _, some _ => .ok (.zp x.1 x.2 y.1 y.2) (h.setz none)
          | _, _ => .no) else .no
        | none => .no)
      | none => (evE G.p K m x env h).bind fun x h => (match x with
        | .str s => .ok (.sg s) h
        | x => (match seqOf h x with
          | some _ => .ok (.seq x (isLst h x)) h
          | none => .no))) := rfl
  rw [e, nz] at P
  exact P
theorem oi_ez_nm (hX : XOk G C X) (hD : DOk D) (hz : DZe X D) {y : Str} {i : Nat} {pos tpos : Pos} {elts : List Expr} {kk : Nat} (e : C.slot y = some i) : OI X G D E K (.Tuple elts kk tpos) (.Name y pos) (.ez (.nm i)) := oi_of fun m => by
  obtain ⟨i1, i2, i3, i4⟩ := slot_is e
  refine PI.imp (PI.or (pi_any (oe_nm (E := E) (D := D) (G := G) (K := K) hX (pos := pos) e m)) (pi_held (by rw [hX.N]; exact i1) (by rw [hX.sc]; exact i2) i3 i4)) ?_
  rintro σ H R ⟨r, h, env, rel, er, P⟩
  have ev : evI G.p K (m + 1) (.ez (.nm i)) env h = (match zipAt env (.nm i) with
      | some m => (match h.z with
        | some (m', x, y) => if m = m' ∧ isLst h x.1 = x.2 ∧ isLst h y.1 = y.2 then (match seqOf h x.1, seqOf h y.1 with
          | some _, some _ => .ok (.zp x.1 x.2 y.1 y.2) (h.setz none)
          | _, _ => .no) else .no
        | none => .no)
      | none => (evE G.p K m (.nm i) env h).bind fun x h => (match x with
        | .str s => .ok (.sg s) h
        | x => (match seqOf h x with
          | some _ => .ok (.seq x (isLst h x)) h
          | none => .no))) := rfl
  rw [ev] at P
  cases g : zipAt env (.nm i) with
  | none =>
    rw [g] at P
    rw [hX.K]
    exact .inl (any_run rel er P)
  | some n =>
    rw [g] at P
    have ge : env[i]? = some (some (.zipv n)) := by
      unfold zipAt at g
      simp only at g
      split at g
      · rename_i q; cases g; exact q
      · cases g
    obtain ⟨v, g1, ⟨a0, g2, g3⟩, g4⟩ := er.val i _ ge
    obtain ⟨N, ev, hle⟩ := hz _ _ _ g4
    simp only at P
    cases gz : h.z with
    | none => rw [gz] at P; exact P.elim
    | some q =>
      obtain ⟨m', x, u⟩ := q
      rw [gz] at P
      simp only at P
      split at P
      · rename_i c
        obtain ⟨c1, c2, c3⟩ := c
        cases g5 : seqOf h x.1 with
        | none => rw [g5] at P; exact P.elim
        | some ws =>
          cases g6 : seqOf h u.1 with
          | none => rw [g5, g6] at P; exact P.elim
          | some us =>
            rw [g5, g6] at P
            obtain ⟨N', b, d, φ0, φ1, φ2, φ3, φ4, r1, q1, q2, Z⟩ := rel.zip m' x u gz
            have eN : N' = N := by
              rw [← c1, g2] at r1
              cases r1
              rw [ev] at g3
              injection g3 with g3
              exact (Nat.add_right_cancel g3).symm
            subst eN
            obtain ⟨a1, vs1, e1, s1⟩ := sq_of rel q1 g5
            obtain ⟨a2, vs2, e2, s2⟩ := sq_of rel q2 g6
            cases e1
            cases e2
            rw [c2] at s1
            rw [c3] at s2
            refine .inr ⟨N', b, d, x.2, u.2, φ0, φ1, φ2, φ3, φ4, vs1, vs2, by rw [g1, ev], hle, Z, by rw [hX.K]; exact s1, by rw [hX.K]; exact s2, fun no => ?_⟩
            rw [hX.K]
            exact P (ItzB x.2 u.2 G.K b d) _ r (rel.dropped no) (Step.dropped no) (itr_zpB q1 q2)
      · exact P.elim
end
end RP

set_option Elab.async false
set_option linter.all false
set_option maxRecDepth 100000
set_option maxHeartbeats 400000
/-! RP35: a dict display that begins with the entries of another dict: the merge. -/
namespace RP
open PySem PySem.Spec PyProof.Rows L2

section
variable {prog : Program} {w : World} {A : Around} {E : Value → Shared → Prop} {s : Shared}
theorem put_pairs {d : Addr} {kvs : List (Key × Value)} {k : Key} {key v : Value} {Q : Unit → Shared → Prop} (hkey : (mixKind prog w).is k key = true) (hm : s.heap.DictOf (mixKind prog w) d kvs)
    (hQ : ∀ h', h'.DictOf (mixKind prog w) d (stored kvs k v) → Heap.SameBut d s.heap h' → Q () { s with heap := h' })
    (hz : kvs.length ≤ sizeLine) :
    wpAny (model prog w) A (dictPut d ((mixKind prog w).hash k) key v) Q E s := by
  obtain ⟨o, es, ep, ho, hc, hd, hk, hp, hn⟩ := hm
  have hes : es.size ≤ sizeLine := by
    have l1 := hp.length
    rw [Array.length_toList] at l1
    omega
  have ix : (es.findIdx? fun e => (mixKind prog w).is k e.key) = kvs.findIdx? fun kv => decide (kv.1 = k) := by
    rw [← hp.findIdx k]
    obtain ⟨l⟩ := es
    simp
  unfold dictPut
  refine wpAny_bind (wpAny_dictFind_of hkey ho hd hk ?_)
  cases hi : es.findIdx? fun e => (mixKind prog w).is k e.key with
  | some i =>
    refine wpAny_updateDict ho hd (hQ _ ⟨_, _, ep, Heap.get?_update_self _ ho (Obj.isFreed_of_dict (Obj.data_mapDict hd _)), hc.mapDict _, Obj.data_mapDict hd _, hk.modify _ _, ?_, ?_⟩ (Heap.SameBut.update ..))
    · have l2 : (es.toList.findIdx? fun e => (mixKind prog w).is k e.key) = some i := by
        rw [← hi]
        obtain ⟨l⟩ := es
        simp
      have mo := hp.modify hn l2 v
      rw [stored, if_pos (any_of_findIdx_some (ix ▸ hi))]
      obtain ⟨l⟩ := es
      simpa using mo
    · rw [stored, if_pos (any_of_findIdx_some (ix ▸ hi)), keys_map_store]
      exact hn
  | none =>
    have out : k ∉ kvs.map (·.1) := not_mem_of_findIdx_none (ix ▸ hi)
    have no : ¬ (kvs.any fun kv => decide (kv.1 = k)) = true := fun z => by
      obtain ⟨kv, h1, h2⟩ := List.any_eq_true.mp z
      exact out (List.mem_map.mpr ⟨kv, h1, of_decide_eq_true h2⟩)
    refine wpAny_updateDictKeys (hz := hes) ho hd (hQ _ ⟨_, _, ep + 1, Heap.get?_update_self _ ho (Obj.isFreed_of_dict (Obj.data_mapDictKeys hd _)), hc.mapDictKeys _, Obj.data_mapDictKeys hd _, hk.push hkey _, ?_, ?_⟩ (Heap.SameBut.update ..))
    · have ap := hp.append hkey ((mixKind prog w).hash k) v
      rw [stored, if_neg no]
      obtain ⟨l⟩ := es
      simpa using ap
    · rw [stored, if_neg no, List.map_append, List.nodup_append]
      exact ⟨hn, by simp, fun a ha b hb z => out (by
        have e : b = k := List.mem_singleton.mp hb
        rw [← e, ← z]; exact ha)⟩
theorem merge_loop {d a : Addr} {kvs more : List (Key × Value)} {oo : Obj} {eso : Array DictEntry} {epo : Nat} {Q : PUnit → Shared → Prop} (hda : d ≠ a) (hoo : s.heap.get? a = some oo) (hdo : oo.data = .dict eso epo) (hko : KeysOf (mixKind prog w) eso) (hpo : Pairs (mixKind prog w) eso.toList more)
    (hd : s.heap.DictOf (mixKind prog w) d kvs) (hz : kvs.length + more.length ≤ sizeLine) {body : Nat → PUnit → Sem (ForInStep PUnit)}
    (hb : ∀ (i : Nat) (s' : Shared) (e : DictEntry) (R : ForInStep PUnit → Shared → Prop), eso[i]? = some e → s'.heap.get? a = some oo →
      wpAny (model prog w) A (dictPut d e.hash e.key e.val) (fun _ s2 => s2.heap.get? a = some oo ∧ R (.yield PUnit.unit) s2) E s' → wpAny (model prog w) A (body i PUnit.unit) R E s')
    (hQ : ∀ h', h'.DictOf (mixKind prog w) d (merged kvs more) → Heap.SameBut d s.heap h' → Q PUnit.unit { s with heap := h' }) :
    wpAny (model prog w) A (forIn (List.range eso.size) PUnit.unit body) Q E s := by
  have hlen : more.length = eso.size := by rw [← hpo.length, Array.length_toList]
  refine wpAny_forIn_list _
    (fun rest _ s' => ∃ h' i, s' = { s with heap := h' } ∧ rest = List.range' i (eso.size - i) ∧ i ≤ eso.size ∧ h'.DictOf (mixKind prog w) d (merged kvs (more.take i)) ∧ h'.get? a = some oo ∧ Heap.SameBut d s.heap h')
    _ ?_ ?_ _ _ ⟨s.heap, 0, rfl, by simp [List.range_eq_range'], Nat.zero_le _, by simpa [merged] using hd, hoo, Heap.SameBut.refl _ _⟩
  · rintro x rest b s' ⟨h', i, rfl, hr, hi, hd', hoo', hs'⟩
    have hlt : i < eso.size := by
      rcases Nat.lt_or_ge i eso.size with h | h
      · exact h
      · rw [Nat.sub_eq_zero_of_le h] at hr
        simp at hr
    have e1 : eso.size - i = (eso.size - (i + 1)) + 1 := by omega
    rw [e1, List.range'_succ] at hr
    injection hr with q1 q2
    subst q1
    have hgx : eso[x]? = some eso[x] := Array.getElem?_eq_getElem hlt
    obtain ⟨⟨k, v⟩, hkv⟩ : ∃ kv, more[x]? = some kv := ⟨more[x]'(by rw [hlen]; exact hlt), List.getElem?_eq_getElem _⟩
    obtain ⟨hkey, hval⟩ := hpo.get? (e := eso[x]) (by simp [hlt]) hkv
    obtain ⟨k', hkey', hhash⟩ := hko eso[x] (Array.getElem_mem hlt)
    obtain rfl : k' = k := (mixKind prog w).inj _ _ _ hkey' hkey
    refine hb x _ eso[x] _ hgx hoo' ?_
    rw [hhash, hval]
    have hmx : (merged kvs (more.take x)).length ≤ sizeLine := by
      have l1 := merged_length_le kvs (more.take x)
      have l2 : (more.take x).length ≤ more.length := by rw [List.length_take]; omega
      omega
    refine put_pairs hkey hd' (fun h'' hd'' hs'' => ?_) hmx
    have hoo'' : h''.get? a = some oo := (hs''.2 a (Ne.symm hda)).trans hoo'
    exact ⟨hoo'', h'', x + 1, rfl, q2, hlt, by rw [merged_take_succ kvs more x (k', v) hkv]; exact hd'', hoo'', hs'.trans hs''⟩
  · rintro b s' ⟨h', i, rfl, hr, hi, hd', hoo', hs'⟩
    have hin : i = eso.size := by
      rcases Nat.lt_or_ge i eso.size with h | h
      · have e1 : eso.size - i = (eso.size - (i + 1)) + 1 := by omega
        rw [e1, List.range'_succ] at hr
        exact nomatch hr
      · exact Nat.le_antisymm hi h
    rw [hin, ← hlen, List.take_length] at hd'
    exact hQ h' hd' hs'
theorem merge_map {d a : Addr} {kvs more : List (Key × Value)} {Q : Unit → Shared → Prop} (hda : d ≠ a) (hS : (a == sysModules) = false) (hd : s.heap.DictOf (mixKind prog w) d kvs) (ha : s.heap.DictOf (mixKind prog w) a more) (hz : kvs.length + more.length ≤ sizeLine)
    (hQ : ∀ h', h'.DictOf (mixKind prog w) d (merged kvs more) → Heap.SameBut d s.heap h' → Q () { s with heap := h' }) :
    wpAny (model prog w) A (mergeMapping d (.ref a) false) Q E s := by
  obtain ⟨od, esd, epd, hod, hcd, hdd, hkd, hpd, hnd⟩ := id hd
  obtain ⟨oo, eso, epo, hoo, hco, hdo, hko, hpo, hno⟩ := id ha
  have tA : s.TypeIs (.ref a) "dict" := ha.typeIs
  unfold mergeMapping
  refine wpAny_bind (wpAny_isInstance tA isSubtype_dict_dict ?_)
  simp only [if_true]
  refine wpAny_bind (wpAny_specialOf tA F.slot_dict_iter.lookup ?_)
  simp only [beq_self_eq_true]
  refine wpAny_bind (wpAny_pure ?_)
  dsimp only
  rw [if_neg (by rw [hS]; decide)]
  refine wpAny_bind (wpAny_dictEntries hod hdd ?_)
  have fin : ∀ {body : Nat → PUnit → Sem (ForInStep PUnit)}, (∀ (i : Nat) (s' : Shared) (e : DictEntry) (R : ForInStep PUnit → Shared → Prop), eso[i]? = some e → s'.heap.get? a = some oo →
      wpAny (model prog w) A (dictPut d e.hash e.key e.val) (fun _ s2 => s2.heap.get? a = some oo ∧ R (.yield PUnit.unit) s2) E s' → wpAny (model prog w) A (body i PUnit.unit) R E s') →
      wpAny (model prog w) A (do forIn (List.range eso.size) PUnit.unit body; pure ()) Q E s := fun {body} hb =>
    wpAny_bind (merge_loop hda hoo hdo hko hpo hd hz hb fun h' q1 q2 => wpAny_pure (hQ h' q1 q2))
  have turn : ∀ (i : Nat) (s' : Shared) (e : DictEntry) (R : ForInStep PUnit → Shared → Prop), eso[i]? = some e → s'.heap.get? a = some oo →
      wpAny (model prog w) A (dictPut d e.hash e.key e.val) (fun _ s2 => s2.heap.get? a = some oo ∧ R (.yield PUnit.unit) s2) E s' → wpAny (model prog w) A (do
        let x ← dictEntries a
        match x[i]? with
          | some e => do
            holding [e.key, e.val] (dictPut d e.hash e.key e.val)
            let y ← dictEpoch a
            if (y != epo) = true then do
                (unsupported "dict.changed-during-merge" : Sem PUnit)
                pure (ForInStep.yield PUnit.unit)
              else pure (ForInStep.yield PUnit.unit)
          | _ => do
            (unsupported "dict.changed-during-merge" : Sem PUnit)
            pure (ForInStep.yield PUnit.unit) : Sem (ForInStep PUnit)) R E s' := fun i s' e R he ho hw => by
    refine wpAny_bind (wpAny_dictEntries ho hdo ?_)
    rw [he]
    dsimp only
    refine wpAny_bind (wpAny_holding (wpAny_mono hw (fun _ s2 ⟨h1, h2⟩ => ?_) fun _ _ z => z))
    refine wpAny_bind (wpAny_dictEpoch h1 hdo ?_)
    rw [if_neg (by simp)]
    exact wpAny_pure h2
  split
  · refine wpAny_bind (wpAny_dictEntries hoo hdo ?_)
    refine wpAny_bind ?_
    rw [← Array.forIn_toList]
    refine wpAny_forIn_list _ (fun rest _ s' => s' = s ∧ ∀ e ∈ rest, e ∈ eso.toList) _ ?_ ?_ _ _ ⟨rfl, fun e h => h⟩
    · rintro e rest b s' ⟨rfl, hr⟩
      obtain ⟨k, hk, _⟩ := hko e (Array.mem_toList_iff.mp (hr e (List.mem_cons_self ..)))
      have nr : ∀ (R : Sem (ForInStep PUnit)) (T : Addr → Sem (ForInStep PUnit)), (match e.key with | .ref a => T a | _ => R) = R := fun R T => by
        rcases keyIs_shape (show keyIs k e.key = true from hk) with ⟨i, t, _, z⟩ | ⟨x, t, _, z⟩ <;> rw [z]
      show wpAny _ _ (match e.key with | .ref a => _ | _ => pure (ForInStep.yield PUnit.unit)) _ _ _
      rw [nr]
      exact wpAny_pure ⟨rfl, fun e' h => hr e' (List.mem_cons_of_mem _ h)⟩
    · rintro b s' ⟨rfl, hr⟩
      refine wpAny_bind (wpAny_dictEntries hoo hdo ?_)
      refine wpAny_bind (wpAny_dictEpoch hoo hdo ?_)
      exact fin turn
  · refine wpAny_bind (wpAny_dictEntries hoo hdo ?_)
    refine wpAny_bind (wpAny_dictEpoch hoo hdo ?_)
    exact fin turn
end
end RP

set_option Elab.async false
set_option linter.all false
set_option maxRecDepth 100000
set_option maxHeartbeats 400000
/-! RP36: a dict display that begins with the entries of another dict. -/
namespace RP
open PySem PySem.Spec PyProof.Rows L2
/-- first the other dict's entries, then one pair -/
theorem dup_walk {prog : Program} {w : World} {A : Around} {E : Value → Shared → Prop} {s : Shared} {Q : Value → Shared → Prop} {tm kt vt : Sem Value}
    (h : wpAny (model prog w) A tm (fun m s1 => ∃ a more, m = .ref a ∧ s.heap.objs.size ≠ a ∧ (a == sysModules) = false ∧ s1.heap.DictOf (mixKind prog w) s.heap.objs.size [] ∧ s1.heap.DictOf (mixKind prog w) a more ∧ more.length ≤ sizeLine ∧
      ∀ h1, h1.DictOf (mixKind prog w) s.heap.objs.size more → Heap.SameBut s.heap.objs.size s1.heap h1 →
        wpAny (model prog w) A (evalPairs [(kt, vt)]) (fun vs s2 => ∃ kvs, Carries (mixKind prog w) vs kvs ∧ s2.heap.DictOf (mixKind prog w) h1.objs.size [] ∧
          ∀ h2, h2.DictOf (mixKind prog w) h1.objs.size (merged [] kvs) → Heap.SameBut h1.objs.size s2.heap h2 → s.heap.objs.size ≠ h1.objs.size ∧ (h1.objs.size == sysModules) = false ∧ ∃ acc, h2.DictOf (mixKind prog w) s.heap.objs.size acc ∧ acc.length + (merged [] kvs).length ≤ sizeLine ∧
            ∀ h3, h3.DictOf (mixKind prog w) s.heap.objs.size (merged acc (merged [] kvs)) → Heap.SameBut s.heap.objs.size h2 h3 → Q (.ref s.heap.objs.size) { s2 with heap := h3, toks := s2.toks + vs.length }) E
          { s1 with heap := h1.push { cls := .type "dict", data := .dict #[] } }) E { s with heap := s.heap.push { cls := .type "dict", data := .dict #[] } }) :
    wpAny (model prog w) A (dictDisplay [(none, tm), (some kt, vt)]) Q E s := by
  unfold dictDisplay
  simp only [List.forIn_cons, List.forIn_nil]
  refine wpAny_bind (wpAny_bind (wpAny_bind (wpAny_pure ?_)))
  dsimp only
  refine wpAny_bind (wpAny_alloc ?_)
  refine wpAny_bind (wpAny_holding (wpAny_mono h (fun m s1 h1 => ?_) fun _ _ z => z))
  obtain ⟨a, more, rfl, ne, nS, d0, da, hz, h1⟩ := h1
  refine wpAny_bind (wpAny_onRaise (wpAny_tryCatch (wpAny_onRaise (wpAny_holding (merge_map ne nS d0 da (by simpa using hz) fun h' q1 q2 => ?_)))))
  refine wpAny_pure ?_
  dsimp only [List.nil_append, List.length_singleton]
  rw [if_neg (by decide)]
  refine wpAny_bind (wpAny_pure (wpAny_pure ?_))
  dsimp only [List.isEmpty_cons]
  rw [if_neg (by decide)]
  have q1' : h'.DictOf (mixKind prog w) s.heap.objs.size more := by
    obtain ⟨_, _, _, _, _, _, _, _, nd⟩ := id da
    rw [merged_nil_of_nodup more nd] at q1
    exact q1
  refine wpAny_bind (wpAny_bind (wpAny_holding (wpAny_subDict (knd := mixKind prog w) (s := { s1 with heap := h' }) (by simp) (wpAny_mono (h1 h' q1' q2) (fun vs s2 h2 => ?_) fun _ _ z => z))))
  obtain ⟨kvs, c, dq, h3⟩ := h2
  refine ⟨kvs, c, dq, fun h2 z1 z2 => ?_⟩
  obtain ⟨ne2, nS2, acc, z3, z4, z5⟩ := h3 h2 z1 z2
  refine wpAny_bind (wpAny_onRaise (wpAny_holding (merge_map (s := { s2 with heap := h2, toks := s2.toks + vs.length }) ne2 nS2 z3 z1 z4 fun h4 y1 y2 => ?_)))
  exact wpAny_pure (wpAny_pure (z5 h4 y1 y2))
/-- {**d, k: v} -/
def tDup (tm : TE) (trs : List (TE × TE)) : TE := fun σ H Q => ∀ p, H p = none → tm σ (upd H p (.dK [])) fun x H1 => H1 p = some (.dK []) ∧ ∃ a es, x = .ref a ∧ a ≠ p ∧ H1 a = some (.dK es) ∧ es.length < sizeLine ∧
  ∀ q, upd H1 p (.dK es) q = none → tPairs trs σ (upd (upd H1 p (.dK es)) q (.dK [])) fun ps H2 => H2 p = some (.dK es) ∧ H2 q = some (.dK []) ∧ ∃ k v, ps = [(kV k, v)] ∧ Q (.ref p) (upd (upd H2 q (.dK [(k, v)])) p (.dK (L2.putK es k v)))
theorem pe_dup {X : Cx} {pos : Pos} {d k v : Expr} {tm : TE} {trs : List (TE × TE)} (hd : PE X d tm) (hp : PPs X pos [some k] [v] trs) : PE X (.Dict [none, some k] [d, v] pos) (tDup tm trs) := by
  refine ⟨fun pins s σ H Q I q => ?_⟩
  have hn := I.hok.fresh (Nat.le_refl s.heap.objs.size)
  have I1 := I.laid (a := s.heap.objs.size) (o := .dK []) (h' := s.heap.push { cls := .type "dict", data := .dict #[] }) (t' := s.toks) (fun _ _ q => Heap.get?_push_of_some _ q) (Nat.le_refl _) (dk_empty s.heap I.big)
  rw [arm_eval_Dict]
  refine wpAny_bind (wpAny_standAt ?_)
  show wpAny _ _ (dictDisplay [(none, do let x ← eval d X.env; standAt pos; pure x), (some (eval k X.env), do let x ← eval v X.env; standAt pos; pure x)]) _ _ _
  refine dup_walk (wpAny_bind (thn (hd.run pins _ σ _ _ I1 (q _ hn)) fun u s1 ⟨x, H1, I2, ru, e1, a, es, ex, ne, ea, hl, q2⟩ => wpAny_bind (wpAny_standAt (wpAny_pure ?_))))
  subst ex
  obtain rfl : u = Value.ref a := ru
  obtain ⟨za, sa, vs, ka, da⟩ := dk_of I2.hok ea
  obtain ⟨z0, sp, vs0, k0, d0⟩ := dk_of I2.hok e1
  cases k0
  refine ⟨a, vs, rfl, Ne.symm ne, sa, d0, da, by rw [← Paired.length ka]; exact za, fun h1 dp sb => ?_⟩
  have there1 : ∃ o, h1.get? s.heap.objs.size = some o := let ⟨o, _, _, ho, _⟩ := dp; ⟨o, ho⟩
  have I3 : L2.Inv X pins σ (upd H1 s.heap.objs.size (.dK es)) { s1 with heap := h1 } := d_write I2 (by rw [e1]; exact True.intro) sb there1 (dk_new za sp ka dp)
  have hq := I3.hok.fresh (Nat.le_refl h1.objs.size)
  have I4 := I3.laid (a := h1.objs.size) (o := .dK []) (h' := h1.push { cls := .type "dict", data := .dict #[] }) (t' := s1.toks) (fun _ _ q => Heap.get?_push_of_some _ q) (Nat.le_refl _) (dk_empty h1 I3.big)
  refine thn (hp.run pins _ σ _ _ I4 (q2 _ hq)) fun ws s2 ⟨ps, H2, I5, rel, f1, f2, kk, y, ep, q3⟩ => ?_
  subst ep
  obtain ⟨rs, c, rk⟩ := carries_of (P := X.prog) (w := X.w) (kvs := [(kk, y)]) rel
  obtain ⟨zq, sq, vq, kq, dq⟩ := dk_of I5.hok f2
  cases kq
  refine ⟨rs, c, dq, fun h2 dq2 sb2 => ?_⟩
  have km : KV (mergeK [] [(kk, y)]) (merged [] rs) := rk.merge .nil
  have em : mergeK [] [(kk, y)] = [(kk, y)] := rfl
  rw [em] at km
  have there2 : ∃ o, h2.get? h1.objs.size = some o := let ⟨o, _, _, ho, _⟩ := dq2; ⟨o, ho⟩
  have I6 : L2.Inv X pins σ (upd H2 h1.objs.size (.dK [(kk, y)])) { s2 with heap := h2, toks := s2.toks + ws.length } := d_write I5 (by rw [f2]; exact True.intro) sb2 there2 (dk_new (by rw [sizeLine_eq]; exact Nat.le_of_ble_eq_true rfl) sq km dq2)
  have pne : s.heap.objs.size ≠ h1.objs.size := fun z => by
    rw [← z, upd_same] at hq
    cases hq
  have f3 : upd H2 h1.objs.size (.dK [(kk, y)]) s.heap.objs.size = some (.dK es) := by rw [upd_ne pne]; exact f1
  obtain ⟨zp, sp', vp, kp, dp2⟩ := dk_of I6.hok f3
  refine ⟨pne, sq, vp, dp2, by rw [← Paired.length kp, ← Paired.length km]; exact hl, fun h3 dp3 sb3 => ?_⟩
  have kf : KV (mergeK es [(kk, y)]) (merged vp (merged [] rs)) := km.merge kp
  have there3 : ∃ o, h3.get? s.heap.objs.size = some o := let ⟨o, _, _, ho, _⟩ := dp3; ⟨o, ho⟩
  have hz3 : (mergeK es [(kk, y)]).length ≤ sizeLine := by
    have l1 := length_mergeK [(kk, y)] es
    rw [List.length_singleton] at l1
    omega
  have I7 := d_write (t' := s2.toks + ws.length) I6 (by rw [f3]; exact True.intro) sb3 there3 (dk_new hz3 sp' kf dp3)
  exact ⟨.ref s.heap.objs.size, _, I7, rfl, q3⟩
section
variable {X : Cx} {G : Gd} {C : Cc} {D : DK} {E : XK} {K : Orc}
theorem oe_dup (hD : DOk D) {d k v : Expr} {x a b : RP.E} {pos : Pos} (h1 : OE X G D E K d x) (h2 : OE X G D E K k a) (h3 : OE X G D E K v b) : OE X G D E K (.Dict [none, some k] [d, v] pos) (.dup x [(a, b)]) := oe_of fun m => by
  have hk : OKs X G D E K [some k] [v] [(a, b)] := .cons h2 h3 .nil
  refine PE.imp (pe_dup (h1 m) (hk.pps m)) ?_
  rintro σ H Q ⟨r, h, env, rel, er, P⟩ p hp
  replace P : PostG G (RVal G) E r h H Q ((evE G.p K m x env h).bind fun x h => (match dctOf h x with
      | some kvs => if kvs.length < 16777216 then (evKs G.p K m [(a, b)] kvs env h).bind fun kvs h => .ok (.ref h.n) (h.push (.dct kvs)) else .no
      | none => .no)) := P
  have s0 : Step G r h H r h (upd H p (.dK [])) := .ext rel hp
  have rel0 : Rel G r h (upd H p (.dK [])) := rel.ext hp
  have er0 := er.step hD rel s0
  have nm0 : ¬ Mu r h p := fun mu => by
    obtain ⟨y, hy, _⟩ := Mu.there rel mu
    rw [hp] at hy; cases hy
  refine ⟨r, h, env, rel0, er0, (PostG.bind2 (R := RVal G) s0 P).imp fun u H1 ⟨r1, h1, w, rel1, s1, q1, P1⟩ => ?_⟩
  have k1 : H1 p = some (.dK []) := s1.keep p _ upd_same (fun φ z => nomatch z) nm0 (T.not rel0 upd_same fun ps z => nomatch z)
  have k2 : ¬ Mu r1 h1 p := fun mu => by
    rcases s1.fresh p mu with z | z | ⟨o, z, nk⟩
    · exact nm0 z
    · rw [upd_same] at z; cases z
    · rw [upd_same] at z; cases z; exact nk fun φ z => nomatch z
  cases g : dctOf h1 w with
  | none => rw [g] at P1; exact (show False from P1).elim
  | some kvs =>
    rw [g] at P1
    simp only at P1
    split at P1
    · rename_i hz
      obtain ⟨n', c, es, e1, hg, ea, rfl, hA, kA, nd⟩ := dct_at rel1 q1 g
      have cne : c ≠ p := fun z => k2 (by rw [← z]; exact ⟨n', _, ea, hg, rfl⟩)
      refine ⟨k1, c, es, rfl, cne, hA, by rw [szl, pair_len kA]; exact hz, fun q hq => ?_⟩
      have rel2 : Rel G r1 h1 (upd H1 p (.dK es)) := rel1.free k1 rfl k2
      have st2 : Step G r h H r1 h1 (upd H1 p (.dK es)) := (s0.trans s1).free hp
      have rel3 := rel2.ext (x := .dK []) hq
      have st3 := st2.trans (Step.ext rel2 (x := .dK []) hq)
      have qp : q ≠ p := fun z => by rw [z, upd_same] at hq; cases hq
      have er3 : EnvR G D r1 (upd (upd H1 p (.dK es)) q (.dK [])) σ env := er.step hD rel st3
      refine pairs_run hD rel3 st3 er3 (es := es) kA nd P1 fun r4 h4 H4 ks acc rel4 st4 s4 hl qk nd4 P4 => ?_
      have f1 : upd (upd H1 p (.dK es)) q (.dK []) p = some (.dK es) := by rw [upd_ne (Ne.symm qp), upd_same]
      have nmq : ¬ Mu r1 h1 q := fun mu => by
        obtain ⟨y, hy, _⟩ := Mu.there rel2 mu
        rw [hq] at hy; cases hy
      have stay : ∀ {z : Addr} {o : HO}, upd (upd H1 p (.dK es)) q (.dK []) z = some o → (∀ φ, o ≠ .ext φ) → (∀ ps, o ≠ .tbl ps) → ¬ Mu r1 h1 z → H4 z = some o ∧ ¬ Mu r4 h4 z := fun {z o} e n1 n2 n3 => by
        refine ⟨s4.keep z _ e (fun φ y => absurd y (n1 φ)) n3 (T.not rel3 e n2), fun mu => ?_⟩
        rcases s4.fresh z mu with y | y | ⟨o', y, nk⟩
        · exact n3 y
        · rw [e] at y; cases y
        · rw [e] at y; cases y; exact nk fun φ y => absurd y (n1 φ)
      obtain ⟨a1, a2⟩ := stay f1 (fun φ z => nomatch z) (fun ps z => nomatch z) k2
      obtain ⟨b1, b2⟩ := stay upd_same (fun φ z => nomatch z) (fun ps z => nomatch z) nmq
      match ks, hl, qk with
      | [(k0, v0)], _, qk =>
        refine ⟨a1, b1, k0, v0, rfl, ?_⟩
        have rel5 := rel4.free (y := .dK [(k0, v0)]) b1 rfl b2
        have st5 : Step G r h H r4 h4 (upd H4 q (.dK [(k0, v0)])) := st2.trans (((Step.ext rel2 (x := .dK []) hq).trans s4).free hq)
        have c1 : upd H4 q (.dK [(k0, v0)]) p = some (.dK es) := by rw [upd_ne (Ne.symm qp)]; exact a1
        have rel6 := rel5.free (y := .dK (L2.putK es k0 v0)) c1 rfl a2
        have st6 := st5.free (y := .dK (L2.putK es k0 v0)) hp
        exact P4 (.ref p) _ (r4 ++ [p]) (rel6.adopt a2 rfl ⟨_, upd_same, kvw_mono (Le.push r4 p) qk, nd4⟩) (st6.adopt rel6 hp) ⟨p, get_new rel6 p, rfl⟩
    · exact (show False from P1).elim
end
end RP

set_option Elab.async false
set_option linter.all false
set_option maxRecDepth 100000
set_option maxHeartbeats 400000
/-! RP37: comparisons, own instances too. -/
namespace RP
open PySem PySem.Spec PyProof.Rows L2

theorem int_eq_ins (b : Int) (u : Tok) (l C dx : Addr) :
    Meets (Builtin.«int.__eq__» ⟨[.int b u, .ref l], []⟩) (fun _ R s => s.heap.get? l = some (PySem.W.instObj C dx) ∧ R (.ok (.ret .notImplemented)) s) :=
  .of_wp fun prog w A R s h => by
    obtain ⟨hp, g, d, tk, os⟩ := s
    obtain ⟨hl, h⟩ := h
    wp_walk using AutoSeq1.wpAny_loadPart' hl, wpAny_load hl
    exact ⟨_, rfl, h⟩
theorem mro_int0 : fastBuiltinMro "int" = some [.type "int", .type "object"] := by kernel_rfl
theorem mro_none0 : fastBuiltinMro "NoneType" = some [.type "NoneType", .type "object"] := by kernel_rfl
section
variable {X : Cx} {G : Gd} {C : Cc} {D : DK} {E : XK} {K : Orc}
/-- an own instance's class is none of the built-in ones -/
def EqOk (G : Gd) : Prop := ∀ c f, methI G.p c eqS = some f → ∀ T ∈ ["int", "NoneType"], PySem.W.subIn G.K (.ref (G.C c)) (.type T) = some false
theorem insOf_at {h : Hv} {w : W} {c : Nat} (e : insOf h w = some c) : ∃ n fs, w = .ref n ∧ h.get n = some (.ins c fs) := by
  cases w with
  | ref n =>
    simp only [insOf] at e
    cases g : h.get n with
    | none => rw [g] at e; cases e
    | some o =>
      rw [g] at e
      cases o with
      | ins d fs => cases e; exact ⟨n, fs, rfl, g⟩
      | _ => cases e
  | _ => cases e
/-- a truth value's end -/
theorem end_bl {r : List Addr} {h : Hv} {H : Hp} {Q : VK} : ∀ {x : Res W}, PostG G (RVal G) E r h H Q (x.bind fun w h => (match w with | .bl b => .ok (.bl b) h | _ => .no)) → PostG G (RVal G) E r h H (fun v H' => ∃ b, v = .bl b ∧ Q v H') x
  | .ok w h', P => fun v H' r' rel st q => by
    cases w with
    | bl b => exact ⟨b, q, P v H' r' rel st q⟩
    | _ => exact (show False from P).elim
  | .ex _ _ _, P => P
  | .no, P => P
theorem ins_inst {pins : List (Addr × Obj)} {σ : L2.St} {H : Hp} {s : Shared} {a Cl dx : Addr} {fs : List (Str × V)} (I : L2.Inv X pins σ H s) (e : H a = some (.ins Cl dx fs)) : s.heap.get? a = some (PySem.W.instObj Cl dx) ∧ ∃ od, PySem.W.InstAt s.heap a (PySem.W.instObj Cl dx) Cl (some od) := by
  obtain ⟨mA, J, _⟩ := ins_get I.hok e
  obtain ⟨od, J', _⟩ := J.look
  exact ⟨J'.at_, od, J'⟩
theorem run_eq (hX : XOk G C X) (hk : KOk X G E K) {pins : List (Addr × Obj)} {σ : L2.St} {H : Hp} {s : Shared} {f : Nat} {r : List Addr} {h : Hv} {x y : V} {u v : Value} {a b : W} {Q : VK} (I : L2.Inv X pins σ H s) (rel : Rel G r h H) (qa : VW G r x a) (qb : VW G r y b) (ra : RelV x u) (rb : RelV y v)
    (P : PostG G (RVal G) E r h H Q ((K.fn f [a, b] h).bind fun w h => (match w with | .bl b => .ok (.bl b) h | _ => .no))) : wpAny (model X.prog X.w) X.A (call (.ref (G.F f)) [u, v]) (PySem.W.CmpBack (EP X pins σ Q)) X.xe s := by
  refine wpAny_mono (run_orc hk (σ := σ) rel (.cons qa (.cons qb .nil)) (end_bl P) pins s [u, v] I (.cons ra (.cons rb .nil))) (fun z s' ⟨v', H', I', rv, b', e, q⟩ => ?_) fun _ _ z => z
  subst e
  obtain rfl : z = Value.bool b' := rv
  exact ⟨.bl b', H', I', rfl, q⟩
theorem cmp_own (hX : XOk G C X) (hG : GOk G) (hk : KOk X G E K) (hE : EqOk G) : CmpOk X G E K := by
  intro o pins s σ H x y u v Q I rx ry ⟨r, h, a, b, rel, qa, qb, P⟩
  replace P : PostG G (RVal G) E r h H Q (match (generalizing := false) insOf h a with
  | some c => (match (generalizing := false) o, methI G.p c eqS with
    | .Eq, some f => if eqOther h c b then (K.fn f [a, b] h).bind fun w h => (match w with
      | .bl b => .ok (.bl b) h
      | _ => .no) else .no
    | _, _ => .no)
  | none => (match (generalizing := false) insOf h b with
    | some c => (match (generalizing := false) o, methI G.p c eqS, a with
      | .Eq, some f, .int _ => (K.fn f [b, a] h).bind fun w h => (match w with
        | .bl b => .ok (.bl b) h
        | _ => .no)
      | .Eq, some f, .non => (K.fn f [b, a] h).bind fun w h => (match w with
        | .bl b => .ok (.bl b) h
        | _ => .no)
      | _, _, _ => .no)
    | none => (match (generalizing := false) cmpW h o a b with
      | some b => .ok (.bl b) h
      | none => .no))) := P
  have hu : X.A.units < cLine := by have := hX.units; omega
  obtain ⟨m, hF⟩ := I.fr
  cases g1 : insOf h a with
  | some c =>
    rw [g1] at P
    simp only at P
    obtain ⟨n, fs, ea, hg⟩ := insOf_at g1
    cases g2 : methI G.p c eqS with
    | none => rw [g2] at P; cases o <;> exact P.elim
    | some f =>
      rw [g2] at P
      cases o with
      | Eq =>
        simp only at P
        cases hq : eqOther h c b with
        | false => rw [hq] at P; exact P.elim
        | true =>
          rw [hq, if_pos rfl] at P
          rw [ea] at qa
          obtain ⟨ad, rfl, ea', dx, es, hA, kA⟩ := ref_obj rel qa hg
          obtain rfl : u = Value.ref ad := rx
          obtain ⟨ga, od, IA⟩ := ins_inst I hA
          have M := hG.meth c _ f g2
          show wpAny _ _ (richCompare .Eq (.ref ad) v) _ _ _
          have ht : ∃ tb, PySem.W.Looks (model X.prog X.w) s.heap (typeOf v) tb ∧ PySem.W.notFirst X.K (G.C c) tb = true := by
            cases b with
            | int i =>
              obtain ⟨t, rfl⟩ := (show ∃ t, v = Value.int i t by rw [show y = .int i from qb] at ry; exact ry)
              exact ⟨.type "int", fun A Q E s _ q => wpAny_typeOf (typeIs_int s i t) q, by
                show (Value.type "int" == Value.ref (G.C c) || ((fastBuiltinMro "int").map (fun l => l.contains (Value.ref (G.C c))) == some false)) = true
                rw [mro_int0]; rfl⟩
            | non =>
              obtain rfl : v = Value.none := (by rw [show y = .non from qb] at ry; exact ry)
              exact ⟨.type "NoneType", fun A Q E s _ q => wpAny_typeOf (show s.TypeIs Value.none "NoneType" from rfl) q, by
                show (Value.type "NoneType" == Value.ref (G.C c) || ((fastBuiltinMro "NoneType").map (fun l => l.contains (Value.ref (G.C c))) == some false)) = true
                rw [mro_none0]; rfl⟩
            | ref k =>
              simp only [eqOther] at hq
              cases g3 : h.get k with
              | none => rw [g3] at hq; cases hq
              | some ob =>
                rw [g3] at hq
                cases ob with
                | ins d gs =>
                  have ed : d = c := eq_of_beq hq
                  subst ed
                  obtain ⟨bd, rfl, _, dy, es2, hB, _⟩ := ref_obj rel qb g3
                  obtain rfl : v = Value.ref bd := ry
                  obtain ⟨_, od2, IB⟩ := ins_inst I hB
                  exact ⟨.ref (G.C d), IB.type, by simp [PySem.W.notFirst]⟩
                | _ => cases hq
            | _ => cases hq
          obtain ⟨tb, lt, nf⟩ := ht
          refine PySem.W.cmp_K (op := .Eq) hu hF I.ok.mod.kin IA lt nf (by rw [hX.K]; exact M.at_) (by rw [hX.K]; exact M.fn) ?_
          rw [ea] at P
          exact run_eq hX hk I rel qa qb rfl ry P
      | _ => exact P.elim
  | none =>
    rw [g1] at P
    simp only at P
    cases g2 : insOf h b with
    | none =>
      rw [g2] at P
      exact op_cmpV (E := E) hX.K hX.w (by have := hX.units; omega) o pins s σ H x y u v Q I rx ry ⟨r, h, a, b, rel, qa, qb, P⟩
    | some c =>
      rw [g2] at P
      simp only at P
      obtain ⟨n, fs, eb, hg⟩ := insOf_at g2
      cases g3 : methI G.p c eqS with
      | none => rw [g3] at P; cases o <;> exact P.elim
      | some f =>
        rw [g3] at P
        cases o with
        | Eq =>
          rw [eb] at qb
          obtain ⟨bd, rfl, eb', dx, es, hB, kB⟩ := ref_obj rel qb hg
          obtain rfl : v = Value.ref bd := ry
          obtain ⟨gb, od, IB⟩ := ins_inst I hB
          have M := hG.meth c _ f g3
          show wpAny _ _ (richCompare .Eq u (.ref bd)) _ _ _
          have back : ∀ {T id : String} (hT : s.TypeIs u T) (sl : Slot T (cmpInfo .Eq).2.1 id) (hs : PySem.W.subIn G.K (.ref (G.C c)) (.type T) = some false)
              (hd : ∀ {Q' : Value → Shared → Prop}, Q' .notImplemented s → wpAny (model X.prog X.w) X.A (call (.builtin id) [u, .ref bd]) Q' X.xe s)
              (hcall : wpAny (model X.prog X.w) X.A (call (.ref (G.F f)) [.ref bd, u]) (PySem.W.CmpBack (EP X pins σ Q)) X.xe s), wpAny (model X.prog X.w) X.A (richCompare .Eq u (.ref bd)) (EP X pins σ Q) X.xe s := fun {T id} hT sl hs hd hcall => by
            unfold richCompare
            simp only [hT.oneThing_none, cmpInfo]
            refine wpAny_holding (wpAny_bind (wpAny_cRoomFor hu ?_))
            refine wpAny_bind (wpAny_typeOf hT (wpAny_bind (IB.type.here ?_)))
            rw [if_pos (by simp)]
            refine wpAny_bind ((PySem.W.looks_subIn I.kIn (by rw [hX.K]; exact hs)).here ?_)
            simp only [Bool.false_eq_true, if_false, Bool.not_false, if_true]
            refine wpAny_bind (m := tryCompare u _ (.ref bd)) (wpAny_tryCompare_declines hT sl (hd ⟨rfl, ?_⟩))
            have one : wpAny (model X.prog X.w) X.A (tryCompare (.ref bd) "__eq__" u) (fun r s' => ∃ v, r = some v ∧ EP X pins σ Q v s') X.xe s := by
              unfold tryCompare
              refine wpAny_bind (PySem.W.ifBound_K I.kIn IB (by rw [hX.K]; exact M.at_) (by rw [hX.K]; exact M.fn) (wpAny_mono hcall (fun v s' hv => ?_) fun _ _ e => e))
              cases v <;> first | exact hv.elim | exact wpAny_pure ⟨_, rfl, hv⟩
            refine wpAny_bind (m := tryCompare (.ref bd) _ u) (wpAny_mono one (fun r s' z => ?_) fun _ _ e => e)
            obtain ⟨v, rfl, hq⟩ := z
            exact wpAny_pure hq
          cases a with
          | int i =>
            obtain ⟨t, rfl⟩ := (show ∃ t, u = Value.int i t by rw [show x = .int i from qa] at rx; exact rx)
            simp only [eb] at P
            exact back (typeIs_int s i t) F.slot_int_eq (hE c f g3 _ (by simp)) (fun {Q'} q => call_meets F.slot_int_eq (typeIs_int s i t) F.entry_int_eq (F.args_int_eq_2 _ _) (int_eq_ins i t bd _ _) ⟨gb, q⟩) (run_eq hX hk I rel qb qa rfl rx P)
          | non =>
            obtain rfl : u = Value.none := (by rw [show x = .non from qa] at rx; exact rx)
            simp only [eb] at P
            exact back (show s.TypeIs Value.none "NoneType" from rfl) F.slot_NoneType_eq_refl (hE c f g3 _ (by simp)) (fun {Q'} q => call_gives F.slot_NoneType_eq_refl rfl F.entry_NoneType_eq (F.args_NoneType_eq_2 _ _) (SeqAt.NoneType___eq___none_ref_0 bd) q) (run_eq hX hk I rel qb qa rfl rx P)
          | _ => exact (show False from P).elim
        | _ => exact (show False from P).elim
end
end RP

set_option Elab.async false
set_option linter.all false
set_option maxRecDepth 100000
set_option maxHeartbeats 400000
/-! RP38: lambdas and inner defs are made. -/
namespace RP
open PySem PySem.Spec PyProof.Rows L2 LamX NdefX

abbrev NG.ob (F : NG) (doc pm ctv : Value) : Obj := { cls := .type "function", data := .func (F.fd doc pm ctv) }
section
variable {X : Cx} {pins : List (Addr × Obj)} {σ : L2.St} {H : Hp} {s : Shared}
/-- a function object just made is known from now on -/
theorem inv_fz {F : NG} {t' : Nat} {doc pm ctv : Value} (I : L2.Inv X pins σ H s) :
    L2.Inv X pins σ (upd H s.heap.objs.size (.frz (F.ob doc pm ctv) (.own 0))) { s with heap := s.heap.push (F.ob doc pm ctv), toks := t' } :=
  I.laid (a := s.heap.objs.size) (fun b u e => Heap.get?_push_of_some _ e) (Nat.le_refl _) ⟨Heap.get?_push_size _ rfl, ⟨_, Heap.get?_push_size _ rfl⟩⟩
/-- what is new in the heap -/
structure Grown (P : Addr) (H H1 : Hp) : Prop where
  keep : ∀ b o, H b = some o → b ≠ P → H1 b = some o
  back : ∀ b, H1 b = none → H b = none
  cel : ∀ c u, H1 c = some (.frz u (.own 0)) → H c = some (.frz u (.own 0)) ∨ H c = none
theorem make_fn {T : List NTab} {nm : Nat → Nat → Str} {c P : Addr} {F : NG} {pos : Pos} {E : Value → Shared → Prop} {Q : Value → Shared → Prop} (I : L2.Inv X pins σ H s) (TB : TabB X.base X.mg c P) (hcode : X.env.code = .ref c)
    (hm : (P, nm) ∈ T) (hn : nm pos.line pos.col = F.qual) (hu : ∀ p ∈ T, p.1 = P → p.2 = nm) (hT : TabsN T H) (hfree : ∀ y ∈ F.scope.names, y.2 = .free → ∃ c, X.env.cells.lookup y.1 = some c) (hcl : F.cl = cloFrom X.env.cells F.scope.names [])
    (h : ∀ (f c' : Addr) (H1 : Hp) (s' : Shared), L2.Inv X pins σ H1 s' → Grown P H H1 → TabsN T H1 → H f = none → FzG H1 f { F with c := c' } → H1 c' = some (CodeO c' F.qual) → Q (.ref f) s') :
    wpAny (model X.prog X.w) X.A (makeFunction F.name F.qual F.params F.body F.scope X.env [] [] [] pos pos.line) Q E s := by
  obtain ⟨name, qual, params, body, scope, cl, c0⟩ := F
  simp only at hn hfree hcl h ⊢
  subst hcl
  obtain ⟨ps, hP, ht, ha⟩ := (show TabN H P nm from hT _ hm)
  have bP : s.heap.BuiltinsAt X.mg P := TB.bm.keeps I.bk
  have hP' : s.heap.get? P = some { cls := .none, data := .fields ps } := I.hok P _ hP
  cases hc : codeAmong pos ps.toList with
  | none =>
    have go : ∀ (c' : Addr) (ctv doc : Value) (h' : Heap) (tk : Tok), Heap.ExtBut P s.heap h' → s.heap.objs.size ≤ c' → c' < h'.objs.size → h'.CodeRec (.ref c') qual → h'.get? P = some { cls := .none, data := .fields (ps ++ #[rawInt pos.line, rawInt pos.col, .ref c']) } →
        Q (.ref h'.objs.size) { s with heap := h'.push (NG.ob ⟨name, qual, params, body, scope, cloFrom X.env.cells scope.names [], c'⟩ doc ((X.mg "__name__").getD .none) ctv), toks := tk } := fun c' ctv doc h' tk hx hge hlt hrec htb => by
      obtain ⟨c2, oc, vs, t, e2, hoc, hd, hv⟩ := hrec
      cases e2
      have nC : H c' = none := I.hok.fresh hge
      have I1 := inv_table (t' := tk) (more := #[rawInt pos.line, rawInt pos.col, .ref c']) (h' := h') I hP (fun b o hb e => hx b o hb e) htb hge ⟨oc, vs, t, hoc, hd, hv⟩
      have kE : ∀ b o, H b = some o → b ≠ P → upd (upd H P (.tbl (ps ++ #[rawInt pos.line, rawInt pos.col, .ref c']))) c' (CodeO c' qual) b = some o := fun b o e n => by
        rw [upd_ne (ne_of_none e nC), upd_ne n]
        exact e
      have eL : (ps ++ #[rawInt pos.line, rawInt pos.col, .ref c']).toList = ps.toList ++ [rawInt pos.line, rawInt pos.col, .ref c'] := by simp
      have codeK : ∀ {x : Addr} {q : Str}, H x = some (CodeO x q) → upd (upd H P (.tbl (ps ++ #[rawInt pos.line, rawInt pos.col, .ref c']))) c' (CodeO c' qual) x = some (CodeO x q) := fun {x q} e =>
        kE _ _ e fun z => by rw [z, hP] at e; exact absurd (Option.some.inj e).symm (codeO_ne _)
      have T1 : TabsN T (upd (upd H P (.tbl (ps ++ #[rawInt pos.line, rawInt pos.col, .ref c']))) c' (CodeO c' qual)) := fun p hp => by
        by_cases hb : p.1 = P
        · rw [hu p hp hb, hb]
          refine ⟨_, by rw [upd_ne (ne_of_none hP nC), upd_same], by rw [eL]; exact PySem.TriplesOk_snoc _ _ _ _ ht, fun p' cv hcv => ?_⟩
          rw [eL] at hcv
          rcases among_app2 _ ht hcv with z | ⟨z, z1, z2⟩
          · obtain ⟨cz, y1, y2⟩ := ha p' cv z
            exact ⟨cz, y1, codeK y2⟩
          · refine ⟨c', z, ?_⟩
            rw [← z1, ← z2, hn]
            exact upd_same
        · obtain ⟨ps', a1, a2, a3⟩ := hT p hp
          refine ⟨ps', kE _ _ a1 hb, a2, fun p' cv hcv => ?_⟩
          obtain ⟨cz, y1, y2⟩ := a3 p' cv hcv
          exact ⟨cz, y1, codeK y2⟩
      have nF := I1.hok.fresh (Nat.le_refl _)
      have I2 := inv_fz (F := ⟨name, qual, params, body, scope, cloFrom X.env.cells scope.names [], c'⟩) (t' := tk) (doc := doc) (pm := (X.mg "__name__").getD .none) (ctv := ctv) I1
      refine h h'.objs.size c' _ _ I2 ⟨fun b o e n => ?_, fun b e => upd_none (upd_none (upd_none e)), fun b u e => ?_⟩ (T1.ext fun b o e => ?_) (I.hok.fresh (Nat.le_trans hge (Nat.le_of_lt hlt))) ⟨_, _, _, _, _, _, upd_same⟩ ?_
      · exact (upd_ne (ne_of_none (kE b o e n) nF)).trans (kE b o e n)
      · by_cases z1 : b = h'.objs.size
        · exact .inr (by rw [z1]; exact I.hok.fresh (Nat.le_trans hge (Nat.le_of_lt hlt)))
        · rw [upd_ne z1] at e
          by_cases z2 : b = c'
          · rw [z2, upd_same] at e; cases e
          · rw [upd_ne z2] at e
            by_cases z3 : b = P
            · rw [z3, upd_same] at e; cases e
            · rw [upd_ne z3] at e; exact .inl e
      · exact (upd_ne (ne_of_none e nF)).trans e
      · exact (upd_ne (Nat.ne_of_lt hlt)).trans upd_same
    cases body with
    | stmts b => exact PySem.W.makeFunction_K (mg := X.mg) (c := c) (P := P) (ps := ps) (closure_ok hfree) I.ok.glob (I.mod.glob.keeps I.bk) hcode (TB.code.keeps I.bk) hP' ht hc TB.gP bP fun c' ctv doc h' tk hx hge hlt hrec htb => go c' ctv doc h' tk hx hge hlt hrec htb
    | expr e => exact PySem.W.kla_makeFunction (mg := X.mg) (c := c) (P := P) (ps := ps) (closure_ok hfree) I.ok.glob (I.mod.glob.keeps I.bk) hcode (TB.code.keeps I.bk) hP' ht hc TB.gP bP fun c' ctv h' tk hx hge hlt hrec htb => go c' ctv .none h' tk hx hge hlt hrec htb
  | some cv =>
    obtain ⟨c', e, hco⟩ := ha pos cv hc
    subst e
    rw [hn] at hco
    have go : ∀ (ctv doc : Value) (h' : Heap) (tk : Tok), (∀ b o, s.heap.get? b = some o → h'.get? b = some o) → s.heap.objs.size ≤ h'.objs.size →
        Q (.ref h'.objs.size) { s with heap := h'.push (NG.ob ⟨name, qual, params, body, scope, cloFrom X.env.cells scope.names [], c'⟩ doc ((X.mg "__name__").getD .none) ctv), toks := tk } := fun ctv doc h' tk hx hsz => by
      have I1 : L2.Inv X pins σ H { s with heap := h', toks := tk } := I.kept hx
      have nF : H h'.objs.size = none := I1.hok.fresh (Nat.le_refl _)
      have I2 := inv_fz (F := ⟨name, qual, params, body, scope, cloFrom X.env.cells scope.names [], c'⟩) (t' := tk) (doc := doc) (pm := (X.mg "__name__").getD .none) (ctv := ctv) I1
      refine h h'.objs.size c' _ _ I2 ⟨fun b o e n => ?_, fun b e => upd_none e, fun b u e => ?_⟩ (hT.ext fun b o e => ?_) nF ⟨_, _, _, _, _, _, upd_same⟩ ?_
      · exact (upd_ne (ne_of_none e nF)).trans e
      · by_cases z1 : b = h'.objs.size
        · exact .inr (by rw [z1]; exact nF)
        · rw [upd_ne z1] at e; exact .inl e
      · exact (upd_ne (ne_of_none e nF)).trans e
      · exact (upd_ne (ne_of_none hco nF)).trans hco
    cases body with
    | stmts b => exact PySem.W.makeFunction_hit (mg := X.mg) (c := c) (P := P) (ps := ps) (closure_ok hfree) I.ok.glob (I.mod.glob.keeps I.bk) hcode (TB.code.keeps I.bk) hP' ht hc bP fun ctv doc h' tk hx hsz => go ctv doc h' tk hx hsz
    | expr e => exact PySem.W.kla_makeFunctionHit (mg := X.mg) (c := c) (P := P) (ps := ps) (closure_ok hfree) I.ok.glob (I.mod.glob.keeps I.bk) hcode (TB.code.keeps I.bk) hP' ht hc bP fun ctv h' tk hx hsz => go ctv .none h' tk hx hsz
end
/-! ### the virtual side -/
section
variable {G : Gd} {r : List Addr} {h : Hv} {H H1 : Hp} {P : Addr}
theorem Rel.grown (rel : Rel G r h H) (g : Grown P H H1) (hP : G.T P) (t : G.Tab H1) : Rel G r h H1 := by
  have nP : ∀ q o, H q = some o → (∀ ps, o ≠ .tbl ps) → H1 q = some o := fun q o e n => g.keep q o e fun z => by
    obtain ⟨ps, e2⟩ := T.tbl rel hP
    rw [z, e2] at e
    cases e
    exact n ps rfl
  have kp : Kp H H1 := ⟨fun q o u e => nP _ _ e fun ps z => (nomatch z), fun q s e => nP _ _ e codeO_ne⟩
  refine ⟨rel.len, fun n o a e q => ?_, rel.inj, fun i j a b c o1 o2 q1 q2 c1 c2 e1 e2 z1 z2 => ?_, fun m x y e => ?_, t, rel.pre⟩
  · have w := rel.obj n o a e q
    cases o with
    | lst ws => obtain ⟨vs, e, z⟩ := w; exact ⟨vs, nP _ _ e (fun ps q => nomatch q), z⟩
    | tup ws =>
      obtain ⟨vs, e, z⟩ := w
      refine ⟨vs, ?_, z⟩
      rcases e with (e | ⟨o, e⟩) | e
      · exact .inl (.inl (nP _ _ e fun ps q => nomatch q))
      · exact .inl (.inr ⟨o, nP _ _ e fun ps q => nomatch q⟩)
      · exact .inr e
    | rls ws =>
      obtain ⟨vs, e, z⟩ := w
      refine ⟨vs, ?_, z⟩
      rcases e with ⟨o, e⟩ | e
      · exact .inl ⟨o, nP _ _ e fun ps q => nomatch q⟩
      · exact .inr e
    | dct kvs => obtain ⟨es, e, z⟩ := w; exact ⟨es, nP _ _ e (fun ps q => nomatch q), z⟩
    | ins c fs => obtain ⟨dx, es, e, z⟩ := w; exact ⟨dx, es, nP _ _ e (fun ps q => nomatch q), z⟩
    | wdc kvs => exact w
    | clo l cs => obtain ⟨vs, F, ps, c, bb, e, z⟩ := w; exact ⟨vs, F, ps, c, bb, e.kp kp, z⟩
    | dead => trivial
  · have back : ∀ (n : Nat) (ok : O) (b : Addr), h.get n = some ok → isClo ok = true → r[n]? = some b → Cel H1 b c → Cel H b c := fun n ok b q ck e z => by
      obtain ⟨l, vs, F, ps, cs, bb, CC⟩ := OR.clo ck (rel.obj n ok b q e)
      exact CC.back (fun o u e => kp.frz _ _ _ e) z
    exact rel.cinj i j a b c o1 o2 q1 q2 c1 c2 e1 e2 (back i o1 a q1 c1 e1 z1) (back j o2 b q2 c2 e2 z2)
  · obtain ⟨N, b, c, φ0, φ1, φ2, φ3, φ4, e1, e2, e3, z⟩ := rel.zip m x y e
    exact ⟨N, b, c, φ0, φ1, φ2, φ3, φ4, e1, e2, e3, z.keeps fun q φ e => nP q _ e fun ps z => (nomatch z)⟩
theorem Step.grown (rel : Rel G r h H) (g : Grown P H H1) (hP : G.T P) (t : G.Tab H1) : Step G r h H r h H1 where
  le := .refl r
  keep := fun q o e _ _ nt => g.keep q o e fun z => nt (by rw [z]; exact hP)
  fresh := fun q m => .inl m
  tab := fun q tq ⟨o, e, kp⟩ => by
    by_cases z : q = P
    · obtain ⟨p, hp, e2⟩ := hP
      obtain ⟨ps, e3, _⟩ := (show TabN H1 p.1 p.2 from t p hp)
      exact ⟨.tbl ps, by rw [z, ← e2]; exact e3, fun φ z => nomatch z⟩
    · exact ⟨o, g.keep q o e z, kp⟩
end
end RP

set_option Elab.async false
set_option linter.all false
set_option maxRecDepth 100000
set_option maxHeartbeats 400000
/-! RP39: lambdas and inner defs, read; arguments. -/
namespace RP
open PySem PySem.Spec PyProof.Rows L2 LamX NdefX

/-- a local function that a name holds, not handed on -/
def PendOk (X : Cx) (G : Gd) (H : Hp) (v : V) (l : Lm) : Prop := ∃ (f : Addr) (F : NG) (ps : List Str) (cs : List Nat) (b : List S), v = .ref f ∧ FzG H f F ∧ H F.c = some (CodeO F.c F.qual) ∧ Mt G.gl F l ps cs b ∧ Caps X F.cl (freesOf F.scope) cs ∧ ∀ y c, F.cl.lookup y = some c → y ∈ freesOf F.scope
/-- what the running code needs to make local functions -/
def MkOk (X : Cx) (G : Gd) (C : Cc) : Prop := ∃ c P nm, TabB X.base X.mg c P ∧ X.env.code = .ref c ∧ (P, nm) ∈ G.Ts ∧ (∀ p ∈ G.Ts, p.1 = P → p.2 = nm) ∧ ∀ i j, nm i j = X.env.qual ++ nmOf C.nm i j
/-- what is known of the running frame's names -/
structure FrD (X : Cx) (G : Gd) (C : Cc) (D : DK) : Prop where
  dok : DOk D
  ze : DZe X D
  pe : ∀ H v l, D H v (.pend l) → PendOk X G H v l ∧ ∀ y, X.fn y = true
  lm : C.lam = true → MkOk X G C ∧ (∀ H v l, PendOk X G H v l → D H v (.pend l)) ∧ ∀ y, X.fn y = true
theorem argNames_is {a : Arguments} {ps : List Str} (h : argNames a = some ps) : ∃ as, a = ⟨[], as, none, [], [], none, []⟩ ∧ ps = as.map (·.arg) := by
  unfold argNames at h
  split at h
  · cases h; exact ⟨_, rfl, rfl⟩
  · cases h
theorem seqM_map {α β : Type} {f : α → Option β} : ∀ {l : List α} {r : List β}, seqM (l.map f) = some r → Paired (fun a b => f a = some b) l r
  | [], r, h => by cases h; exact .nil
  | a :: l, r, h => by
    rw [List.map_cons] at h
    cases g : f a with
    | none => rw [g] at h; cases h
    | some b =>
      rw [g] at h
      cases g2 : seqM (l.map f) with
      | none => simp only [seqM, g2] at h; cases h
      | some r' =>
        simp only [seqM, g2] at h
        cases h
        exact .cons g (seqM_map g2)
theorem caps_ns {N : List Str} {f : Str → Option Nat} (k : ∀ x i, f x = some i → N[i]? = some x) : ∀ {l : List Str} {r : List Nat}, Paired (fun a b => f a = some b) l r → r.map (fun j => N[j]?) = l.map some
  | _, _, .nil => rfl
  | _, _, .cons h t => by rw [List.map_cons, List.map_cons, k _ _ h, caps_ns k t]
theorem frees_mem {sc : Scope} {y : Str} : y ∈ freesOf sc ↔ (y, NameKind.free) ∈ sc.names := by
  unfold freesOf
  rw [List.mem_filterMap]
  constructor
  · rintro ⟨⟨n, k⟩, h1, h2⟩
    cases k <;> simp at h2
    subst h2
    exact h1
  · intro h
    exact ⟨_, h, rfl⟩
section
variable {X : Cx} {G : Gd} {C : Cc} {D : DK} {E : XK} {K : Orc}
/-- the checks of the compiler, taken apart -/
theorem inB_is (hX : XOk G C X) {a : Arguments} {ps N : List Str} {scope : Scope} {cs : List Nat} (h : inB C a ps N scope = true) (hp : argNames a = some ps) (hc : seqM ((freesOf scope).map C.slot) = some cs) :
    nscB N ps (freesOf scope) scope = true ∧ (∀ y ∈ scope.names, y.2 = .free → X.env.scope.names.lookup y.1 = some .cell ∨ X.env.scope.names.lookup y.1 = some .free) ∧ (∀ y ∈ freesOf scope, (y, NameKind.free) ∈ scope.names) ∧
      cs.map (fun j => X.N[j]?) = (freesOf scope).map some ∧ cs.length = (freesOf scope).length ∧ a.args.all (fun x => x.annotation.isNone) = true := by
  unfold inB at h
  simp only [Bool.and_eq_true] at h
  obtain ⟨⟨⟨h1, h2⟩, h3⟩, h4⟩ := h
  have pr := seqM_map hc
  refine ⟨h1, fun y hy e => ?_, fun y hy => frees_mem.mp hy, ?_, (pair_len pr).symm, h4⟩
  · rw [hX.sc]
    exact ndef_free h2 y hy e
  · rw [hX.N]
    exact caps_ns (fun x i e => (slot_is e).1) pr
theorem mt_of {F : NG} {ps : List Str} {cs : List Nat} {b : List S} (hp : argNames F.params = some ps) (hb : match F.body with
    | .expr e => ∃ n x, cE n (ngC G.gl ps F) e = some x ∧ b = [.ret x]
    | .stmts ss => ∃ n, cSs n (ngC G.gl ps F) ss = some b) (hs : nscB (ngN ps F) ps (freesOf F.scope) F.scope = true) (hl : cs.length = (freesOf F.scope).length) : Mt G.gl F (.mk ps.length (ngN ps F).length cs b) ps cs b := ⟨hp, rfl, hb, hs, hl⟩
/-- a new local function, known -/
theorem pend_new (ok : X.Ok) {H1 : Hp} {f c' : Addr} {F : NG} {l : Lm} {ps : List Str} {cs : List Nat} {b : List S} (fz : FzG H1 f { F with c := c' }) (co : H1 c' = some (CodeO c' F.qual)) (hcl : F.cl = cloFrom X.env.cells F.scope.names []) (mt : Mt G.gl F l ps cs b)
    (hfree : ∀ y ∈ F.scope.names, y.2 = .free → X.env.scope.names.lookup y.1 = some .cell ∨ X.env.scope.names.lookup y.1 = some .free) (hjs : cs.map (fun j => X.N[j]?) = (freesOf F.scope).map some) : PendOk X G H1 (.ref f) l := by
  refine ⟨f, { F with c := c' }, ps, cs, b, rfl, fz, co, ⟨mt.pars, mt.lm, mt.body, mt.sc, mt.ncs⟩, ?_, fun y c e => ?_⟩
  · show Caps X F.cl (freesOf F.scope) cs
    rw [hcl]
    exact Caps.made ok hfree (fun y hy => frees_mem.mp hy) hjs
  · have e : F.cl.lookup y = some c := e
    rw [hcl] at e
    rcases cloFrom_mem (PySem.mem_of_lookup e) with z | ⟨z, _⟩
    · cases z
    · exact frees_mem.mpr z
theorem os_ndef (hX : XOk G C X) (hF : FrD X G C D) {x : Str} {a : Arguments} {body : List Stmt} {scope : Scope} {pos : Pos} {ps : List Str} {i n : Nat} {b : List S} {cs : List Nat} (hl : C.lam = true) (hn : nmOf C.nm pos.line pos.col = x) (hp : argNames a = some ps) (hi : C.tslot x = some i) (hb : inB C a ps (slotsOf ps scope (cnSs 100 body)) scope = true)
    (hc : cSs n { N := slotsOf ps scope (cnSs 100 body), sc := scope, gl := C.gl } body = some b) (hs : seqM ((freesOf scope).map C.slot) = some cs) :
    OS X G D E K (.FunctionDef x a body [] none [] scope none x pos) (.ndef i (.mk ps.length (slotsOf ps scope (cnSs 100 body)).length cs b)) := os_of fun m => by
  obtain ⟨h1, h2, h3, h4, h5, h6⟩ := inB_is hX hb hp hs
  obtain ⟨⟨c, P, nm, TB, hcode, hm, hu, hq⟩, hDi, hfn⟩ := hF.lm hl
  obtain ⟨i1, i2, i3⟩ := tslot_is hi
  obtain ⟨as, rfl, rfl⟩ := argNames_is hp
  refine ⟨fun pins s σ H Dn I ⟨r, h, env, rel, er, P0⟩ => ?_⟩
  have ann : annTrees (⟨[], as, none, [], [], none, []⟩ : Arguments) none X.env = [] := by
    have gone : ∀ l : List Arg, l.all (fun x => x.annotation.isNone) = true → annotationsOf l X.env = [] := fun l => by
      induction l with
      | nil => intro _; rfl
      | cons y l ih =>
        intro h
        rw [List.all_cons, Bool.and_eq_true] at h
        obtain ⟨y1, y2, y3⟩ := y
        cases y2 with
        | none => exact ih h.2
        | some e => cases h.1
    show annotationsOf (as ++ [] ++ [] ++ [] ++ []) X.env ++ [] = []
    rw [List.append_nil, List.append_nil, List.append_nil, List.append_nil, List.append_nil]
    exact gone as h6
  have hqn : qualnameIn X.env x x = X.env.qual ++ x := by
    have hk : X.env.kindOf x = some .local ∨ X.env.kindOf x = some .cell := by
      have := loc_of i3
      rw [← hX.sc] at this
      exact this
    unfold qualnameIn
    rcases hk with k | k <;> rw [k] <;> first | rfl | exact if_neg (by decide)
  refine PySem.W.nestDef_K rfl rfl ann ?_
  rw [hqn]
  have hfr : ∀ y ∈ scope.names, y.2 = .free → ∃ c, X.env.cells.lookup y.1 = some c := fun y hy e => (h2 y hy e).elim (fun z => I.ok.has _ (.inl z)) fun z => I.ok.has _ (.inr z)
  refine make_fn (F := ⟨x, X.env.qual ++ x, ⟨[], as, none, [], [], none, []⟩, .stmts body, scope, cloFrom X.env.cells scope.names [], 0⟩) I TB hcode hm (by rw [hq, hn]) hu rel.tabs hfr rfl fun f c' H1 s' I1 g T1 f0 fz co => ?_
  have hT : G.T P := ⟨(P, nm), hm, rfl⟩
  have rel1 := rel.grown g hT T1
  have st1 := Step.grown rel g hT T1
  have mt : Mt G.gl ⟨x, X.env.qual ++ x, ⟨[], as, none, [], [], none, []⟩, .stmts body, scope, cloFrom X.env.cells scope.names [], 0⟩ (.mk (as.map (·.arg)).length (slotsOf (as.map (·.arg)) scope (cnSs 100 body)).length cs b) (as.map (·.arg)) cs b :=
    mt_of (G := G) hp ⟨n, by rw [← hX.gl]; exact hc⟩ h1 h5
  have pk := pend_new I.ok fz co rfl mt h2 h4
  replace P0 : PostG G (ROut G D) E r h H (endsOf Dn) (if i < env.length then .ok (.nx (setEnv env i (some (.pend (.mk (as.map (·.arg)).length (slotsOf (as.map (·.arg)) scope (cnSs 100 body)).length cs b))))) h else .no) := P0
  split at P0
  · rename_i hlt
    refine store_ok I1 (by rw [hX.N]; exact hX.nd) (by rw [hX.N]; exact i1) (by rw [hX.sc]; exact loc_of i3) (v := .ref f) rfl (fun s'' J => ⟨_, H1, J, ?_⟩) (.inl (hfn x))
    refine P0 (OutB.nx (σ.set i (some (.ref f)))) H1 r rel1 st1 ?_
    exact (er.step hF.dok rel st1).set (hDi _ _ _ pk) hlt
  · exact P0.elim
/-- the function object of a lambda that captures nothing -/
theorem clo_none {l : Lm} {H : Hp} {v : V} (p : PendOk X G H v l) (hc : l.caps = []) : ∃ f F ps b, v = .ref f ∧ CloAt G.gl H f l [] F ps [] b ∧ ∀ y c, F.cl.lookup y ≠ some c := by
  obtain ⟨f, F, ps, cs, b, rfl, fz, co, mt, cp, hin⟩ := p
  have ec : cs = [] := by rw [mt.lm] at hc; exact hc
  subst ec
  have ef : freesOf F.scope = [] := List.length_eq_zero_iff.mp mt.ncs.symm
  have nl : ∀ y c, F.cl.lookup y ≠ some c := fun y c e => by
    have := hin y c e
    rw [ef] at this
    cases this
  refine ⟨f, F, ps, b, rfl, ⟨fz, co, mt, by rw [ef]; trivial, fun y c e => absurd e (nl y c), fun x y c e _ => absurd e (nl x c)⟩, nl⟩
/-- a made lambda -/
theorem lam_run (hX : XOk G C X) (hF : FrD X G C D) {a : Arguments} {e : Expr} {scope : Scope} {pos : Pos} {ps : List Str} {n : Nat} {x : RP.E} {cs : List Nat} (hl : C.lam = true) (hn : nmOf C.nm pos.line pos.col = ("<lambda>" : Str)) (hp : argNames a = some ps) (hb : inB C a ps (slotsOf ps scope (cnE 100 e)) scope = true)
    (hc : cE n { N := slotsOf ps scope (cnE 100 e), sc := scope, gl := C.gl } e = some x) (hs : seqM ((freesOf scope).map C.slot) = some cs) {pins : List (Addr × Obj)} {s : Shared} {σ : L2.St} {H : Hp} {r : List Addr} {h : Hv} {Q : VK} (I : L2.Inv X pins σ H s) (rel : Rel G r h H)
    (k : ∀ f H1, PendOk X G H1 (.ref f) (.mk ps.length (slotsOf ps scope (cnE 100 e)).length cs [.ret x]) → H f = none → Rel G r h H1 → Step G r h H r h H1 → Q (.ref f) H1) : wpAny (model X.prog X.w) X.A (eval (.Lambda a e scope pos) X.env) (EP X pins σ Q) X.xe s := by
  obtain ⟨h1, h2, h3, h4, h5, h6⟩ := inB_is hX hb hp hs
  obtain ⟨⟨c, P, nm, TB, hcode, hm, hu, hq⟩, hDi, hfn⟩ := hF.lm hl
  obtain ⟨as, rfl, rfl⟩ := argNames_is hp
  have hfr : ∀ y ∈ scope.names, y.2 = .free → ∃ c, X.env.cells.lookup y.1 = some c := fun y hy e => (h2 y hy e).elim (fun z => I.ok.has _ (.inl z)) fun z => I.ok.has _ (.inr z)
  refine PySem.W.kla_eval rfl ?_
  refine make_fn (F := ⟨"<lambda>", X.env.qual ++ "<lambda>", ⟨[], as, none, [], [], none, []⟩, .expr e, scope, cloFrom X.env.cells scope.names [], 0⟩) I TB hcode hm (by rw [hq, hn]) hu rel.tabs hfr rfl fun f c' H1 s' I1 g T1 f0 fz co => ?_
  have hT : G.T P := ⟨(P, nm), hm, rfl⟩
  have mt : Mt G.gl ⟨"<lambda>", X.env.qual ++ "<lambda>", ⟨[], as, none, [], [], none, []⟩, .expr e, scope, cloFrom X.env.cells scope.names [], 0⟩ (.mk (as.map (·.arg)).length (slotsOf (as.map (·.arg)) scope (cnE 100 e)).length cs [.ret x]) (as.map (·.arg)) cs [.ret x] :=
    mt_of (G := G) hp ⟨n, x, by rw [← hX.gl]; exact hc, rfl⟩ h1 h5
  exact ⟨.ref f, H1, I1, rfl, k f H1 (pend_new I.ok fz co rfl mt h2 h4) f0 (rel.grown g hT T1) (Step.grown rel g hT T1)⟩
theorem lam_post {r : List Addr} {h : Hv} {H H1 : Hp} {f : Addr} {l : Lm} {α : Type} {Rr : List Addr → Hp → V → α → Prop} {Q : VK} {w : α} (pk : PendOk X G H1 (.ref f) l) (hc : l.caps = []) (f0 : H f = none) (rel1 : Rel G r h H1) (st1 : Step G r h H r h H1) (P : PostG G Rr E r h H Q (.ok w (h.push (.clo l []))))
    (hw : ∀ r', r'[h.n]? = some f → Rr r' H1 (.ref f) w) : Q (.ref f) H1 := by
  obtain ⟨f', F, ps, b, e, ca, nl⟩ := clo_none pk hc
  cases e
  have nocel : ∀ c, ¬ Cel H1 f c := fun c ⟨od, u, fd, y, e1, e2, e3⟩ => by
    obtain ⟨u2, dd, sl, doc, pm, ctv, e4⟩ := ca.fz
    rw [e4] at e1
    cases e1
    cases e2
    exact nl y c e3
  have rel2 : Rel G (r ++ [f]) (h.push (.clo l [])) H1 := rel1.pushG (fun q o e _ => e) (fun q o e _ => e) (fun z => nomatch z) rel1.tabs (fun _ c z => absurd z (nocel c)) ⟨[], F, ps, [], b, ca, .nil⟩
  exact P (.ref f) H1 (r ++ [f]) rel2 (st1.adopt rel1 f0) (hw _ (get_new rel1 f))
theorem oe_lam (hX : XOk G C X) (hF : FrD X G C D) {a : Arguments} {e : Expr} {scope : Scope} {pos : Pos} {ps : List Str} {n : Nat} {x : RP.E} {cs : List Nat} (hl : C.lam = true) (hn : nmOf C.nm pos.line pos.col = ("<lambda>" : Str)) (hp : argNames a = some ps) (hb : inB C a ps (slotsOf ps scope (cnE 100 e)) scope = true)
    (hc : cE n { N := slotsOf ps scope (cnE 100 e), sc := scope, gl := C.gl } e = some x) (hs : seqM ((freesOf scope).map C.slot) = some cs) : OE X G D E K (.Lambda a e scope pos) (.lam (.mk ps.length (slotsOf ps scope (cnE 100 e)).length cs [.ret x])) := oe_of fun m => by
  refine ⟨fun pins s σ H Q I ⟨r, h, env, rel, er, P⟩ => lam_run hX hF hl hn hp hb hc hs I rel fun f H1 pk f0 rel1 st1 => ?_⟩
  cases cs with
  | nil => exact lam_post (Rr := RVal G) (E := E) pk rfl f0 rel1 st1 P fun r' e => ⟨f, e, rfl⟩
  | cons c cs => exact (show False from P).elim
/-! ### arguments -/
abbrev RVx (G : Gd) (D : DK) : List Addr → Hp → V → W → Prop := fun r H v w => VX G D r H v w
abbrev RVxs (G : Gd) (D : DK) : List Addr → Hp → List V → List W → Prop := fun r H vs ws => Paired (VX G D r H) vs ws
def OA (X : Cx) (G : Gd) (D : DK) (E : XK) (K : Orc) (e : Expr) (x : RP.E) : Prop := ∀ m, PE X e (tM G D E (RVx G D) (evA G.p K m x))
def OAs (X : Cx) (G : Gd) (D : DK) (E : XK) (K : Orc) (es : List Expr) (xs : List RP.E) : Prop := ∀ m, PA X es (tM G D E (RVxs G D) (evAs G.p K m xs))
theorem oa_of {e : Expr} {x : RP.E} (k : ∀ m, PE X e (tM G D E (RVx G D) (evA G.p K (m + 1) x))) : OA X G D E K e x
  | 0 => PE.imp pe_no fun σ H Q t => tM.no t
  | m + 1 => k m
theorem oas_of {es : List Expr} {xs : List RP.E} (k : ∀ m, PA X es (tM G D E (RVxs G D) (evAs G.p K (m + 1) xs))) : OAs X G D E K es xs
  | 0 => PA.imp pa_no fun σ H Q t => tM.no t
  | m + 1 => k m
theorem oa_nm (hX : XOk G C X) {x : Str} {i : Nat} {pos : Pos} (e : C.slot x = some i) : OA X G D E K (.Name x pos) (.nm i) := oa_of fun m => by
  obtain ⟨h1, h2, h3, h4⟩ := slot_is e
  refine PE.imp (pe_var (i := i) (by rw [hX.N]; exact h1) (by rw [hX.sc]; exact h2) h3 h4) ?_
  rintro σ H Q ⟨r, h, env, rel, er, P⟩
  replace P : PostG G (RVx G D) E r h H Q (match env[i]? with
    | some (some w) => .ok w h
    | _ => .no) := P
  cases g : env[i]? with
  | none => rw [g] at P; exact P.elim
  | some o =>
    cases o with
    | none => rw [g] at P; exact P.elim
    | some w =>
      rw [g] at P
      obtain ⟨v, e1, e2⟩ := er.val i w g
      exact ⟨v, e1, PostG.ok P rel e2⟩
theorem oa_lam (hX : XOk G C X) (hF : FrD X G C D) {a : Arguments} {e : Expr} {scope : Scope} {pos : Pos} {ps : List Str} {n : Nat} {x : RP.E} {cs : List Nat} (hl : C.lam = true) (hn : nmOf C.nm pos.line pos.col = ("<lambda>" : Str)) (hp : argNames a = some ps) (hb : inB C a ps (slotsOf ps scope (cnE 100 e)) scope = true)
    (hc : cE n { N := slotsOf ps scope (cnE 100 e), sc := scope, gl := C.gl } e = some x) (hs : seqM ((freesOf scope).map C.slot) = some cs) : OA X G D E K (.Lambda a e scope pos) (.lam (.mk ps.length (slotsOf ps scope (cnE 100 e)).length cs [.ret x])) := oa_of fun m => by
  refine ⟨fun pins s σ H Q I ⟨r, h, env, rel, er, P⟩ => lam_run hX hF hl hn hp hb hc hs I rel fun f H1 pk f0 rel1 st1 => ?_⟩
  cases cs with
  | nil => exact lam_post (Rr := RVx G D) (E := E) pk rfl f0 rel1 st1 P fun r' e => ⟨f, e, rfl⟩
  | cons c cs => exact P (.ref f) H1 r rel1 st1 ((hF.lm hl).2.1 _ _ _ pk)
/-- no name and no lambda: the value is clean -/
def plainA : RP.E → Bool
  | .nm _ => false
  | .lam _ => false
  | _ => true
theorem oa_e {e : Expr} {x : RP.E} (hp : plainA x = true) (h1 : OE X G D E K e x) : OA X G D E K e x := oa_of fun m => by
  refine PE.imp (h1 m) ?_
  rintro σ H Q ⟨r, h, env, rel, er, P⟩
  have e : evA G.p K (m + 1) x env h = evE G.p K m x env h := by cases x <;> first | rfl | cases hp
  rw [e] at P
  exact ⟨r, h, env, rel, er, P.map fun r H v w q => .of q⟩
theorem oas_nil : OAs X G D E K [] [] := oas_of fun m => PA.imp pa_nil fun σ H Q ⟨r, h, env, rel, er, P⟩ => PostG.ok P rel .nil
theorem oas_cons (hD : DOk D) {e : Expr} {es : List Expr} {x : RP.E} {xs : List RP.E} (hs : noStar e = true) (h1 : OA X G D E K e x) (h2 : OAs X G D E K es xs) : OAs X G D E K (e :: es) (x :: xs) := oas_of fun m => by
  refine PA.imp (pa_cons (h1 m) (h2 m) (star_ne hs)) ?_
  rintro σ H Q ⟨r, h, env, rel, er, P⟩
  replace P : PostG G (RVxs G D) E r h H Q ((evA G.p K m x env h).bind fun x h => (evAs G.p K m xs env h).bind fun ws h => .ok (x :: ws) h) := P
  refine ⟨r, h, env, rel, er, P.bind.imp fun v H1 ⟨r1, h1, w, rel1, s1, q1, P1⟩ => ?_⟩
  refine ⟨r1, h1, env, rel1, er.step hD rel s1, P1.bind.imp fun vs H2 ⟨r2, h2, ws, rel2, s2, q2, P2⟩ => ?_⟩
  exact PostG.ok P2 rel2 (.cons (q1.step hD rel1 s2) q2)
end
end RP

set_option Elab.async false
set_option linter.all false
set_option maxRecDepth 100000
set_option maxHeartbeats 400000
/-! RP40: a local function is handed on: its cells are locked while the call lasts. -/
namespace RP
open PySem PySem.Spec PyProof.Rows L2 LamX NdefX

def InCl (cl : List (Str × Addr)) (b : Addr) : Prop := ∃ y, cl.lookup y = some b
open Classical in
/-- the cells of cl are held as they stand in h -/
noncomputable def lockH (h : Heap) (cl : List (Str × Addr)) (H : Hp) : Hp := fun b => if InCl cl b then (h.get? b).map (fun o => HO.frz o (.own 0)) else H b
open Classical in
noncomputable def unlockH (cl : List (Str × Addr)) (H : Hp) : Hp := fun b => if InCl cl b then none else H b
theorem lock_in {h : Heap} {cl : List (Str × Addr)} {H : Hp} {b : Addr} {o : Obj} (i : InCl cl b) (e : h.get? b = some o) : lockH h cl H b = some (.frz o (.own 0)) := by
  unfold lockH
  rw [if_pos i, e]
  rfl
theorem lock_out {h : Heap} {cl : List (Str × Addr)} {H : Hp} {b : Addr} (i : ¬ InCl cl b) : lockH h cl H b = H b := if_neg i
theorem unlock_in {cl : List (Str × Addr)} {H : Hp} {b : Addr} (i : InCl cl b) : unlockH cl H b = none := if_pos i
theorem unlock_out {cl : List (Str × Addr)} {H : Hp} {b : Addr} (i : ¬ InCl cl b) : unlockH cl H b = H b := if_neg i
theorem unlock_some {cl : List (Str × Addr)} {H : Hp} {b : Addr} {o : HO} (e : unlockH cl H b = some o) : ¬ InCl cl b ∧ H b = some o := by
  by_cases i : InCl cl b
  · rw [unlock_in i] at e; cases e
  · exact ⟨i, by rwa [unlock_out i] at e⟩
/-- the cells, free and whole -/
def CelFree (h : Heap) (cl : List (Str × Addr)) (H : Hp) : Prop := ∀ b, InCl cl b → H b = none ∧ ∃ o v, h.get? b = some o ∧ o.data = .cell v
/-- the cells are held -/
def CelHeld (cl : List (Str × Addr)) (H : Hp) : Prop := ∀ b, InCl cl b → ∃ o v, H b = some (.frz o (.own 0)) ∧ o.data = .cell v
theorem lock_keep {h : Heap} {cl : List (Str × Addr)} {H : Hp} (cf : CelFree h cl H) {b : Addr} {o : HO} (e : H b = some o) : lockH h cl H b = some o := by
  rw [lock_out fun i => by rw [(cf b i).1] at e; cases e]
  exact e
theorem lock_held {h : Heap} {cl : List (Str × Addr)} {H : Hp} (cf : CelFree h cl H) : CelHeld cl (lockH h cl H) := fun b i => by
  obtain ⟨_, o, v, e, d⟩ := cf b i
  exact ⟨o, v, lock_in i e, d⟩
theorem lock_ok {P : Program} {w : World} {h : Heap} {cl : List (Str × Addr)} {H : Hp} (cf : CelFree h cl H) (ok : HOk P w H h) : HOk P w (lockH h cl H) h := fun b u e => by
  by_cases i : InCl cl b
  · obtain ⟨_, o, v, g, d⟩ := cf b i
    rw [lock_in i g] at e
    cases e
    exact ⟨g, ⟨o, g⟩⟩
  · rw [lock_out i] at e
    exact (ok b u e).stay (fun c v _ q => q) (fun c q => lock_keep cf q) fun c xs q => lock_keep cf q
/-- what is held doesn't stand among the others -/
theorem held_ne {cl : List (Str × Addr)} {H : Hp} (ch : CelHeld cl H) {b : Addr} {o : HO} (e : H b = some o) (n : ∀ u, o ≠ .frz u (.own 0)) : unlockH cl H b = some o := by
  rw [unlock_out fun i => by
    obtain ⟨u, v, q, _⟩ := ch b i
    rw [e] at q
    cases q
    exact n u rfl]
  exact e
theorem unlock_ok {P : Program} {w : World} {h : Heap} {cl : List (Str × Addr)} {H : Hp} (ch : CelHeld cl H) (ok : HOk P w H h) : HOk P w (unlockH cl H) h := fun b u e => by
  obtain ⟨i, e⟩ := unlock_some e
  exact (ok b u e).stay (fun c v _ q => q) (fun c q => held_ne ch q fun u z => nomatch z) fun c xs q => held_ne ch q fun u z => nomatch z
theorem un_held {fs ex : List Addr} {cl : List (Str × Addr)} {H H' : Hp} {h h' : Heap} (cf : CelFree h cl H) (un : Un fs ex (lockH h cl H) H' h h') : CelHeld cl H' := fun b i => by
  obtain ⟨_, o, v, e, d⟩ := cf b i
  exact ⟨o, v, un.frzs b o _ (lock_in i e), d⟩
/-- back from a call -/
theorem un_unlock {P : Program} {w : World} {fs : List Addr} {cl : List (Str × Addr)} {H H' : Hp} {h h' : Heap} (cf : CelFree h cl H) (nf : ∀ b, InCl cl b → b ∉ fs) (un : Un fs [] (lockH h cl H) H' h h') (ok : HOk P w H' h') : Un fs [] H (unlockH cl H') h h' := by
  have ch := un_held cf un
  have out : ∀ b o, H b = some o → ¬ InCl cl b := fun b o e i => by rw [(cf b i).1] at e; cases e
  refine ⟨fun b o q n hb hx => ?_, fun b o q n hb hx => ?_, fun b o q n hx => ?_, fun b o q hx => un.there b o q hx, fun b xs q => ?_, fun b o u q => ?_, fun b ps q => ?_⟩
  · by_cases i : InCl cl b
    · obtain ⟨_, o', v, e, d⟩ := cf b i
      rw [q] at e
      cases e
      exact (ok b _ (un.frzs b o _ (lock_in i q))).1
    · exact un.keep b o q ((lock_out i).trans n) hb hx
  · have i : ¬ InCl cl b := fun i => nf b i hb
    exact un.slot b o q ((lock_out i).trans n) hb hx
  · by_cases i : InCl cl b
    · exact unlock_in i
    · rw [unlock_out i]
      exact un.free b o q ((lock_out i).trans n) hx
  · rw [unlock_out (out b _ q)]
    exact un.tups b xs (lock_keep cf q)
  · rw [unlock_out (out b _ q)]
    exact un.frzs b o u (lock_keep cf q)
  · rw [unlock_out (out b _ q)]
    exact un.tbls b ps (lock_keep cf q)
theorem ub_unlock {P : Program} {w : World} {fs : List Addr} {cl : List (Str × Addr)} {H H' : Hp} {h B h' : Heap} (cf : CelFree h cl H) (nf : ∀ b, InCl cl b → b ∉ fs) (ub : UB fs (lockH h cl H) H' h B h') (ok : HOk P w H' B) : CelHeld cl H' ∧ UB fs H (unlockH cl H') h B h' := by
  have ch : CelHeld cl H' := fun b i => by
    obtain ⟨_, o, v, e, d⟩ := cf b i
    exact ⟨o, v, ub.frzs b o _ (lock_in i e), d⟩
  have out : ∀ b o, H b = some o → ¬ InCl cl b := fun b o e i => by rw [(cf b i).1] at e; cases e
  refine ⟨ch, fun b o q n hb => ?_, fun b o q hb => ub.slot b o q hb, fun b o q n => ?_, fun b o q hb => ub.there b o q hb, fun b xs q => ?_, fun b o u q => ?_, fun b ps q => ?_⟩
  · by_cases i : InCl cl b
    · exact (ok b _ (ub.frzs b o _ (lock_in i q))).1
    · exact ub.keep b o q ((lock_out i).trans n) hb
  · by_cases i : InCl cl b
    · exact unlock_in i
    · rw [unlock_out i]
      exact ub.free b o q ((lock_out i).trans n)
  · rw [unlock_out (out b _ q)]
    exact ub.tups b xs (lock_keep cf q)
  · rw [unlock_out (out b _ q)]
    exact ub.frzs b o u (lock_keep cf q)
  · rw [unlock_out (out b _ q)]
    exact ub.tbls b ps (lock_keep cf q)
theorem cx_unlock {P : Program} {w : World} {outer : List PySem.Env} {cl : List (Str × Addr)} {H : Hp} {s s' : Shared} {E : XK} {e : Value} (cf : CelFree s.heap cl H) (nf : ∀ b, InCl cl b → b ∉ frs outer) (c : L2.CX P w outer (lockH s.heap cl H) s (fun c d H' => E c d (unlockH cl H')) e s') : L2.CX P w outer H s E e s' := by
  obtain ⟨a, B, H', cls, d, ea, fl, hok, ub, na, os, ag, he⟩ := c
  obtain ⟨ch, ub'⟩ := ub_unlock cf nf ub hok
  refine ⟨a, B, unlockH cl H', cls, d, ea, fl, unlock_ok ch hok, ub', ?_, os, ag, he⟩
  by_cases i : InCl cl a
  · exact unlock_in i
  · rw [unlock_out i]; exact na
theorem ce_unlock {P : Program} {w : World} {outer : List PySem.Env} {cl : List (Str × Addr)} {H : Hp} {s s' : Shared} {Q : VK} {u : Value} (cf : CelFree s.heap cl H) (nf : ∀ b, InCl cl b → b ∉ frs outer) (c : CE outer P w (lockH s.heap cl H) s (fun v H' => Q v (unlockH cl H')) u s') : CE outer P w H s Q u s' := by
  obtain ⟨v, H', os, bare, un, hok, rv, q⟩ := c
  exact ⟨v, unlockH cl H', os, bare, un_unlock cf nf un hok, unlock_ok (un_held cf un) hok, rv, q⟩
/-! ### the virtual side -/
section
variable {G : Gd} {r r' : List Addr} {h h' : Hv} {H H' : Hp} {hp : Heap} {F : NG} {f : Addr}
theorem lock_kp (cf : CelFree hp F.cl H) : Kp H (lockH hp F.cl H) := ⟨fun q o u e => lock_keep cf e, fun q s e => lock_keep cf e⟩
theorem cel_of (fz : FzG H f F) {c : Addr} : Cel H f c ↔ InCl F.cl c := by
  obtain ⟨u, dd, sl, doc, pm, ctv, e⟩ := fz
  constructor
  · rintro ⟨od, u', fd, y, e2, e3, e4⟩
    rw [e] at e2
    cases e2
    cases e3
    exact ⟨y, e4⟩
  · rintro ⟨y, e4⟩
    exact ⟨_, _, _, y, e, rfl, e4⟩
theorem Rel.locked (rel : Rel G r h H) (cf : CelFree hp F.cl H) (fz : FzG H f F) {l : Lm} {vs : List V} {ws : List W} {ps : List Str} {cs : List Nat} {b : List S} (ca : CloAt G.gl (lockH hp F.cl H) f l vs F ps cs b) (q : VWs G r vs ws) : Rel G (r ++ [f]) (h.push (.clo l ws)) (lockH hp F.cl H) :=
  rel.pushG (fun q o e _ => lock_keep cf e) (fun q o e _ => lock_keep cf e) (fun z => nomatch z) (TabsN.keeps rel.tabs (lock_kp cf) fun q ps e => lock_keep cf e) (fun _ c z => (cf c ((cel_of ca.fz).mp z)).1) ⟨vs, F, ps, cs, b, ca, q.mono (Le.push r f)⟩
theorem mu_push {o : O} (hm : mutO o = false) (len : r.length = h.n) {q : Addr} (m : Mu (r ++ [f]) (h.push o) q) : Mu r h q := by
  obtain ⟨n, o', e, g, mo⟩ := m
  rw [Hv.get_push] at g
  by_cases hn : n = h.n
  · rw [if_pos hn] at g; cases g; rw [hm] at mo; cases mo
  · rw [if_neg hn] at g
    refine ⟨n, o', ?_, g, mo⟩
    rwa [List.getElem?_append_left (by rw [len]; exact Hv.get_lt g)] at e
theorem Step.locked (rel : Rel G r h H) (cf : CelFree hp F.cl H) {l : Lm} {ws : List W} : Step G r h H (r ++ [f]) (h.push (.clo l ws)) (lockH hp F.cl H) where
  le := Le.push r f
  keep := fun q o e _ _ _ => lock_keep cf e
  fresh := fun q m => .inl (mu_push rfl rel.len m)
  tab := fun q _ ⟨o, e, kp⟩ => ⟨o, lock_keep cf e, kp⟩
/-- the function falls, its cells are free again -/
theorem Rel.unlocked (rel : Rel G r h H) (ch : CelHeld F.cl H) (fz : FzG H f F) {n : Nat} (en : r[n]? = some f) {l : Lm} {ws : List W} (g : h.get n = some (.clo l ws)) : Rel G r (h.set n .dead) (unlockH F.cl H) := by
  have ne : ∀ {q : Addr} {o : HO}, H q = some o → (∀ u, o ≠ .frz u (.own 0)) → unlockH F.cl H q = some o := fun e n => held_ne ch e n
  have hn := Hv.get_lt g
  have other : ∀ (j : Nat) (o : O), (h.set n .dead).get j = some o → (j = n ∧ o = .dead) ∨ (j ≠ n ∧ h.get j = some o) := fun j o e => by
    rw [Hv.get_set hn] at e
    by_cases z : j = n
    · rw [if_pos z] at e; cases e; exact .inl ⟨z, rfl⟩
    · rw [if_neg z] at e; exact .inr ⟨z, e⟩
  have fzne : ∀ {q : Addr} {F' : NG}, FzG H q F' → FzG (unlockH F.cl H) q F' := fun {q F'} ⟨u, dd, sl, doc, pm, ctv, e⟩ => by
    refine ⟨u, dd, sl, doc, pm, ctv, ?_⟩
    rw [unlock_out fun i => by
      obtain ⟨o, v, q2, d⟩ := ch q i
      rw [e] at q2
      cases q2
      cases d]
    exact e
  have clok : ∀ (j : Nat) (a : Addr) (l' : Lm) (cs' : List W), j ≠ n → h.get j = some (.clo l' cs') → r[j]? = some a → ∀ c, Cel H a c → ¬ InCl F.cl c := fun j a l' cs' hj gj ej c z i =>
    hj (rel.cinj j n a f c _ _ gj g rfl rfl ej en z ((cel_of fz).mpr i))
  refine ⟨rel.len, fun j o a e q => ?_, fun i j a o1 o2 e1 e2 q1 q2 m1 m2 => ?_, fun i j a b c o1 o2 q1 q2 c1 c2 e1 e2 z1 z2 => ?_, fun m x y e => ?_, fun p hp => ?_, rel.pre⟩
  · rcases other j o e with ⟨_, rfl⟩ | ⟨hj, e⟩
    · trivial
    · have w := rel.obj j o a e q
      cases o with
      | lst ws => obtain ⟨vs, e, z⟩ := w; exact ⟨vs, ne e (fun u q => nomatch q), z⟩
      | tup ws =>
        obtain ⟨vs, e, z⟩ := w
        refine ⟨vs, ?_, z⟩
        rcases e with (e | ⟨o, e⟩) | e
        · exact .inl (.inl (ne e fun u q => nomatch q))
        · exact .inl (.inr ⟨o, ne e fun u q => nomatch q⟩)
        · exact .inr e
      | rls ws =>
        obtain ⟨vs, e, z⟩ := w
        refine ⟨vs, ?_, z⟩
        rcases e with ⟨o, e⟩ | e
        · exact .inl ⟨o, ne e fun u q => nomatch q⟩
        · exact .inr e
      | dct kvs => obtain ⟨es, e, z⟩ := w; exact ⟨es, ne e (fun u q => nomatch q), z⟩
      | ins c fs => obtain ⟨dx, es, e, z⟩ := w; exact ⟨dx, es, ne e (fun u q => nomatch q), z⟩
      | wdc kvs => exact w
      | dead => trivial
      | clo l' cs' =>
        obtain ⟨vs, F', ps, cs, b, ca, z⟩ := w
        have keepc : ∀ {y : Str} {c : Addr} {o : HO}, F'.cl.lookup y = some c → H c = some o → unlockH F.cl H c = some o := fun {y c o} e1 e2 =>
          (unlock_out (clok j a l' cs' hj e q c ((cel_of ca.fz).mpr ⟨y, e1⟩))).trans e2
        have cels : ∀ (fr : List Str) (us : List V), CelsF H F' fr us → CelsF (unlockH F.cl H) F' fr us := fun fr => by
          induction fr with
          | nil => intro us h; cases us with
            | nil => trivial
            | cons _ _ => exact h.elim
          | cons y fr ih => intro us h; cases us with
            | nil => exact h.elim
            | cons u us =>
              obtain ⟨⟨c, oc, uu, e1, e2, e3, e4⟩, t⟩ := h
              exact ⟨⟨c, oc, uu, e1, keepc e1 e2, e3, e4⟩, ih us t⟩
        exact ⟨vs, F', ps, cs, b, ⟨fzne ca.fz, ne ca.co (fun u q => nomatch q), ca.mt, cels _ _ ca.cells, fun y c e1 => by
          obtain ⟨oc, v, e2, e3⟩ := ca.lock y c e1
          exact ⟨oc, v, keepc e1 e2, e3⟩, ca.inj⟩, z⟩
  · rcases other i o1 q1 with ⟨_, rfl⟩ | ⟨_, q1⟩
    · cases m1
    · rcases other j o2 q2 with ⟨_, rfl⟩ | ⟨_, q2⟩
      · cases m2
      · exact rel.inj i j a o1 o2 e1 e2 q1 q2 m1 m2
  · have back : ∀ {x : Addr}, Cel (unlockH F.cl H) x c → Cel H x c := fun {x} ⟨od, u, fd, y, y1, y2, y3⟩ => ⟨od, u, fd, y, (unlock_some y1).2, y2, y3⟩
    rcases other i o1 q1 with ⟨_, rfl⟩ | ⟨_, q1⟩
    · cases c1
    · rcases other j o2 q2 with ⟨_, rfl⟩ | ⟨_, q2⟩
      · cases c2
      · exact rel.cinj i j a b c o1 o2 q1 q2 c1 c2 e1 e2 (back z1) (back z2)
  · obtain ⟨N, b, c, φ0, φ1, φ2, φ3, φ4, e1, e2, e3, z⟩ := rel.zip m x y e
    exact ⟨N, b, c, φ0, φ1, φ2, φ3, φ4, e1, e2, e3, z.keeps fun q φ e => ne e fun u z => (nomatch z)⟩
  · obtain ⟨ps, e1, e2, e3⟩ := (show TabN H p.1 p.2 from rel.tabs p hp)
    refine ⟨ps, ne e1 (fun u z => nomatch z), e2, fun pos cv hc => ?_⟩
    obtain ⟨c, y1, y2⟩ := e3 pos cv hc
    exact ⟨c, y1, ne y2 fun u z => nomatch z⟩
theorem Step.unlocked (rel : Rel G r h H) (cf : CelFree hp F.cl H) {l : Lm} {ws : List W} {n : Nat} (s : Step G (r ++ [f]) (h.push (.clo l ws)) (lockH hp F.cl H) r' h' H') (hn : n < h'.n) : Step G r h H r' (h'.set n .dead) (unlockH F.cl H') where
  le := (Le.push r f).trans s.le
  keep := fun q o e kp mu nt => by
    rw [unlock_out fun i => by rw [(cf q i).1] at e; cases e]
    exact s.keep q o (lock_keep cf e) kp (fun m => mu (mu_push rfl rel.len m)) nt
  fresh := fun q m => by
    obtain ⟨j, o, e, g, mo⟩ := m
    rw [Hv.get_set hn] at g
    by_cases z : j = n
    · rw [if_pos z] at g; cases g; cases mo
    · rw [if_neg z] at g
      rcases s.fresh q ⟨j, o, e, g, mo⟩ with y | y | ⟨o', y, nk⟩
      · exact .inl (mu_push rfl rel.len y)
      · by_cases i : InCl F.cl q
        · exact .inr (.inl (cf q i).1)
        · exact .inr (.inl (by rwa [lock_out i] at y))
      · by_cases i : InCl F.cl q
        · obtain ⟨_, ob, v, e1, _⟩ := cf q i
          rw [lock_in i e1] at y
          cases y
          exact absurd (fun φ z => nomatch z) nk
        · exact .inr (.inr ⟨o', by rwa [lock_out i] at y, nk⟩)
  tab := fun q t ⟨o, e, kp⟩ => by
    obtain ⟨o', e', kp'⟩ := s.tab q t ⟨o, lock_keep cf e, kp⟩
    exact ⟨o', by rw [unlock_out fun i => by rw [(cf q i).1] at e; cases e]; exact e', kp'⟩
end
end RP

set_option Elab.async false
set_option linter.all false
set_option maxRecDepth 100000
set_option maxHeartbeats 400000
/-! RP41: calls by name. -/
namespace RP
open PySem PySem.Spec PyProof.Rows L2 LamX NdefX

theorem publish_cases {env : Env} : ∀ {ws : List W} {h : Hv} {ws' : List W} {ns : Option Nat} {h' : Hv}, publish env ws h = some (ws', ns, h') →
    (ns = none ∧ ws' = ws ∧ h' = h ∧ ws.all clean = true) ∨ ∃ l cs a b, ws = a ++ .pend l :: b ∧ ws' = a ++ .ref h.n :: b ∧ a.all clean = true ∧ b.all clean = true ∧ capsOf env l.caps = some cs ∧ ns = some h.n ∧ h' = h.push (.clo l cs)
  | [], h, ws', ns, h', e => by
    cases e
    exact .inl ⟨rfl, rfl, rfl, rfl⟩
  | w :: r, h, ws', ns, h', e => by
    have gen : clean w = true → publish env (w :: r) h = (match publish env r h with
      | some (ws, n, h') => some (w :: ws, n, h')
      | none => none) := fun c => by
      cases w <;> first | (cases c; done) | (simp only [publish, clean, if_true] <;> (cases publish env r h <;> rfl))
    by_cases c : clean w = true
    · rw [gen c] at e
      cases g : publish env r h with
      | none => rw [g] at e; cases e
      | some p =>
        obtain ⟨w1, n1, h1⟩ := p
        rw [g] at e
        cases e
        rcases publish_cases g with ⟨e1, e2, e3, e4⟩ | ⟨l, cs, a, b, e1, e2, e3, e4, e5, e6, e7⟩
        · exact .inl ⟨e1, by rw [e2], e3, by rw [List.all_cons, c, e4]; rfl⟩
        · exact .inr ⟨l, cs, w :: a, b, by rw [e1]; rfl, by rw [e2]; rfl, by rw [List.all_cons, c, e3]; rfl, e4, e5, e6, e7⟩
    · cases w with
      | pend l =>
        have e : (if r.all clean then (match capsOf env l.caps with
          | some cs => some (.ref h.n :: r, some h.n, h.push (.clo l cs))
          | none => none) else none) = some (ws', ns, h') := e
        split at e
        · rename_i ha
          cases g : capsOf env l.caps with
          | none => rw [g] at e; cases e
          | some cs =>
            rw [g] at e
            cases e
            exact .inr ⟨l, cs, [], r, rfl, rfl, rfl, ha, g, rfl, rfl⟩
        · cases e
      | zipv n => exact nomatch (show (none : Option (List W × Option Nat × Hv)) = some (ws', ns, h') from e)
      | _ => exact absurd rfl c
section
variable {X : Cx} {G : Gd} {C : Cc} {D : DK} {E : XK} {K : Orc}
theorem vx_clean {r : List Addr} {H : Hp} : ∀ {vs : List V} {ws : List W}, Paired (VX G D r H) vs ws → ws.all clean = true → VWs G r vs ws
  | _, _, .nil, _ => .nil
  | _, _, .cons q t, h => by
    rw [List.all_cons, Bool.and_eq_true] at h
    exact .cons (q.to h.1) (vx_clean t h.2)
theorem pair_split {α β : Type} {R : α → β → Prop} : ∀ {a : List β} {w : β} {b : List β} {vs : List α}, Paired R vs (a ++ w :: b) → ∃ va v vb, vs = va ++ v :: vb ∧ Paired R va a ∧ R v w ∧ Paired R vb b
  | [], w, b, _, .cons q t => ⟨[], _, _, rfl, .nil, q, t⟩
  | x :: a, w, b, _, .cons q t => by
    obtain ⟨va, v, vb, e, h1, h2, h3⟩ := pair_split t
    exact ⟨_ :: va, v, vb, by rw [e]; rfl, .cons q h1, h2, h3⟩
/-- what the captured names hold -/
theorem caps_vals {pins : List (Addr × Obj)} {σ : L2.St} {H H1 : Hp} {s : Shared} {r : List Addr} {env : Env} {F : NG} (I : L2.Inv X pins σ H s) (er : EnvR G D r H1 σ env) (cp1 : ∀ y c, F.cl.lookup y = some c → X.env.cells.lookup y = some c) : ∀ {fr : List Str} {cs : List Nat} {ws : List W},
    (∀ y ∈ fr, X.env.scope.names.lookup y = some .cell ∨ X.env.scope.names.lookup y = some .free) → (∀ y ∈ fr, ∀ c, X.env.cells.lookup y = some c → F.cl.lookup y = some c) → cs.map (fun j => X.N[j]?) = fr.map some → capsOf env cs = some ws →
    ∃ vs, VWs G r vs ws ∧ Paired (fun y v => ∃ c o u, F.cl.lookup y = some c ∧ RelV v u ∧ s.heap.get? c = some o ∧ o.data = .cell (some u)) fr vs
  | [], [], ws, _, _, _, e => by cases e; exact ⟨[], .nil, .nil⟩
  | [], j :: cs, ws, _, _, hm, _ => by cases hm
  | y :: fr, [], ws, _, _, hm, _ => by cases hm
  | y :: fr, j :: cs, ws, hk, hs, hm, e => by
    rw [List.map_cons, List.map_cons] at hm
    injection hm with hj hm
    cases g : env[j]? with
    | none => simp only [capsOf, g] at e; cases e
    | some ow =>
      cases ow with
      | none => simp only [capsOf, g] at e; cases e
      | some w =>
        simp only [capsOf, g] at e
        split at e
        · rename_i c
          cases g2 : capsOf env cs with
          | none => rw [g2] at e; cases e
          | some ws' =>
            rw [g2] at e
            cases e
            obtain ⟨vs, q1, q2⟩ := caps_vals I er cp1 (fr := fr) (fun y hy => hk y (List.mem_cons_of_mem _ hy)) (fun y hy => hs y (List.mem_cons_of_mem _ hy)) hm g2
            obtain ⟨v, e1, e2⟩ := er.val j w g
            have ky := hk y (List.mem_cons_self ..)
            obtain ⟨m, hn, hl⟩ := I.loc
            obtain ⟨u, ru, lk⟩ := hl j y v hj e1 (ky.elim (fun z => .inr (.inl z)) fun z => .inr (.inr z))
            rcases lk with ⟨z, _⟩ | ⟨_, c', hc', o, ho, hd⟩
            · have z' : X.env.scope.names.lookup y = some .local := z
              rcases ky with k | k <;> rw [k] at z' <;> cases z'
            · exact ⟨v :: vs, .cons (e2.to c) q1, .cons ⟨c', o, u, hs y (List.mem_cons_self ..) c' hc', ru, ho, hd⟩ q2⟩
        · cases e
theorem cels_lock {h : Heap} {H : Hp} {F : NG} : ∀ {fr : List Str} {vs : List V}, Paired (fun y v => ∃ c o u, F.cl.lookup y = some c ∧ RelV v u ∧ h.get? c = some o ∧ o.data = .cell (some u)) fr vs → CelsF (lockH h F.cl H) F fr vs
  | _, _, .nil => trivial
  | _, _, .cons ⟨c, o, u, e1, e2, e3, e4⟩ t => ⟨⟨c, o, u, e1, lock_in ⟨_, e1⟩ e3, e4, e2⟩, cels_lock t⟩
/-- a call from a body, at the values -/
theorem run_pub (hX : XOk G C X) (hF : FrD X G C D) (hk : KSv X G K) (tk : TakE X E) {f : Nat} {r : List Addr} {h : Hv} {H : Hp} {vs : List V} {ws : List W} {σ : L2.St} {env : Env} {Q : VK} (rel : Rel G r h H) (er : EnvR G D r H σ env) (q : Paired (VX G D r H) vs ws)
    (P : PostG G (RVal G) E r h H Q (match publish env ws h with
      | some (ws, ns, h) => killR ns (K.fn f ws h)
      | none => .no)) : rRun X (.ref (G.F f)) σ vs H Q := by
  cases g : publish env ws h with
  | none => rw [g] at P; exact P.elim
  | some p =>
    obtain ⟨ws', ns, h'⟩ := p
    rw [g] at P
    rcases publish_cases g with ⟨rfl, rfl, rfl, ha⟩ | ⟨l, cs, a, b, rfl, rfl, ha, hb, hc, rfl, rfl⟩
    · exact run_orc (hk.kok tk) rel (vx_clean q ha) P
    · intro pins s us I rv
      obtain ⟨va, v, vb, rfl, qa, qv, qb⟩ := pair_split q
      obtain ⟨⟨fa, F, ps, js, bd, rfl, fz, co, mt, cp, hin⟩, hfn⟩ := hF.pe _ _ _ (show D H v (.pend l) from qv)
      have el : l.caps = js := by rw [mt.lm]; rfl
      rw [el] at hc
      obtain ⟨vc, qc, pc⟩ := caps_vals I er cp.sub cp.kin cp.sup cp.at_ hc
      have cf : CelFree s.heap F.cl H := fun c ⟨y, e⟩ => by
        have e' := cp.sub y c e
        obtain ⟨v, o, ho, hd⟩ := I.cell y c e'
        exact ⟨I.freeC y c e', o, v, ho, hd⟩
      have hi : ∀ c, InCl F.cl c → X.s_0.heap.objs.size ≤ c := fun c ⟨y, e⟩ => I.ok.cab y c (hfn y) (cp.sub y c e)
      have nL : ∀ c, InCl F.cl c → c ≠ X.env.locals := fun c ⟨y, e⟩ => I.cne y c (cp.sub y c e)
      have nf : ∀ c, InCl F.cl c → c ∉ frs X.stack := fun c i hm => by
        rcases List.mem_cons.mp (I.stkSub c hm) with z | z
        · exact nL c i z
        · obtain ⟨_, o, ho, _⟩ := I.ok.funs.mem z
          exact absurd (Nat.lt_of_lt_of_le (Heap.lt_size ho) (hi c i)) (Nat.lt_irrefl _)
      have ca : CloAt G.gl (lockH s.heap F.cl H) fa l vc F ps js bd :=
        ⟨fz.kp (lock_kp cf), (lock_kp cf).code _ _ co, mt, cels_lock pc, fun y c e => by
          obtain ⟨_, o, v, ho, hd⟩ := cf c ⟨y, e⟩
          exact ⟨o, v, lock_in ⟨y, e⟩ ho, hd⟩, fun x y c e1 e2 => I.ok.inj x y c (cp.sub x c e1) (cp.sub y c e2)⟩
      have rel2 := rel.locked cf fz ca qc
      have st2 := Step.locked (f := fa) (l := l) (ws := cs) rel cf
      have hnew : h.n < h.n + 1 := Nat.lt_succ_self _
      have e0 := I.env0
      have e2 : Env0 X.prog X.w X.K X.mg X.base X.A X.stack s (lockH s.heap F.cl H) := by
        refine ⟨e0.frames, e0.mod, fun b o e => ⟨(e0.bs b o e).1, ?_⟩, e0.bsz, e0.funs, fun b hb => ?_, lock_ok cf e0.hok, e0.bare⟩
        · rw [lock_out fun i => absurd (Nat.lt_of_lt_of_le (Heap.lt_size e) (Nat.le_trans I.ok.bsz (hi b i))) (Nat.lt_irrefl _)]
          exact (e0.bs b o e).2
        · rw [lock_out fun i => nf b i hb]
          exact e0.frf b hb
      obtain ⟨k, hr, FR, _⟩ := hk.ok
      have qw : VWs G (r ++ [fa]) (va ++ .ref fa :: vb) (a ++ .ref h.n :: b) := pair_app ((vx_clean qa ha).mono (Le.push r fa)) (.cons ⟨fa, get_new rel fa, rfl⟩ ((vx_clean qb hb).mono (Le.push r fa)))
      have hsp : spF G K f (va ++ .ref fa :: vb) (lockH s.heap F.cl H) (fun v H' => Q v (unlockH F.cl H')) (fun c d H' => E c d (unlockH F.cl H')) := by
        refine ⟨r ++ [fa], h.push (.clo l cs), a ++ .ref h.n :: b, rel2, qw, ?_⟩
        have fin : ∀ {r3 : List Addr} {h3 : Hv} {H3 : Hp} {l3 : Lm} {w3 : List W}, Rel G r3 h3 H3 → Step G (r ++ [fa]) (h.push (.clo l cs)) (lockH s.heap F.cl H) r3 h3 H3 → h3.get h.n = some (.clo l3 w3) → Rel G r3 (h3.set h.n .dead) (unlockH F.cl H3) ∧ Step G r h H r3 (h3.set h.n .dead) (unlockH F.cl H3) := fun {r3 h3 H3 l3 w3} rel3 st3 g3 => by
          have k3 := st3.kp rel2
          have ch : CelHeld F.cl H3 := fun c i => by
            obtain ⟨o, v, e, d⟩ := lock_held cf c i
            exact ⟨o, v, k3.frz _ _ _ e, d⟩
          exact ⟨rel3.unlocked ch (ca.fz.kp k3) (st3.le.get (get_new rel fa)) g3, Step.unlocked rel cf st3 (Hv.get_lt g3)⟩
        replace P : PostG G (RVal G) E r h H Q (killR (some h.n) (K.fn f (a ++ .ref h.n :: b) (h.push (.clo l cs)))) := P
        cases gr : K.fn f (a ++ .ref h.n :: b) (h.push (.clo l cs)) with
        | no => rw [gr] at P; exact P
        | ok w h3 =>
          rw [gr] at P
          simp only [killR] at P
          cases g3 : h3.get h.n with
          | none => rw [g3] at P; exact (show False from P).elim
          | some o3 =>
            rw [g3] at P
            cases o3 with
            | clo l3 w3 =>
              intro v H3 r3 rel3 st3 qv3
              obtain ⟨y1, y2⟩ := fin rel3 st3 g3
              exact P v (unlockH F.cl H3) r3 y1 y2 qv3
            | _ => exact (show False from P).elim
        | ex c fs h3 =>
          rw [gr] at P
          simp only [killR] at P
          cases g3 : h3.get h.n with
          | none => rw [g3] at P; exact (show False from P).elim
          | some o3 =>
            rw [g3] at P
            cases o3 with
            | clo l3 w3 =>
              intro d H3 r3 rel3 st3
              obtain ⟨y1, y2⟩ := fin rel3 st3 g3
              exact P d (unlockH F.cl H3) r3 y1 y2
            | _ => exact (show False from P).elim
      refine wpAny_call (codeAny_mono (FR f X.A X.stack s (lockH s.heap F.cl H) us (va ++ .ref fa :: vb) _ _ (hr.mono (Nat.le_succ k)) e2 rv hsp) fun res s' hq => ?_)
      cases res with
      | error e => exact passes_call tk (fun _ _ _ _ z => z) pins σ H s e s' I (cx_unlock cf nf hq)
      | ok fl =>
        cases fl with
        | ret u => exact I.after (ce_unlock cf nf hq)
        | next => exact hq.elim
        | brk => exact hq.elim
        | cont => exact hq.elim
theorem oe_call (hX : XOk G C X) (hG : GOk G) (hF : FrD X G C D) (hk : KSv X G K) (tk : TakE X E) {n : Str} {f : Nat} {e : Expr} {es : List Expr} {xs : List RP.E} {p pos : Pos} (hc : C.glob n = some (.fn f)) (hs : (e :: es).all noStar = true) (h1 : OAs X G D E K (e :: es) xs) :
    OE X G D E K (.Call (.Name n p) (e :: es) [] pos) (.call f xs) := oe_of fun m => by
  obtain ⟨g1, g2, g3⟩ := glob_is hX hc
  refine PE.imp (pe_callX g1 (by rw [hX.mg]; exact hG.fn n f g3) (by rw [hX.K]; exact hG.fnk n f g3) g2 hs (h1 m)) ?_
  rintro σ H Q ⟨r, h, env, rel, er, P⟩
  replace P : PostG G (RVal G) E r h H Q ((evAs G.p K m xs env h).bind fun ws h => (match publish env ws h with
      | some (ws, ns, h) => killR ns (K.fn f ws h)
      | none => .no)) := P
  exact ⟨r, h, env, rel, er, P.bind.imp fun vs H1 ⟨r1, h1, ws, rel1, s1, q1, P1⟩ => run_pub hX hF hk tk rel1 (er.step hF.dok rel s1) q1 P1⟩
theorem oe_call0 (hX : XOk G C X) (hG : GOk G) (hk : KSv X G K) (tk : TakE X E) {n : Str} {f : Nat} {p pos : Pos} (hc : C.glob n = some (.fn f)) :
    OE X G D E K (.Call (.Name n p) [] [] pos) (.call f []) := oe_of fun m => by
  obtain ⟨g1, g2, g3⟩ := glob_is hX hc
  refine PE.imp (pe_callX0 g1 (by rw [hX.mg]; exact hG.fn n f g3) (by rw [hX.K]; exact hG.fnk n f g3) g2) ?_
  rintro σ H Q ⟨r, h, env, rel, er, P⟩
  cases m with
  | zero => exact (show False from P).elim
  | succ m => exact run_orc (hk.kok tk) rel .nil (show PostG G (RVal G) E r h H Q (K.fn f [] h) from P)
/-- C() -/
theorem oe_mk0 (hX : XOk G C X) (hG : GOk G) (hk : KOk X G E K) {n : Str} {c : Nat} {p pos : Pos} (hc : C.glob n = some (.cls c)) : OE X G D E K (.Call (.Name n p) [] [] pos) (.mk c []) := oe_of fun m => by
  obtain ⟨g1, g2, g3⟩ := glob_is hX hc
  cases gm : methI G.p c initS with
  | none =>
    exact PE.imp pe_no fun σ H Q ⟨r, h, env, rel, er, P⟩ => by
      replace P : PostG G (RVal G) E r h H Q (match methI G.p c initS with
        | some f => (evEs G.p K m [] env h).bind fun ws h => (K.fn f (.ref h.n :: ws) (h.push (.ins c []))).bind fun r h' => match r with
          | .non => .ok (.ref h.n) h'
          | _ => .no
        | none => .no) := P
      rw [gm] at P
      exact P
  | some f =>
    have M := hG.make c f gm
    refine PE.imp (pe_callX0 (f := G.C c) g1 (by rw [hX.mg]; exact hG.cls n c g3) (by rw [hX.K]; exact M.kp) g2) ?_
    rintro σ H Q ⟨r, h, env, rel, er, P⟩
    replace P : PostG G (RVal G) E r h H Q (match methI G.p c initS with
        | some f => (evEs G.p K m [] env h).bind fun ws h => (K.fn f (.ref h.n :: ws) (h.push (.ins c []))).bind fun r h' => match r with
          | .non => .ok (.ref h.n) h'
          | _ => .no
        | none => .no) := P
    rw [gm] at P
    cases m with
    | zero => exact (show False from P).elim
    | succ m =>
      replace P : PostG G (RVal G) E r h H Q ((K.fn f (.ref h.n :: []) (h.push (.ins c []))).bind fun r h' => match r with
          | .non => .ok (.ref h.n) h'
          | _ => .no) := P
      intro pins s us I rv
      obtain ⟨CX, k, hr, hx, _, F⟩ := hk.ok
      refine StX.run_makeR (by rw [hX.K]; exact M) (F f) hr hx I rv fun a dx ha hdx ne => ?_
      have hd1 : upd H dx (.own a) a = none := by rw [upd_ne ne.symm]; exact ha
      have relD : Rel G r h (upd H dx (.own a)) := rel.ext hdx
      have new : OR G (r ++ [a]) (upd (upd H dx (.own a)) a (.ins (G.C c) dx [])) a (.ins c []) := ⟨dx, [], upd_same, .nil⟩
      have rel2 := relD.push hd1 rfl new
      have st2 : Step G r h H (r ++ [a]) (h.push (.ins c [])) (upd (upd H dx (.own a)) a (.ins (G.C c) dx [])) := (Step.ext rel hdx).trans (Step.push relD hd1)
      refine ⟨r ++ [a], h.push (.ins c []), [.ref h.n], rel2, .cons ⟨a, get_new relD a, rfl⟩ .nil, ?_⟩
      refine ((P.rebase st2).bind).imp fun v H2 ⟨r3, h3, w, rel3, s3, q3, P3⟩ => ?_
      cases w with
      | non => exact ⟨q3, post_val rel3 P3 ⟨a, s3.le.get (get_new relD a), rfl⟩⟩
      | _ => exact (show False from P3).elim
end
end RP

set_option Elab.async false
set_option linter.all false
set_option maxRecDepth 100000
set_option maxHeartbeats 400000
/-! RP42: a local function that a slot holds is called. -/
namespace RP
open PySem PySem.Spec PyProof.Rows L2 LamX NdefX

open Classical in
/-- the cells stand again as they stood in H -/
noncomputable def relockH (H : Hp) (cl : List (Str × Addr)) (H' : Hp) : Hp := fun b => if InCl cl b then H b else H' b
theorem relock_in {H : Hp} {cl : List (Str × Addr)} {H' : Hp} {b : Addr} (i : InCl cl b) : relockH H cl H' b = H b := if_pos i
theorem relock_out {H : Hp} {cl : List (Str × Addr)} {H' : Hp} {b : Addr} (i : ¬ InCl cl b) : relockH H cl H' b = H' b := if_neg i
theorem relock_keep {H : Hp} {cl : List (Str × Addr)} {H' : Hp} (nc : ∀ c, InCl cl c → H' c = none) {b : Addr} {o : HO} (e : H' b = some o) : relockH H cl H' b = some o := by
  rw [relock_out fun i => by rw [nc b i] at e; cases e]
  exact e
theorem unlock_none {cl : List (Str × Addr)} {H : Hp} {b : Addr} (e : H b = none) : unlockH cl H b = none := by
  by_cases i : InCl cl b
  · exact unlock_in i
  · rw [unlock_out i]; exact e
section
variable {P : Program} {w : World} {fs : List Addr} {cl : List (Str × Addr)} {H H' : Hp} {h h' B : Heap}
theorem un_relock (ch : CelHeld cl H) (un : Un fs [] (unlockH cl H) H' h h') : Un fs [] H (relockH H cl H') h h' := by
  have out : ∀ b, H b = none → ¬ InCl cl b := fun b e i => by
    obtain ⟨o, v, z, _⟩ := ch b i
    rw [e] at z; cases z
  refine ⟨fun b o q n hb hx => un.keep b o q (unlock_none n) hb hx, fun b o q n hb hx => un.slot b o q (unlock_none n) hb hx, fun b o q n hx => ?_, fun b o q hx => un.there b o q hx, fun b xs q => ?_, fun b o u q => ?_, fun b ps q => ?_⟩
  · rw [relock_out (out b n)]; exact un.free b o q (unlock_none n) hx
  · by_cases i : InCl cl b
    · rw [relock_in i]; exact q
    · rw [relock_out i]; exact un.tups b xs (by rw [unlock_out i]; exact q)
  · by_cases i : InCl cl b
    · rw [relock_in i]; exact q
    · rw [relock_out i]; exact un.frzs b o u (by rw [unlock_out i]; exact q)
  · by_cases i : InCl cl b
    · rw [relock_in i]; exact ⟨#[], by rw [q]; simp⟩
    · rw [relock_out i]; exact un.tbls b ps (by rw [unlock_out i]; exact q)
theorem ub_relock (ch : CelHeld cl H) (ub : UB fs (unlockH cl H) H' h B h') : UB fs H (relockH H cl H') h B h' := by
  have out : ∀ b, H b = none → ¬ InCl cl b := fun b e i => by
    obtain ⟨o, v, z, _⟩ := ch b i
    rw [e] at z; cases z
  refine ⟨fun b o q n hb => ub.keep b o q (unlock_none n) hb, fun b o q hb => ub.slot b o q hb, fun b o q n => ?_, fun b o q hb => ub.there b o q hb, fun b xs q => ?_, fun b o u q => ?_, fun b ps q => ?_⟩
  · rw [relock_out (out b n)]; exact ub.free b o q (unlock_none n)
  · by_cases i : InCl cl b
    · rw [relock_in i]; exact q
    · rw [relock_out i]; exact ub.tups b xs (by rw [unlock_out i]; exact q)
  · by_cases i : InCl cl b
    · rw [relock_in i]; exact q
    · rw [relock_out i]; exact ub.frzs b o u (by rw [unlock_out i]; exact q)
  · by_cases i : InCl cl b
    · rw [relock_in i]; exact ⟨#[], by rw [q]; simp⟩
    · rw [relock_out i]; exact ub.tbls b ps (by rw [unlock_out i]; exact q)
theorem relock_ok (nc : ∀ c, InCl cl c → H' c = none) (ch : CelHeld cl H) (hg : ∀ c o, InCl cl c → H c = some (.frz o (.own 0)) → h.get? c = some o) (ok : HOk P w H' h) : HOk P w (relockH H cl H') h := fun b u e => by
  by_cases i : InCl cl b
  · rw [relock_in i] at e
    obtain ⟨o, v, z, d⟩ := ch b i
    rw [e] at z
    cases z
    exact ⟨hg b o i e, ⟨o, hg b o i e⟩⟩
  · rw [relock_out i] at e
    exact (ok b u e).stay (fun c v _ q => q) (fun c q => relock_keep nc q) fun c xs q => relock_keep nc q
theorem cx_relock {outer : List PySem.Env} {s s' : Shared} {E : XK} {e : Value} (ch : CelHeld cl H) (hs : ∀ c o, InCl cl c → H c = some (.frz o (.own 0)) → s.heap.get? c = some o) (nf : ∀ b, InCl cl b → b ∉ frs outer)
    (c : L2.CX P w outer (unlockH cl H) s (fun c d H' => (∀ b, InCl cl b → H' b = none) → E c d (relockH H cl H')) e s') : L2.CX P w outer H s E e s' := by
  obtain ⟨a, B, H', cls, d, ea, fl, hok, ub, na, os, ag, he⟩ := c
  have nc : ∀ b, InCl cl b → H' b = none := fun b i => by
    obtain ⟨o, v, z, _⟩ := ch b i
    exact ub.free b o (hs b o i z) (unlock_in i)
  have hB : ∀ c o, InCl cl c → H c = some (.frz o (.own 0)) → B.get? c = some o := fun c o i z => ub.keep c o (hs c o i z) (unlock_in i) (nf c i)
  refine ⟨a, B, relockH H cl H', cls, d, ea, fl, relock_ok nc ch hB hok, ub_relock ch ub, ?_, os, ag, he nc⟩
  rw [relock_out fun i => by
    obtain ⟨o, v, z, _⟩ := ch a i
    have := hB a o i z
    rw [fl.2.1] at this
    cases this]
  exact na
theorem ce_relock {outer : List PySem.Env} {s s' : Shared} {Q : VK} {u : Value} (ch : CelHeld cl H) (hs : ∀ c o, InCl cl c → H c = some (.frz o (.own 0)) → s.heap.get? c = some o) (nf : ∀ b, InCl cl b → b ∉ frs outer)
    (c : CE outer P w (unlockH cl H) s (fun v H' => (∀ b, InCl cl b → H' b = none) → Q v (relockH H cl H')) u s') : CE outer P w H s Q u s' := by
  obtain ⟨v, H', os, bare, un, hok, rv, q⟩ := c
  have nc : ∀ b, InCl cl b → H' b = none := fun b i => by
    obtain ⟨o, v, z, _⟩ := ch b i
    exact un.free b o (hs b o i z) (unlock_in i) (by simp)
  have hB : ∀ c o, InCl cl c → H c = some (.frz o (.own 0)) → s'.heap.get? c = some o := fun c o i z => un.keep c o (hs c o i z) (unlock_in i) (nf c i) (by simp)
  exact ⟨v, relockH H cl H', os, bare, un_relock ch un, relock_ok nc ch hB hok, rv, q nc⟩
end
section
variable {G : Gd} {r r' : List Addr} {h h' : Hv} {H H' : Hp} {F : NG} {a : Addr} {l : Lm} {vs : List V} {cs : List W} {ps : List Str} {js : List Nat} {b : List S} {m : Nat}
theorem CloAt.held {gl : List (Str × Gk)} (ca : CloAt gl H a l vs F ps js b) : CelHeld F.cl H := fun c ⟨y, e⟩ => ca.lock y c e
theorem fz_kp (K : Kp H H') {F' : NG} (fz : FzG H a F') : FzG H' a F' := by
  obtain ⟨u, dd, sl, doc, pm, ctv, e⟩ := fz
  exact ⟨u, dd, sl, doc, pm, ctv, K.frz _ _ _ e⟩
theorem relock_kp (ch : CelHeld F.cl H) (k : Kp (unlockH F.cl H) H') : Kp H (relockH H F.cl H') := by
  refine ⟨fun q o u e => ?_, fun q s e => ?_⟩
  · by_cases i : InCl F.cl q
    · rw [relock_in i]; exact e
    · rw [relock_out i]; exact k.frz _ _ _ (by rw [unlock_out i]; exact e)
  · by_cases i : InCl F.cl q
    · rw [relock_in i]; exact e
    · rw [relock_out i]; exact k.code _ _ (by rw [unlock_out i]; exact e)
theorem Rel.relock (rel1 : Rel G r h H) (g : h.get m = some (.clo l cs)) (en : r[m]? = some a) (ca : CloAt G.gl H a l vs F ps js b) (qv : VWs G r vs cs) (rel' : Rel G r' h' H') (st : Step G r (h.set m .dead) (unlockH F.cl H) r' h' H') (nc : ∀ c, InCl F.cl c → H' c = none) :
    Rel G r' (h'.set m (.clo l cs)) (relockH H F.cl H') := by
  have ch := ca.held
  have kpu := st.kp (rel1.unlocked ch ca.fz en g)
  have kp2 := relock_kp ch kpu
  have kk : ∀ q o, H' q = some o → relockH H F.cl H' q = some o := fun q o e => relock_keep nc e
  have em : r'[m]? = some a := st.le.get en
  have hm : m < h'.n := by rw [← rel'.len]; exact (List.getElem?_eq_some_iff.mp em).1
  have other : ∀ (j : Nat) (o : O), (h'.set m (.clo l cs)).get j = some o → (j = m ∧ o = .clo l cs) ∨ (j ≠ m ∧ h'.get j = some o) := fun j o e => by
    rw [Hv.get_set hm] at e
    by_cases z : j = m
    · rw [if_pos z] at e; cases e; exact .inl ⟨z, rfl⟩
    · rw [if_neg z] at e; exact .inr ⟨z, e⟩
  have ca2 : CloAt G.gl (relockH H F.cl H') a l vs F ps js b := ca.kp kp2
  have celb : ∀ (j : Nat) (ok : O) (x c : Addr), j ≠ m → h'.get j = some ok → isClo ok = true → r'[j]? = some x → Cel (relockH H F.cl H') x c → Cel H' x c := fun j ok x c hj q ck e z => by
    obtain ⟨l2, vs2, F2, ps2, cs2, bb2, CC⟩ := OR.clo ck (rel'.obj j ok x q e)
    exact CC.back (fun o u e => kk _ _ e) z
  have noc : ∀ (j : Nat) (ok : O) (x c : Addr), j ≠ m → h'.get j = some ok → isClo ok = true → r'[j]? = some x → Cel H' x c → ¬ InCl F.cl c := fun j ok x c hj q ck e z i => by
    obtain ⟨l2, vs2, F2, ps2, cs2, bb2, CC⟩ := OR.clo ck (rel'.obj j ok x q e)
    obtain ⟨y, ey⟩ := (cel_of CC.fz).mp z
    obtain ⟨oc, v, e2, _⟩ := CC.lock y c ey
    rw [nc c i] at e2
    cases e2
  refine ⟨rel'.len, fun j o x e q => ?_, fun i j x o1 o2 e1 e2 q1 q2 m1 m2 => ?_, fun i j x y c o1 o2 q1 q2 c1 c2 e1 e2 z1 z2 => ?_, fun z x y e => ?_, rel'.kp_tabs fun q o e _ => kk q o e, rel'.pre⟩
  · rcases other j o e with ⟨rfl, rfl⟩ | ⟨hj, e⟩
    · rw [em] at q
      cases q
      exact ⟨vs, F, ps, js, b, ca2, qv.mono st.le⟩
    · have w := rel'.obj j o x e q
      refine OR.stay (fun q o e _ => kk q o e) (fun mo => ?_) w
      obtain ⟨y, hy, my⟩ := OR.there mo w
      rw [hy, kk _ _ hy]
  · rcases other i o1 q1 with ⟨_, rfl⟩ | ⟨_, q1⟩
    · cases m1
    · rcases other j o2 q2 with ⟨_, rfl⟩ | ⟨_, q2⟩
      · cases m2
      · exact rel'.inj i j x o1 o2 e1 e2 q1 q2 m1 m2
  · rcases other i o1 q1 with ⟨hi, rfl⟩ | ⟨hi, q1⟩
    · rcases other j o2 q2 with ⟨hj, rfl⟩ | ⟨hj, q2⟩
      · rw [hi, hj]
      · rw [hi, em] at e1
        cases e1
        exact absurd ((cel_of ca2.fz).mp z1) (noc j o2 y c hj q2 c2 e2 (celb j o2 y c hj q2 c2 e2 z2))
    · rcases other j o2 q2 with ⟨hj, rfl⟩ | ⟨hj, q2⟩
      · rw [hj, em] at e2
        cases e2
        exact absurd ((cel_of ca2.fz).mp z2) (noc i o1 x c hi q1 c1 e1 (celb i o1 x c hi q1 c1 e1 z1))
      · exact rel'.cinj i j x y c o1 o2 q1 q2 c1 c2 e1 e2 (celb i o1 x c hi q1 c1 e1 z1) (celb j o2 y c hj q2 c2 e2 z2)
  · obtain ⟨N, b, c, φ0, φ1, φ2, φ3, φ4, e1, e2, e3, z⟩ := rel'.zip z x y e
    exact ⟨N, b, c, φ0, φ1, φ2, φ3, φ4, e1, e2, e3, z.keeps fun q φ e => kk q _ e⟩
theorem mu_dead (hm : m < h.n) {q : Addr} (z : Mu r (h.set m .dead) q) : Mu r h q := by
  obtain ⟨j, o, e, g, mo⟩ := z
  rw [Hv.get_set hm] at g
  by_cases y : j = m
  · rw [if_pos y] at g; cases g; cases mo
  · rw [if_neg y] at g; exact ⟨j, o, e, g, mo⟩
theorem Step.relock (rel1 : Rel G r h H) (g : h.get m = some (.clo l cs)) (en : r[m]? = some a) (ch : CelHeld F.cl H) (rel' : Rel G r' h' H') (st : Step G r (h.set m .dead) (unlockH F.cl H) r' h' H') (nc : ∀ c, InCl F.cl c → H' c = none) :
    Step G r h H r' (h'.set m (.clo l cs)) (relockH H F.cl H') where
  le := st.le
  keep := fun q o e kp mu nt => by
    by_cases i : InCl F.cl q
    · rw [relock_in i]; exact e
    · rw [relock_out i]
      exact st.keep q o (by rw [unlock_out i]; exact e) kp (fun z => mu (mu_dead (Hv.get_lt g) z)) nt
  fresh := fun q z => by
    have hm : m < h'.n := by rw [← rel'.len]; exact (List.getElem?_eq_some_iff.mp (st.le.get en)).1
    have z' : Mu r' h' q := by
      obtain ⟨j, o, e, g, mo⟩ := z
      rw [Hv.get_set hm] at g
      by_cases y : j = m
      · rw [if_pos y] at g; cases g; cases mo
      · rw [if_neg y] at g; exact ⟨j, o, e, g, mo⟩
    have ni : ¬ InCl F.cl q := fun i => by
      obtain ⟨x, hx, _⟩ := Mu.there rel' z'
      rw [nc q i] at hx
      cases hx
    rcases st.fresh q z' with y | y | ⟨o, y, nk⟩
    · exact .inl (mu_dead (Hv.get_lt g) y)
    · rw [unlock_out ni] at y; exact .inr (.inl y)
    · rw [unlock_out ni] at y; exact .inr (.inr ⟨o, y, nk⟩)
  tab := fun q t ⟨o, e, kp⟩ => by
    by_cases i : InCl F.cl q
    · exact ⟨o, by rw [relock_in i]; exact e, kp⟩
    · obtain ⟨o', e', kp'⟩ := st.tab q t ⟨o, by rw [unlock_out i]; exact e, kp⟩
      exact ⟨o', by rw [relock_out i]; exact e', kp'⟩
theorem cels_get : ∀ {fr : List Str} {vs : List V}, CelsF H F fr vs → vs.length = fr.length ∧ ∀ (i : Nat) (y : Str), fr[i]? = some y → ∃ c oc u v, vs[i]? = some v ∧ F.cl.lookup y = some c ∧ H c = some (.frz oc (.own 0)) ∧ oc.data = .cell (some u) ∧ RelV v u
  | [], [], _ => ⟨rfl, fun i y e => by simp at e⟩
  | y :: fr, v :: vs, ⟨⟨c, oc, u, e1, e2, e3, e4⟩, t⟩ => by
    obtain ⟨h1, h2⟩ := cels_get t
    refine ⟨by rw [List.length_cons, List.length_cons, h1], fun i z e => ?_⟩
    cases i with
    | zero => cases e; exact ⟨c, oc, u, v, rfl, e1, e2, e3, e4⟩
    | succ i => exact h2 i z e
  | [], _ :: _, h => h.elim
  | _ :: _, [], h => h.elim
/-- its cells, unlocked -/
theorem CloAt.cellsAt {gl : List (Str × Gk)} {hp : Heap} {P : Program} {w : World} (ca : CloAt gl H a l vs F ps js b) (ok : HOk P w H hp) : CellsAt F.cl (freesOf F.scope) (vs.map some) hp (unlockH F.cl H) := by
  obtain ⟨h1, h2⟩ := cels_get ca.cells
  refine ⟨by rw [List.length_map]; exact h1, fun y c e => ⟨unlock_in ⟨y, e⟩, ?_⟩, ca.inj, fun i y e => ?_⟩
  · obtain ⟨oc, v, e2, e3⟩ := ca.lock y c e
    exact ⟨v, oc, (ok c _ e2).1, e3⟩
  · obtain ⟨c, oc, u, v, e1, e2, e3, e4, e5⟩ := h2 i y e
    refine ⟨c, e2, fun v' ev => ⟨u, ?_, oc, (ok c _ e3).1, e4⟩⟩
    rw [List.getElem?_map, e1] at ev
    cases ev
    exact e5
end
section
variable {X : Cx} {G : Gd} {C : Cc} {D : DK} {E : XK} {K : Orc}
theorem run_clo (hX : XOk G C X) (hk : KSv X G K) (tk : TakE X E) {m : Nat} {l : Lm} {cs ws : List W} {r : List Addr} {h : Hv} {H : Hp} {a : Addr} {vs : List V} {σ : L2.St} {Q : VK} (rel : Rel G r h H) (g : h.get m = some (.clo l cs)) (en : r[m]? = some a) (q : VWs G r vs ws)
    (P : PostG G (RVal G) E r h H Q (wakeR m l cs (K.lm l cs ws (h.set m .dead)))) : rRun X (.ref a) σ vs H Q := by
  intro pins s us I rv
  obtain ⟨vcs, F, ps, js, bd, ca, qv⟩ := rel.obj m _ a g en
  obtain ⟨k, hr, _, LM⟩ := hk.ok
  have ch := ca.held
  have rel2 := rel.unlocked ch ca.fz en g
  have hs : ∀ c o, InCl F.cl c → H c = some (.frz o (.own 0)) → s.heap.get? c = some o := fun c o _ e => (I.hok c _ e).1
  have e0 := I.env0
  have nf : ∀ c, InCl F.cl c → c ∉ frs X.stack := fun c i hm => by
    obtain ⟨o, v, e, _⟩ := ch c i
    rw [e0.frf c hm] at e
    cases e
  have e2 : Env0 X.prog X.w X.K X.mg X.base X.A X.stack s (unlockH F.cl H) :=
    ⟨e0.frames, e0.mod, fun b o e => ⟨(e0.bs b o e).1, unlock_none (e0.bs b o e).2⟩, e0.bsz, e0.funs, fun b hb => unlock_none (e0.frf b hb), unlock_ok ch e0.hok, e0.bare⟩
  have na : ¬ InCl F.cl a := fun i => by
    obtain ⟨o, v, e, d⟩ := ch a i
    obtain ⟨u, dd, sl, doc, pm, ctv, e4⟩ := ca.fz
    rw [e] at e4
    cases e4
    cases d
  have fz2 : FzG (unlockH F.cl H) a F := by
    obtain ⟨u, dd, sl, doc, pm, ctv, e4⟩ := ca.fz
    exact ⟨u, dd, sl, doc, pm, ctv, by rw [unlock_out na]; exact e4⟩
  have co2 : unlockH F.cl H F.c = some (CodeO F.c F.qual) := held_ne ch ca.co fun u z => nomatch z
  have P2 : PostG G (RVal G) (fun c d H' => (∀ b, InCl F.cl b → H' b = none) → E c d (relockH H F.cl H')) r (h.set m .dead) (unlockH F.cl H) (fun v H' => (∀ b, InCl F.cl b → H' b = none) → Q v (relockH H F.cl H')) (K.lm l cs ws (h.set m .dead)) := by
    cases gr : K.lm l cs ws (h.set m .dead) with
    | no => rw [gr] at P; exact P
    | ok w h3 =>
      rw [gr] at P
      intro v H3 r3 rel3 st3 qv3 nc
      exact P v _ r3 (rel.relock g en ca qv rel3 st3 nc) (Step.relock rel g en ch rel3 st3 nc) qv3
    | ex c fs h3 =>
      rw [gr] at P
      intro d H3 r3 rel3 st3 nc
      exact P d _ r3 (rel.relock g en ca qv rel3 st3 nc) (Step.relock rel g en ch rel3 st3 nc)
  refine wpAny_call (codeAny_mono (LM X.A X.stack s (unlockH F.cl H) us vs vcs ws cs a F l ps js bd r (h.set m .dead) _ _ (hr.mono (Nat.le_succ k)) e2 rv rel2 q fz2 co2 ca.mt (ca.cellsAt I.hok) qv P2) fun res s' hq => ?_)
  cases res with
  | error e => exact passes_call tk (fun _ _ _ _ z => z) pins σ H s e s' I (cx_relock ch hs nf hq)
  | ok fl =>
    cases fl with
    | ret u => exact I.after (ce_relock ch hs nf hq)
    | next => exact hq.elim
    | brk => exact hq.elim
    | cont => exact hq.elim
theorem fz_at {pins : List (Addr × Obj)} {s : Shared} {σ : L2.St} {H : Hp} {r : List Addr} {h : Hv} {m : Nat} {l : Lm} {cs : List W} {a : Addr} (I : L2.Inv X pins σ H s) (rel : Rel G r h H) (g : h.get m = some (.clo l cs)) (en : r[m]? = some a) : PySem.W.FnAt a s.heap := by
  obtain ⟨vcs, F, ps, js, bd, ca, qv⟩ := rel.obj m _ a g en
  obtain ⟨u, dd, sl, doc, pm, ctv, e⟩ := ca.fz
  exact ⟨_, dd, _, sl, (I.hok a _ e).1⟩
theorem oe_callv (hX : XOk G C X) (hD : DOk D) (hk : KSv X G K) (tk : TakE X E) {x : Str} {i : Nat} {es : List Expr} {xs : List RP.E} {p pos : Pos} (hi : C.slot x = some i) (hs : es.all noStar = true) (hz : es = [] → xs = []) (h1 : OEs X G D E K es xs) : OE X G D E K (.Call (.Name x p) es [] pos) (.callv i xs) := oe_of fun m => by
  obtain ⟨i1, i2, i3, i4⟩ := slot_is hi
  refine ⟨fun pins s σ H Q I ⟨r, h, env, rel, er, P⟩ => ?_⟩
  replace P : PostG G (RVal G) E r h H Q (match env[i]? with
      | some (some (.ref q)) => (match h.get q with
        | some (.clo ..) => (evEs G.p K m xs env h).bind fun ws h => (match h.get q with
          | some (.clo k cs) => wakeR q k cs (K.lm k cs ws (h.set q .dead))
          | _ => .no)
        | _ => .no)
      | _ => .no) := P
  cases ge : env[i]? with
  | none => rw [ge] at P; exact P.elim
  | some ow =>
    cases ow with
    | none => rw [ge] at P; exact P.elim
    | some w =>
      cases w with
      | ref q =>
        rw [ge] at P
        simp only at P
        cases gq : h.get q with
        | none => rw [gq] at P; exact P.elim
        | some o =>
          cases o with
          | clo l0 cs0 =>
            rw [gq] at P
            simp only at P
            obtain ⟨v, e1, a, en, rfl⟩ := er.val i _ ge
            refine wpAny_Call_Name_kw (thn ((pe_var (pos := p) (by rw [hX.N]; exact i1) (by rw [hX.sc]; exact i2) i3 i4).run pins s σ H (fun v H1 => v = .ref a ∧ H1 = H) I ⟨.ref a, e1, rfl, rfl⟩) fun u s1 ⟨v, H1, I1, r1, q1⟩ => ?_)
            obtain ⟨ev, eH⟩ := q1
            subst ev
            rw [eH] at I1
            obtain rfl : u = Value.ref a := r1
            have tl : ∀ (vs : List V) (H2 : Hp), (∃ r1 h1 ws, Rel G r1 h1 H2 ∧ Step G r h H r1 h1 H2 ∧ RVals G r1 H2 vs ws ∧ PostG G (RVal G) E r1 h1 H2 Q (match h1.get q with
                | some (.clo k cs) => wakeR q k cs (K.lm k cs ws (h1.set q .dead))
                | _ => .no)) → ∀ us s2, L2.Inv X pins σ H2 s2 → Vals vs us → PySem.W.FnAt a s2.heap ∧ wpAny (model X.prog X.w) X.A (call (.ref a) us) (EP X pins σ Q) X.xe s2 := fun vs H2 ⟨r1, h1, ws, rel1, st1, q1, P1⟩ us s2 I2 rv => by
              cases g1 : h1.get q with
              | none => rw [g1] at P1; exact P1.elim
              | some o1 =>
                cases o1 with
                | clo k cs =>
                  rw [g1] at P1
                  have en1 := st1.le.get en
                  exact ⟨fz_at I2 rel1 g1 en1, run_clo hX hk tk rel1 g1 en1 q1 P1 pins s2 us I2 rv⟩
                | _ => rw [g1] at P1; exact (show False from P1).elim
            cases es with
            | nil =>
              refine PySem.W.callWith_F0 (first := []) (fz_at I1 rel gq en) ?_
              have ez : xs = [] := hz rfl
              subst ez
              refine (tl [] H ?_ [] s1 I1 .nil).2
              cases m with
              | zero => exact (show False from P).elim
              | succ m => exact ⟨r, h, [], rel, .refl .., .nil, P⟩
            | cons e es =>
              refine PySem.W.callWith_F (first := []) (fz_at I1 rel gq en) (thn ((h1 m).run pos pins s1 σ H _ I1 ⟨r, h, env, rel, er, P.bind⟩) fun us s2 ⟨vs, H2, I2, rv, q2⟩ => tl vs H2 q2 us s2 I2 rv) (star_ne (all_cons hs).1) (stars_no (all_cons hs).2).1
          | _ => rw [gq] at P; exact (show False from P).elim
      | _ => rw [ge] at P; exact (show False from P).elim
end
end RP

set_option Elab.async false
set_option linter.all false
set_option maxRecDepth 100000
set_option maxHeartbeats 400000
/-! RP43: what the compiler makes of expressions reads them. -/
namespace RP
open PySem PySem.Spec PyProof.Rows L2 LamX NdefX

/-- a frame in which expressions are read -/
structure FrE (X : Cx) (G : Gd) (C : Cc) (D : DK) (E : XK) (K : Orc) : Prop where
  hX : XOk G C X
  hF : FrD X G C D
  hk : KSv X G K
  tk : TakE X E
structure EOk (X : Cx) (G : Gd) (C : Cc) (D : DK) (E : XK) (K : Orc) (e : Expr) (x : RP.E) : Prop where
  oe : OE X G D E K e x
  ot : OT X G D E K e x
  oa : OA X G D E K e x
  ns : noStar e = true
  st : noSt x = true
  nm : ∀ i, x = .nm i → ∃ y pos, e = .Name y pos ∧ C.slot y = some i
section
variable {X : Cx} {G : Gd} {C : Cc} {D : DK} {E : XK} {K : Orc}
theorem FrE.kok (F : FrE X G C D E K) : KOk X G E K := F.hk.kok F.tk
theorem FrE.dok (F : FrE X G C D E K) : DOk D := F.hF.dok
theorem FrE.cmp (F : FrE X G C D E K) (hG : GOk G) (hE : EqOk G) : CmpOk X G E K := cmp_own F.hX hG F.kok hE
theorem FrE.inner {scope : Scope} {X' : Cx} (h1 : XOk G (C.inner scope) X') (h2 : KSv X' G K) : FrE X' G (C.inner scope) D0 E0 K where
  hX := h1
  hF := ⟨fun _ _ _ _ z => z.elim, fun _ _ _ z => z.elim, fun _ _ _ z => z.elim, fun z => nomatch z⟩
  hk := h2
  tk := takes0
theorem EOk.of {e : Expr} {x : RP.E} (hp : plainA x = true) (hs : noSt x = true) (ns : noStar e = true) (oe : OE X G D E K e x) (ot : OT X G D E K e x) : EOk X G C D E K e x :=
  ⟨oe, ot, oa_e hp oe, ns, hs, fun i z => by rw [z] at hp; cases hp⟩
theorem EOk.pl (F : FrE X G C D E K) {e : Expr} {x : RP.E} (hp : plainA x = true) (ht : plainT x = true) (hs : noSt x = true) (ns : noStar e = true) (he : ∀ whole, isTrue e X.env whole = (do let v ← whole; standAt e.pos; holding [v] (truthy v))) (oe : OE X G D E K e x) : EOk X G C D E K e x :=
  .of hp hs ns oe (ot_val F.hX ht he oe)
theorem oe_star {e : Expr} {y : RP.E} : OE X G D E K e (.star y) := oe_of fun m => PE.imp pe_no fun σ H Q ⟨r, h, env, rel, er, P⟩ => (show False from P)
theorem ot_star {e : Expr} {y : RP.E} : OT X G D E K e (.star y) := ot_of fun m => PT.imp pt_no fun σ H Q ⟨r, h, env, rel, er, P⟩ => by
  cases m with
  | zero => exact (show False from P)
  | succ m => exact (show False from P)
theorem ot_ite {e : Expr} {a b c : RP.E} : OT X G D E K e (.ite a b c) := ot_of fun m => PT.imp pt_no fun σ H Q ⟨r, h, env, rel, er, P⟩ => (show False from P)
/-- what holds at a depth of the compiler -/
structure COk (G : Gd) (K : Orc) (n : Nat) : Prop where
  e : ∀ {X : Cx} {C : Cc} {D : DK} {E : XK} {e : Expr} {x : RP.E}, FrE X G C D E K → cE n C e = some x → EOk X G C D E K e x
  es : ∀ {X : Cx} {C : Cc} {D : DK} {E : XK} {es : List Expr} {xs : List RP.E}, FrE X G C D E K → cEs n C es = some xs → OEs X G D E K es xs ∧ Paired (fun e x => OE X G D E K e x ∧ OT X G D E K e x) es xs
  as : ∀ {X : Cx} {C : Cc} {D : DK} {E : XK} {es : List Expr} {xs : List RP.E}, FrE X G C D E K → cAs n C es = some xs → OEs X G D E K es xs ∧ OAs X G D E K es xs ∧ es.all noStar = true ∧ (es = [] → xs = []) ∧ xs.all noSt = true
  o : ∀ {X : Cx} {C : Cc} {D : DK} {E : XK} {e : Option Expr} {x : Option RP.E}, FrE X G C D E K → cO n C e = some x → OO X G D E K e x
  ks : ∀ {X : Cx} {C : Cc} {D : DK} {E : XK} {ks : List (Option Expr)} {vs : List Expr} {xs : List (RP.E × RP.E)}, FrE X G C D E K → cKs n C ks vs = some xs → OKs X G D E K ks vs xs
  i : ∀ {X : Cx} {C : Cc} {D : DK} {E : XK} {t e : Expr} {it : I}, FrE X G C D E K → cI n C t e = some it → OI X G D E K t e it
  t : ∀ {X : Cx} {C : Cc} {D : DK} {E : XK} {e : Expr} {t : T}, FrE X G C D E K → cT n C e = some t → OG X G D E K e t ∧ noStar e = true
  ts : ∀ {X : Cx} {C : Cc} {D : DK} {E : XK} {es : List Expr} {ts : List T}, FrE X G C D E K → cTs n C es = some ts → OGs X G D E K es ts ∧ es.all noStar = true ∧ es.length = ts.length
variable {n : Nat}
theorem c_name (hG : GOk G) (F : FrE X G C D E K) {y : Str} {p : Pos} {x : RP.E} (h : cE (n + 1) C (.Name y p) = some x) : EOk X G C D E K (.Name y p) x := by
  simp only [cE] at h
  split at h
  · rename_i i hi
    cases h
    exact ⟨oe_nm F.hX hi, ot_val F.hX rfl (fun _ => rfl) (oe_nm F.hX hi), oa_nm F.hX hi, rfl, rfl, fun j e => by cases e; exact ⟨y, p, rfl, hi⟩⟩
  · split at h
    · rename_i i hi
      cases h
      exact .pl F rfl rfl rfl rfl (fun _ => rfl) (oe_fn F.hX hG hi)
    · rename_i i hi
      cases h
      exact .pl F rfl rfl rfl rfl (fun _ => rfl) (oe_con F.hX hG hi)
    · rename_i i hi
      cases h
      exact .pl F rfl rfl rfl rfl (fun _ => rfl) (oe_str F.hX hG hi)
    · cases h
theorem c_const (F : FrE X G C D E K) {c : Const} {k : Nat} {p : Pos} {x : RP.E} (h : cE (n + 1) C (.Constant c k p) = some x) : EOk X G C D E K (.Constant c k p) x := by
  simp only [cE] at h
  split at h <;> first | (cases h; done) | (cases h; first | exact .pl F rfl rfl rfl rfl (fun _ => rfl) oe_cnon | exact .pl F rfl rfl rfl rfl (fun _ => rfl) oe_cbl | exact .pl F rfl rfl rfl rfl (fun _ => rfl) oe_cint | exact .pl F rfl rfl rfl rfl (fun _ => rfl) oe_cstr)
theorem c_bin (ih : COk G K n) (F : FrE X G C D E K) {a b : Expr} {o : Operator} {p : Pos} {x : RP.E} (h : cE (n + 1) C (.BinOp a o b p) = some x) : EOk X G C D E K (.BinOp a o b p) x := by
  simp only [cE] at h
  split at h
  · rename_i u v hu hv
    cases h
    exact .pl F rfl rfl rfl rfl (fun _ => rfl) (oe_bin F.hX F.dok (ih.e F hu).oe (ih.e F hv).oe)
  · cases h
theorem c_un (ih : COk G K n) (F : FrE X G C D E K) {a : Expr} {o : UnaryOp} {p : Pos} {x : RP.E} (h : cE (n + 1) C (.UnaryOp o a p) = some x) : EOk X G C D E K (.UnaryOp o a p) x := by
  simp only [cE] at h
  split at h
  · obtain ⟨u, hu, rfl⟩ := Option.map_eq_some_iff.mp h
    exact .of rfl rfl rfl (oe_nt F.hX (ih.e F hu).oe) (ot_nt (ih.e F hu).ot)
  · rename_i hn
    obtain ⟨u, hu, rfl⟩ := Option.map_eq_some_iff.mp h
    refine .pl F rfl rfl rfl rfl (fun _ => ?_) (oe_un hn (ih.e F hu).oe)
    cases o <;> first | rfl | exact absurd rfl hn
/-- the chain of a BoolOp -/
theorem bo_all (F : FrE X G C D E K) {b : Bool} {pos : Pos} : ∀ {es : List Expr} {xs : List RP.E}, Paired (fun e x => OE X G D E K e x ∧ OT X G D E K e x) es xs → OBo X G D E K (.BoolOp (bop b) es pos) b xs ∧ OTs X G D E K (.BoolOp (bop b) es pos) b xs
  | _, _, .nil => ⟨obo_of fun m => PE.imp pe_no fun σ H Q ⟨r, h, env, rel, er, P⟩ => (show False from P), ots_of fun m => PW.imp pw_no fun σ H Q ⟨r, h, env, rel, er, P⟩ => (show False from P)⟩
  | _, _, .cons q .nil => ⟨obo_one q.1, ots_one q.2⟩
  | _, _, .cons q (.cons q2 t) => by
    obtain ⟨h1, h2⟩ := bo_all F (b := b) (pos := pos) (.cons q2 t)
    exact ⟨obo_cons F.hX F.dok q.1 h1, ots_cons F.dok q.2 h2⟩
theorem c_bo (ih : COk G K n) (F : FrE X G C D E K) {es : List Expr} {o : BoolOp} {p : Pos} {x : RP.E} (h : cE (n + 1) C (.BoolOp o es p) = some x) : EOk X G C D E K (.BoolOp o es p) x := by
  simp only [cE] at h
  cases o with
  | And =>
    obtain ⟨u, hu, rfl⟩ := Option.map_eq_some_iff.mp h
    obtain ⟨h1, h2⟩ := bo_all F (b := true) (pos := p) (ih.es F hu).2
    exact .of rfl rfl rfl (oe_bo h1) (ot_bo h2)
  | Or =>
    obtain ⟨u, hu, rfl⟩ := Option.map_eq_some_iff.mp h
    obtain ⟨h1, h2⟩ := bo_all F (b := false) (pos := p) (ih.es F hu).2
    exact .of rfl rfl rfl (oe_bo h1) (ot_bo h2)
theorem marks_no {o : CmpOp} {b : Expr} (h : simpleOp b = true) : behindInMarks o b = false := by
  cases b <;> first | rfl | cases h
theorem c_cmp (hG : GOk G) (hE : EqOk G) (ih : COk G K n) (F : FrE X G C D E K) {a : Expr} {os : List CmpOp} {cs : List Expr} {p : Pos} {x : RP.E} (h : cE (n + 1) C (.Compare a os cs p) = some x) : EOk X G C D E K (.Compare a os cs p) x := by
  have hc := F.cmp hG hE
  simp only [cE] at h
  split at h
  · split at h
    · rename_i hs
      split at h
      · rename_i u v hu hv
        cases h
        exact .of rfl rfl rfl (oe_cmp F.dok hc (marks_no hs) (ih.e F hu).oe (ih.e F hv).oe) (ot_cmp F.dok hc (marks_no hs) (ih.e F hu).oe (ih.e F hv).oe)
      · cases h
    · cases h
  · split at h
    · rename_i hs
      obtain ⟨_, hs2⟩ := Bool.and_eq_true_iff.mp hs
      split at h
      · rename_i u v z hu hv hz
        cases h
        exact .of rfl rfl rfl (oe_chn F.dok hc (marks_no hs2) (ih.e F hu).oe (ih.e F hv).oe (ih.e F hz).oe) (ot_chn F.dok hc (marks_no hs2) (ih.e F hu).oe (ih.e F hv).oe (ih.e F hz).oe)
      · cases h
    · cases h
  · cases h
theorem c_ite (ih : COk G K n) (F : FrE X G C D E K) {c a b : Expr} {p : Pos} {x : RP.E} (h : cE (n + 1) C (.IfExp c a b p) = some x) : EOk X G C D E K (.IfExp c a b p) x := by
  simp only [cE] at h
  split at h
  · rename_i u v z hu hv hz
    cases h
    exact .of rfl rfl rfl (oe_ite F.dok (ih.e F hu).ot (ih.e F hv).oe (ih.e F hz).oe) ot_ite
  · cases h
theorem c_idx (ih : COk G K n) (F : FrE X G C D E K) {a i : Expr} {p : Pos} {x : RP.E} (h : cE (n + 1) C (.Subscript a i p) = some x) : EOk X G C D E K (.Subscript a i p) x := by
  simp only [cE] at h
  split at h
  · split at h
    · rename_i u v z hu hv hz
      cases h
      exact .pl F rfl rfl rfl rfl (fun _ => rfl) (oe_slc F.hX F.dok (ih.e F hu).oe (ih.o F hv) (ih.o F hz))
    · cases h
  · cases h
  · rename_i n1 n2
    split at h
    · rename_i u v hu hv
      cases h
      refine .pl F rfl rfl rfl rfl (fun _ => rfl) (oe_idx F.hX F.dok (fun o j => ?_) (ih.e F hu).oe (ih.e F hv).oe)
      cases i <;> first | rfl | exact absurd rfl (n2 _ _ _ _)
    · cases h
theorem c_attr (hG : GOk G) (ih : COk G K n) (F : FrE X G C D E K) {a : Expr} {f : Str} {p : Pos} {x : RP.E} (h : cE (n + 1) C (.Attribute a f p) = some x) : EOk X G C D E K (.Attribute a f p) x := by
  simp only [cE] at h
  split at h
  · cases h
  · rename_i hc
    obtain ⟨u, hu, rfl⟩ := Option.map_eq_some_iff.mp h
    exact .pl F rfl rfl rfl rfl (fun _ => rfl) (oe_fld F.hX hG (by simpa using hc) (ih.e F hu).oe)
theorem c_tup (ih : COk G K n) (F : FrE X G C D E K) {es : List Expr} {k : Nat} {p : Pos} {x : RP.E} (h : cE (n + 1) C (.Tuple es k p) = some x) : EOk X G C D E K (.Tuple es k p) x := by
  simp only [cE] at h
  obtain ⟨u, hu, rfl⟩ := Option.map_eq_some_iff.mp h
  exact .pl F rfl rfl rfl rfl (fun _ => rfl) (oe_tup (ih.es F hu).1)
theorem c_lst (ih : COk G K n) (F : FrE X G C D E K) {es : List Expr} {p : Pos} {x : RP.E} (h : cE (n + 1) C (.List es p) = some x) : EOk X G C D E K (.List es p) x := by
  simp only [cE] at h
  obtain ⟨u, hu, rfl⟩ := Option.map_eq_some_iff.mp h
  exact .pl F rfl rfl rfl rfl (fun _ => rfl) (oe_lst (ih.es F hu).1)
end
end RP

set_option Elab.async false
set_option linter.all false
set_option maxRecDepth 100000
set_option maxHeartbeats 400000
/-! RP44: calls, comprehensions, dicts; lists of expressions, walks, targets. -/
namespace RP
open PySem PySem.Spec PyProof.Rows L2 LamX NdefX

section
variable {X : Cx} {G : Gd} {C : Cc} {D : DK} {E : XK} {K : Orc} {n : Nat}
theorem folded_no {e : Expr} (h : simpleOp e = true) (env : PySem.Env) (v : Value) : foldedSetIterable e env v = pure v := by
  cases e <;> first | rfl | cases h
theorem c_calln (hG : GOk G) (ih : COk G K n) (F : FrE X G C D E K) {y : Str} {p : Pos} {as : List Expr} {pos : Pos} {x : RP.E} (h : cE (n + 1) C (.Call (.Name y p) as [] pos) = some x) : EOk X G C D E K (.Call (.Name y p) as [] pos) x := by
  simp only [cE] at h
  split at h
  · rename_i i hi
    obtain ⟨xs, hxs, rfl⟩ := Option.map_eq_some_iff.mp h
    obtain ⟨h1, h2, h3, h4, h5⟩ := ih.as F hxs
    exact .pl F rfl rfl rfl rfl (fun _ => rfl) (oe_callv F.hX F.dok F.hk F.tk hi h3 h4 h1)
  · split at h
    · rename_i i hi
      obtain ⟨xs, hxs, rfl⟩ := Option.map_eq_some_iff.mp h
      obtain ⟨h1, h2, h3, h4, h5⟩ := ih.as F hxs
      refine .pl F rfl rfl rfl rfl (fun _ => rfl) ?_
      cases as with
      | nil => rw [h4 rfl]; exact oe_call0 F.hX hG F.hk F.tk hi
      | cons a as => exact oe_call F.hX hG F.hF F.hk F.tk hi h3 h2
    · rename_i c hc
      obtain ⟨xs, hxs, rfl⟩ := Option.map_eq_some_iff.mp h
      obtain ⟨h1, h2, h3, h4, h5⟩ := ih.as F hxs
      refine .pl F rfl rfl rfl rfl (fun _ => rfl) ?_
      cases as with
      | nil => rw [h4 rfl]; exact oe_mk0 F.hX hG F.kok hc
      | cons a as => exact oe_mk F.hX hG F.dok F.kok hc h3 h1
    · cases h
    · split at h
      · rename_i hb
        split at h
        · rename_i hi
          split at h
          · split at h
            · rename_i u ts hu ht
              split at h
              · rename_i hl
                cases h
                exact .pl F rfl rfl rfl rfl (fun _ => rfl) (oe_isi F.hX hG hb (by simpa using hi) (ih.e F hu).ns ht (by simpa using hl) (ih.e F hu).oe)
              · cases h
            · cases h
          · cases h
        · split at h
          · rename_i b eb
            obtain ⟨xs, hxs, rfl⟩ := Option.map_eq_some_iff.mp h
            obtain ⟨h1, h2, h3, h4, h5⟩ := ih.as F hxs
            exact .pl F rfl rfl rfl rfl (fun _ => rfl) (oe_bi F.hX hG hb eb h3 h4 h1)
          · cases h
      · cases h
theorem c_calla (hG : GOk G) (ih : COk G K n) (F : FrE X G C D E K) {o : Expr} {m : Str} {apos : Pos} {as : List Expr} {pos : Pos} {x : RP.E} (h : cE (n + 1) C (.Call (.Attribute o m apos) as [] pos) = some x) : EOk X G C D E K (.Call (.Attribute o m apos) as [] pos) x := by
  simp only [cE] at h
  split at h
  · cases h
  · rename_i h0
    have hb : call0 o = false := by simpa using h0
    split at h
    · rename_i b eb
      split at h
      · rename_i hl
        obtain ⟨l1, l2⟩ := Bool.and_eq_true_iff.mp hl
        split at h
        · rename_i u xs hu hxs
          cases h
          obtain ⟨h1, h2, h3, h4, h5⟩ := ih.as F hxs
          refine .pl F rfl rfl rfl rfl (fun _ => rfl) ?_
          cases as with
          | nil => rw [h4 rfl]; exact oe_bm0 F.hX F.dok eb hb l1 (ih.e F hu).oe
          | cons a as => exact oe_bm F.hX F.dok eb hb h3 (of_decide_eq_true l2) l1 (ih.e F hu).oe h1
        · cases h
      · cases h
    · split at h
      · rename_i hl
        obtain ⟨l1, l2⟩ := Bool.and_eq_true_iff.mp hl
        split at h
        · rename_i u xs hu hxs
          cases h
          obtain ⟨h1, h2, h3, h4, h5⟩ := ih.as F hxs
          refine .pl F rfl rfl rfl rfl (fun _ => rfl) ?_
          cases as with
          | nil => rw [h4 rfl]; exact oe_me0 F.hX hG F.dok F.kok hb l1 (ih.e F hu).oe
          | cons a as => exact oe_me F.hX hG F.dok F.kok hb h3 (of_decide_eq_true l2) l1 (ih.e F hu).oe h1
        · cases h
      · cases h
theorem c_call (hG : GOk G) (ih : COk G K n) (F : FrE X G C D E K) {f : Expr} {as : List Expr} {ks : List Keyword} {pos : Pos} {x : RP.E} (h : cE (n + 1) C (.Call f as ks pos) = some x) : EOk X G C D E K (.Call f as ks pos) x := by
  cases ks with
  | cons k ks => simp only [cE] at h; cases h
  | nil =>
    cases f with
    | Name y p => exact c_calln hG ih F h
    | Attribute o m apos => exact c_calla hG ih F h
    | _ => simp only [cE] at h; cases h
theorem ifs_all : ∀ {es : List Expr} {xs : List RP.E}, Paired (fun e x => OE X G D E K e x ∧ OT X G D E K e x) es xs → OIfs X G D E K es xs
  | _, _, .nil => oifs_nil
  | _, _, .cons q .nil => oifs_one q.2
  | _, _, .cons q (.cons q2 t) => fun m => PTs.imp pts_no fun σ H Q ⟨r, h, env, rel, er, P⟩ => by
    cases m with
    | zero => exact (show False from P)
    | succ m => exact (show False from P)
theorem own_in {t : T} {own : List Nat} (h : ((tsl t).all fun i => decide (i ∈ own)) = true) : ∀ i ∈ tsl t, i ∈ own := fun i hi => by
  have := List.all_eq_true.mp h i hi
  simpa using this
theorem c_lc (ih : COk G K n) (F : FrE X G C D E K) {elt : Expr} {gs : List Comprehension} {scope : Scope} {p : Pos} {x : RP.E} (h : cE (n + 1) C (.ListComp elt gs scope p) = some x) : EOk X G C D E K (.ListComp elt gs scope p) x := by
  simp only [cE] at h
  split at h
  · split at h
    · rename_i hb
      obtain ⟨b1, b2⟩ := Bool.and_eq_true_iff.mp hb
      split at h
      · rename_i it u t fs h1 h2 h3 h4
        split at h
        · rename_i ho
          cases h
          exact .pl F rfl rfl rfl rfl (fun _ => rfl) (oe_lc F.hX F.dok F.hk b1 (folded_no b2 _) (own_in ho) (ih.i F h1) (fun X' a b => (ih.t (.inner a b) h3).1) (fun X' a b => ifs_all (ih.es (.inner a b) h4).2) fun X' a b => (ih.e (.inner a b) h2).oe)
        · cases h
      · cases h
    · cases h
  · cases h
theorem c_dc (ih : COk G K n) (F : FrE X G C D E K) {k v : Expr} {gs : List Comprehension} {scope : Scope} {p : Pos} {x : RP.E} (h : cE (n + 1) C (.DictComp k v gs scope p) = some x) : EOk X G C D E K (.DictComp k v gs scope p) x := by
  simp only [cE] at h
  split at h
  · split at h
    · rename_i hb
      obtain ⟨b1, b2⟩ := Bool.and_eq_true_iff.mp hb
      split at h
      · rename_i it u u2 t h1 h2 h3 h4
        split at h
        · rename_i ho
          cases h
          exact .pl F rfl rfl rfl rfl (fun _ => rfl) (oe_dc F.hX F.dok F.hk b1 (folded_no b2 _) (own_in ho) (ih.i F h1) (fun X' a b => (ih.t (.inner a b) h4).1) (fun X' a b => (ih.e (.inner a b) h2).oe) fun X' a b => (ih.e (.inner a b) h3).oe)
        · cases h
      · cases h
    · cases h
  · cases h
theorem c_dict (ih : COk G K n) (F : FrE X G C D E K) {ks : List (Option Expr)} {vs : List Expr} {p : Pos} {x : RP.E} (h : cE (n + 1) C (.Dict ks vs p) = some x) : EOk X G C D E K (.Dict ks vs p) x := by
  simp only [cE] at h
  split at h
  · cases h
  · rename_i h15
    replace h15 : ks.length ≤ 15 := by simpa using h15
    split at h
    · split at h
      · split at h
        · rename_i u v z hu hv hz
          cases h
          exact .pl F rfl rfl rfl rfl (fun _ => rfl) (oe_dup F.dok (ih.e F hu).oe (ih.e F hv).oe (ih.e F hz).oe)
        · cases h
      · cases h
    · obtain ⟨u, hu, rfl⟩ := Option.map_eq_some_iff.mp h
      have ok := ih.ks F hu
      refine .pl F rfl rfl rfl rfl (fun _ => rfl) ?_
      cases ok with
      | nil => exact oe_dct0
      | cons h1 h2 h3 => exact oe_dct F.dok (fun z => nomatch z) h15 (.cons h1 h2 h3)
theorem c_lam (F : FrE X G C D E K) {a : Arguments} {body : Expr} {scope : Scope} {pos : Pos} {x : RP.E} (h : cE (n + 1) C (.Lambda a body scope pos) = some x) : EOk X G C D E K (.Lambda a body scope pos) x := by
  simp only [cE] at h
  split at h
  · cases h
  · rename_i hl
    simp only [Bool.or_eq_true, Bool.not_eq_true', not_or, Bool.not_eq_false, beq_iff_eq] at hl
    split at h
    · rename_i ps hp
      split at h
      · rename_i hb
        split at h
        · rename_i u cs hu hs
          cases h
          have oe := oe_lam (E := E) (K := K) F.hX F.hF hl.1 hl.2 hp hb hu hs
          exact ⟨oe, ot_val F.hX rfl (fun _ => rfl) oe, oa_lam F.hX F.hF hl.1 hl.2 hp hb hu hs, rfl, rfl, fun i z => nomatch z⟩
        · cases h
      · cases h
    · cases h
theorem c_e (hG : GOk G) (hE : EqOk G) (ih : COk G K n) (F : FrE X G C D E K) {e : Expr} {x : RP.E} (h : cE (n + 1) C e = some x) : EOk X G C D E K e x := by
  cases e with
  | Name => exact c_name hG F h
  | Constant => exact c_const F h
  | BinOp => exact c_bin ih F h
  | UnaryOp => exact c_un ih F h
  | BoolOp => exact c_bo ih F h
  | Compare => exact c_cmp hG hE ih F h
  | IfExp => exact c_ite ih F h
  | Subscript => exact c_idx ih F h
  | Attribute => exact c_attr hG ih F h
  | Tuple => exact c_tup ih F h
  | List => exact c_lst ih F h
  | Call => exact c_call hG ih F h
  | ListComp => exact c_lc ih F h
  | DictComp => exact c_dc ih F h
  | Dict => exact c_dict ih F h
  | Lambda => exact c_lam F h
  | _ => simp only [cE] at h; cases h
/-! ### the rest -/
theorem c_o (ih : COk G K n) (F : FrE X G C D E K) {e : Option Expr} {x : Option RP.E} (h : cO (n + 1) C e = some x) : OO X G D E K e x := by
  cases e with
  | none => simp only [cO] at h; cases h; exact oo_none
  | some e =>
    simp only [cO] at h
    obtain ⟨u, hu, rfl⟩ := Option.map_eq_some_iff.mp h
    exact oo_some (ih.e F hu).oe
theorem EOk.nst {e : Expr} {x : RP.E} (o : EOk X G C D E K e x) : ∀ a, x ≠ .star a := fun a z => by
  have := o.st
  rw [z] at this
  cases this
theorem c_es (ih : COk G K n) (F : FrE X G C D E K) {es : List Expr} {xs : List RP.E} (h : cEs (n + 1) C es = some xs) : OEs X G D E K es xs ∧ Paired (fun e x => OE X G D E K e x ∧ OT X G D E K e x) es xs := by
  simp only [cEs] at h
  split at h
  · cases h; exact ⟨oes_nil, .nil⟩
  · split at h
    · rename_i u us hu hus
      cases h
      obtain ⟨h1, h2⟩ := ih.es F hus
      exact ⟨oes_star F.hX.K F.dok (ih.e F hu).oe h1, .cons ⟨oe_star, ot_star⟩ h2⟩
    · cases h
  · split at h
    · rename_i u us hu hus
      cases h
      obtain ⟨h1, h2⟩ := ih.es F hus
      have o := ih.e F hu
      exact ⟨oes_cons F.dok o.ns o.nst o.oe h1, .cons ⟨o.oe, o.ot⟩ h2⟩
    · cases h
theorem c_as (ih : COk G K n) (F : FrE X G C D E K) {es : List Expr} {xs : List RP.E} (h : cAs (n + 1) C es = some xs) : OEs X G D E K es xs ∧ OAs X G D E K es xs ∧ es.all noStar = true ∧ (es = [] → xs = []) ∧ xs.all noSt = true := by
  simp only [cAs] at h
  split at h
  · cases h; exact ⟨oes_nil, oas_nil, rfl, fun _ => rfl, rfl⟩
  · split at h
    · split at h
      · rename_i u us hu hus
        cases h
        obtain ⟨h1, h2, h3, h4, h5⟩ := ih.as F hus
        have o := ih.e F hu
        exact ⟨oes_cons F.dok o.ns o.nst o.oe h1, oas_cons F.dok o.ns o.oa h2, by rw [List.all_cons, o.ns, h3]; rfl, (fun z => nomatch z), by rw [List.all_cons, o.st, h5]; rfl⟩
      · cases h
    · cases h
theorem c_ks (ih : COk G K n) (F : FrE X G C D E K) {ks : List (Option Expr)} {vs : List Expr} {xs : List (RP.E × RP.E)} (h : cKs (n + 1) C ks vs = some xs) : OKs X G D E K ks vs xs := by
  simp only [cKs] at h
  split at h
  · cases h; exact .nil
  · split at h
    · rename_i u v us hu hv hus
      cases h
      exact .cons (ih.e F hu).oe (ih.e F hv).oe (ih.ks F hus)
    · cases h
  · cases h
theorem tup_is {t : Expr} (h : isTup t = true) : ∃ es k p, t = .Tuple es k p := by
  cases t <;> first | exact ⟨_, _, _, rfl⟩ | cases h
theorem c_i0 (ih : COk G K n) (F : FrE X G C D E K) {t e : Expr} {it : I} (h : (cE n C e).map .e = some it) : OI X G D E K t e it := by
  obtain ⟨u, hu, rfl⟩ := Option.map_eq_some_iff.mp h
  exact oi_e F.hX (ih.e F hu).oe
theorem c_i1 (ih : COk G K n) (F : FrE X G C D E K) {t e : Expr} {it : I} (h : (if isTup t then (cE n C e).map I.ez else (cE n C e).map I.e) = some it) : OI X G D E K t e it := by
  split at h
  · rename_i ht
    obtain ⟨es, k, p, rfl⟩ := tup_is ht
    obtain ⟨u, hu, rfl⟩ := Option.map_eq_some_iff.mp h
    have o := ih.e F hu
    cases u with
    | nm i =>
      obtain ⟨y, pos, rfl, hy⟩ := o.nm i rfl
      exact oi_ez_nm F.hX F.dok F.hF.ze hy
    | _ => exact oi_ez_any F.hX (fun env => rfl) o.oe
  · exact c_i0 ih F h
theorem c_i (hG : GOk G) (ih : COk G K n) (F : FrE X G C D E K) {t e : Expr} {it : I} (h : cI (n + 1) C t e = some it) : OI X G D E K t e it := by
  simp only [cI] at h
  split at h
  · rename_i y p as pos
    split at h
    · rename_i hb
      split at h
      · rename_i hy
        have ey : y = ("range" : Str) := by simpa using hy
        subst ey
        obtain ⟨hg, hm⟩ := blt_is F.hX hG hb (by decide)
        split at h
        · obtain ⟨u, hu, rfl⟩ := Option.map_eq_some_iff.mp h
          have o := ih.e F hu
          exact oi_rng1 (by rw [List.all_cons, o.st]; rfl) rfl hg hm (star_ne o.ns) (oes_cons F.dok o.ns o.nst o.oe oes_nil)
        · split at h
          · rename_i u v hu hv
            cases h
            have o := ih.e F hu
            have o2 := ih.e F hv
            exact oi_rng2 (by rw [List.all_cons, List.all_cons, o.st, o2.st]; rfl) rfl hg hm ((star_ne o.ns).trans (by rw [star_ne o2.ns]; rfl)) (star_ne o2.ns) (oes_cons F.dok o.ns o.nst o.oe (oes_cons F.dok o2.ns o2.nst o2.oe oes_nil))
          · cases h
        · cases h
      · split at h
        · rename_i hy
          have ey : y = ("enumerate" : Str) := by simpa using hy
          subst ey
          obtain ⟨hg, hm⟩ := blt_is F.hX hG hb (by decide)
          split at h
          · split at h
            · rename_i ht
              obtain ⟨es, k, p2, rfl⟩ := tup_is ht
              obtain ⟨u, hu, rfl⟩ := Option.map_eq_some_iff.mp h
              have o := ih.e F hu
              exact oi_enm F.hX hg hm (star_ne o.ns) o.oe
            · cases h
          · cases h
        · split at h
          · rename_i hy
            have ey : y = ("zip" : Str) := by simpa using hy
            subst ey
            split at h
            · rename_i ht
              obtain ⟨es, k, p2, rfl⟩ := tup_is ht
              split at h
              · split at h
                · rename_i u v hu hv
                  cases h
                  have o := ih.e F hu
                  have o2 := ih.e F hv
                  exact oi_zp F.hX hG F.dok hb o.ns o2.ns o.oe o2.oe
                · cases h
              · split at h
                · rename_i u v z hu hv hz
                  cases h
                  have o := ih.e F hu
                  have o2 := ih.e F hv
                  have o3 := ih.e F hz
                  exact oi_zp3 F.hX hG F.dok hb o.ns o2.ns o3.ns o.oe o2.oe o3.oe
                · cases h
              · cases h
            · cases h
          · exact c_i0 ih F h
    · exact c_i0 ih F h
  · exact c_i1 ih F h
theorem c_t (hG : GOk G) (ih : COk G K n) (F : FrE X G C D E K) {e : Expr} {t : T} (h : cT (n + 1) C e = some t) : OG X G D E K e t ∧ noStar e = true := by
  cases e with
  | Name y p =>
    simp only [cT] at h
    obtain ⟨u, hu, rfl⟩ := Option.map_eq_some_iff.mp h
    exact ⟨og_nm F.hX hu, rfl⟩
  | Tuple es k p =>
    simp only [cT] at h
    obtain ⟨u, hu, rfl⟩ := Option.map_eq_some_iff.mp h
    obtain ⟨h1, h2, h3⟩ := ih.ts F hu
    exact ⟨og_tup F.hX h2 h3 h1, rfl⟩
  | Subscript o i p =>
    simp only [cT] at h
    split at h
    · cases h
    · rename_i ns
      split at h
      · rename_i u v hu hv
        cases h
        refine ⟨og_idx F.hX F.dok ?_ (ih.e F hu).oe (ih.e F hv).oe, rfl⟩
        cases i <;> first | rfl | exact absurd rfl (ns _ _ _ _)
      · cases h
  | Attribute o f p =>
    simp only [cT] at h
    obtain ⟨u, hu, rfl⟩ := Option.map_eq_some_iff.mp h
    exact ⟨og_fld F.hX hG F.dok (ih.e F hu).oe, rfl⟩
  | _ => simp only [cT] at h; cases h
theorem c_ts (ih : COk G K n) (F : FrE X G C D E K) {es : List Expr} {ts : List T} (h : cTs (n + 1) C es = some ts) : OGs X G D E K es ts ∧ es.all noStar = true ∧ es.length = ts.length := by
  simp only [cTs] at h
  split at h
  · cases h; exact ⟨ogs_nil, rfl, rfl⟩
  · split at h
    · rename_i u us hu hus
      cases h
      obtain ⟨a1, a2⟩ := ih.t F hu
      obtain ⟨b1, b2, b3⟩ := ih.ts F hus
      exact ⟨ogs_cons F.dok a2 a1 b1, by rw [List.all_cons, a2, b2]; rfl, by rw [List.length_cons, List.length_cons, b3]⟩
    · cases h
/-- the compiler's expressions are read, at every depth -/
theorem cok (hG : GOk G) (hE : EqOk G) : ∀ n, COk G K n
  | 0 => ⟨fun _ h => by simp [cE] at h, fun _ h => by simp [cEs] at h, fun _ h => by simp [cAs] at h, fun _ h => by simp [cO] at h, fun _ h => by simp [cKs] at h, fun _ h => by simp [cI] at h, fun _ h => by simp [cT] at h, fun _ h => by simp [cTs] at h⟩
  | n + 1 => by
    have ih := cok hG hE n
    exact ⟨fun F h => c_e hG hE ih F h, fun F h => c_es ih F h, fun F h => c_as ih F h, fun F h => c_o ih F h, fun F h => c_ks ih F h, fun F h => c_i hG ih F h, fun F h => c_t hG ih F h, fun F h => c_ts ih F h⟩
end
end RP

set_option Elab.async false
set_option linter.all false
set_option maxRecDepth 100000
set_option maxHeartbeats 400000
/-! RP45: what the compiler makes of statements reads them. -/
namespace RP
open PySem PySem.Spec PyProof.Rows L2 LamX NdefX

/-- a frame in which statements are read -/
structure FrS (X : Cx) (G : Gd) (C : Cc) (D : DK) (E : XK) (K : Orc) : Prop where
  fe : FrE X G C D E K
  ok : FrOk X
  zi : DZi X D
  kind : X.env.scope.kind = .function
/-- what is given of the text, for statements -/
structure GS (G : Gd) : Prop where
  ok : GOk G
  eq : EqOk G
  xc : ∀ c, (excI G.p c).isSome = true → XcOk G c
  ex : ExmOk G
section
variable {X : Cx} {G : Gd} {C : Cc} {D : DK} {E : XK} {K : Orc} {n : Nat}
theorem FrS.blk (F : FrS X G C D E K) : X.env.blockKind = .function := by
  unfold PySem.Env.blockKind
  rw [F.kind]
  rfl
theorem comp_no {e : Expr} (h : isComp e = false) (line : Nat) (t : Option Expr) (env : PySem.Env) : swapsWith e t line env = pure false := by
  cases e <;> first | rfl | cases h
theorem sw_gen {c0 c0' c1 c1' c2 c2' c3 c4 : Bool} {L L' : List Str} {t : Sem (Option (List Str))} (h0 : c0 = c0') (h1 : c1 = c1') (hL : L = L') (h2 : L = L' → c2 = c2') (hb : c0' = false → c1' = false → c2' = false → c3 = false → c4 = false) :
    (if c0 = true then pure none else if c1 = true then pure none else if c2 = true then pure none else if c3 = true then pure none else if c4 = true then t else pure (some L) : Sem (Option (List Str))) =
      pure (if c0' = true then none else if c1' = true then none else if c2' = true then none else if c3 = true then none else some L') := by
  have h3 := h2 hL
  clear h2
  subst h0 h1 hL h3
  cases c0
  · cases c1
    · cases c2
      · cases c3
        · rw [hb rfl rfl rfl rfl]; rfl
        · rfl
      · rfl
    · rfl
  · rfl
/-- the names of a parallel assignment -/
theorem sw_pure (F : FrS X G C D E K) {ts vs : List Expr} {k k2 : Nat} {p p2 : Pos} (hb : ∀ nm, swapNames C ts vs = some nm → swapBad vs = false) : swappedStores [.Tuple ts k p] (.Tuple vs k2 p2) X.env = pure (swapNames C ts vs) := by
  have kk : ∀ id, X.env.kindOf id = C.sc.names.lookup id := fun id => by
    unfold PySem.Env.kindOf
    rw [F.fe.hX.sc]
  unfold swappedStores
  unfold swapNames at hb ⊢
  simp only [F.blk, kk]
  refine sw_gen (by simp) (congrArg vs.any (funext fun x => by cases x <;> rfl)) (congrArg (fun f => List.filterMap f ts) (funext fun x => by cases x <;> rfl)) (fun z => by rw [z]) fun z0 z1 z2 z3 => ?_
  refine hb ?nm ?h
  case h =>
    rw [z0, z1]
    simp only [z2, z3]
    rfl
theorem swF_is {line : Nat} {t : Expr} {y : Str} (h : swF C line t = some y) : ∃ p, t = .Name y p ∧ C.sc.names.lookup y = some .local := by
  cases t with
  | Name id pos =>
    simp only [swF] at h
    split at h
    · rename_i c
      cases h
      exact ⟨pos, rfl, by simpa using (Bool.and_eq_true_iff.mp c).1⟩
    · cases h
  | _ => cases h
theorem swF_all {line : Nat} : ∀ {ts : List Expr}, (ts.filterMap (swF C line)).length = ts.length → Paired (fun t y => ∃ p, t = .Name y p ∧ C.sc.names.lookup y = some .local) ts (ts.filterMap (swF C line))
  | [], _ => .nil
  | t :: ts, h => by
    cases g : swF C line t with
    | none =>
      rw [List.filterMap_cons_none g] at h
      have := List.length_filterMap_le (swF C line) ts
      simp only [List.length_cons] at h
      omega
    | some y =>
      rw [List.filterMap_cons_some g] at h ⊢
      exact .cons (swF_is g) (swF_all (by simpa using h))
theorem sw_is {ts vs : List Expr} {names : List Str} (h : swapNames C ts vs = some names) : Paired (fun t y => ∃ p, t = .Name y p ∧ C.sc.names.lookup y = some .local) ts names ∧ (ts.length = 2 ∨ ts.length = 3) ∧ vs.length = ts.length ∧ names.eraseDups.length = names.length := by
  unfold swapNames at h
  simp only at h
  split at h
  · cases h
  · rename_i c0
    split at h
    · cases h
    · split at h
      · cases h
      · rename_i c2
        split at h
        · cases h
        · cases h
          simp only [Bool.or_eq_true, Bool.not_eq_true', not_or, bne_iff_ne, ne_eq, Decidable.not_not, Bool.not_eq_false, beq_iff_eq] at c0 c2
          exact ⟨swF_all c2.1, c0.1, c0.2, c2.2⟩
theorem two_ne {x y : Str} (h : [x, y].eraseDups.length = 2) : x ≠ y := by
  rintro rfl
  simp [List.eraseDups_cons] at h
theorem three_ne {x y z : Str} (h : [x, y, z].eraseDups.length = 3) : x ≠ y ∧ x ≠ z ∧ y ≠ z := by
  refine ⟨?_, ?_, ?_⟩
  · rintro rfl
    by_cases c : z = x
    · subst c; simp [List.eraseDups_cons] at h
    · simp [List.eraseDups_cons, c] at h
  · rintro rfl
    by_cases c : y = x
    · subst c; simp [List.eraseDups_cons] at h
    · simp [List.eraseDups_cons, c] at h
  · rintro rfl
    by_cases c : y = x
    · subst c; simp [List.eraseDups_cons] at h
    · simp [List.eraseDups_cons, c] at h
theorem slot_ne {x y : Str} {i j : Nat} (hi : C.tslot x = some i) (hj : C.tslot y = some j) (h : x ≠ y) : i ≠ j := by
  rintro rfl
  have h1 := (tslot_is hi).1
  rw [(tslot_is hj).1] at h1
  exact h (Option.some.inj h1).symm
theorem c_par (hG : GS G) (F : FrS X G C D E K) {ts vs : List Expr} {k k2 : Nat} {p p2 pos : Pos} {names : List Str} {is : List Nat} {xs : List RP.E} (hn : swapNames C ts vs = some names) (hb : swapBad vs = false) (hi : seqM (names.map C.tslot) = some is) (hx : cEs n C vs = some xs) :
    OS X G D E K (.Assign [.Tuple ts k p] (.Tuple vs k2 p2) pos) (.par is xs) := by
  have sw := sw_pure F (ts := ts) (vs := vs) (k := k) (k2 := k2) (p := p) (p2 := p2) (fun nm _ => hb)
  rw [hn] at sw
  obtain ⟨pr, hl, hv, hd⟩ := sw_is hn
  have h1 := ((cok (K := K) hG.ok hG.eq n).es F.fe hx).1
  have pi := seqM_map hi
  rcases hl with hl | hl
  · match ts, names, vs, is, pr, hl, hv, pi with
    | [_, _], [x, y], [a, b], [i, j], .cons ⟨px, rfl, lx⟩ (.cons ⟨py, rfl, ly⟩ .nil), _, _, .cons hi (.cons hj .nil) =>
      exact os_par2 F.fe.hX F.fe.dok hi hj (slot_ne hi hj (two_ne hd)) lx ly sw rfl h1
  · match ts, names, vs, is, pr, hl, hv, pi with
    | [_, _, _], [x, y, z], [a, b, c], [i, j, l], .cons ⟨px, rfl, lx⟩ (.cons ⟨py, rfl, ly⟩ (.cons ⟨pz, rfl, lz⟩ .nil)), _, _, .cons hi (.cons hj (.cons hk .nil)) =>
      obtain ⟨d1, d2, d3⟩ := three_ne hd
      exact os_par3 F.fe.hX F.fe.dok hi hj hk (slot_ne hi hj d1) (slot_ne hi hk d2) (slot_ne hj hk d3) lx ly lz sw rfl h1
theorem c_setLc (hG : GS G) (F : FrS X G C D E K) {elt : Expr} {gs : List Comprehension} {scope : Scope} {p py spos : Pos} {x : RP.E} {y : Str} {i : Nat} (hi : C.tslot y = some i) (hl : C.sc.names.lookup y = some .local) (sw : swapsWith (.ListComp elt gs scope p) (some (.Name y py)) spos.line X.env = pure true) (h : cE (n + 1) C (.ListComp elt gs scope p) = some x) :
    OS X G D E K (.Assign [.Name y py] (.ListComp elt gs scope p) spos) (.asg (.nm i) x) := by
  have ih := cok (K := K) hG.ok hG.eq n
  simp only [cE] at h
  split at h
  · split at h
    · rename_i hb
      obtain ⟨b1, b2⟩ := Bool.and_eq_true_iff.mp hb
      split at h
      · rename_i it u t fs h1 h2 h3 h4
        split at h
        · rename_i ho
          cases h
          exact os_setLc F.fe.hX F.fe.dok F.fe.hk hi hl sw b1 (folded_no b2 _) (own_in ho) (ih.i F.fe h1) (fun X' a b => (ih.t (.inner a b) h3).1) (fun X' a b => ifs_all (ih.es (.inner a b) h4).2) fun X' a b => (ih.e (.inner a b) h2).oe
        · cases h
      · cases h
    · cases h
  · cases h
theorem c_setDc (hG : GS G) (F : FrS X G C D E K) {k v : Expr} {gs : List Comprehension} {scope : Scope} {p py spos : Pos} {x : RP.E} {y : Str} {i : Nat} (hi : C.tslot y = some i) (hl : C.sc.names.lookup y = some .local) (sw : swapsWith (.DictComp k v gs scope p) (some (.Name y py)) spos.line X.env = pure true) (h : cE (n + 1) C (.DictComp k v gs scope p) = some x) :
    OS X G D E K (.Assign [.Name y py] (.DictComp k v gs scope p) spos) (.asg (.nm i) x) := by
  have ih := cok (K := K) hG.ok hG.eq n
  simp only [cE] at h
  split at h
  · split at h
    · rename_i hb
      obtain ⟨b1, b2⟩ := Bool.and_eq_true_iff.mp hb
      split at h
      · rename_i it u u2 t h1 h2 h3 h4
        split at h
        · rename_i ho
          cases h
          exact os_setDc F.fe.hX F.fe.dok F.fe.hk hi hl sw b1 (folded_no b2 _) (own_in ho) (ih.i F.fe h1) (fun X' a b => (ih.t (.inner a b) h4).1) (fun X' a b => (ih.e (.inner a b) h2).oe) fun X' a b => (ih.e (.inner a b) h3).oe
        · cases h
      · cases h
    · cases h
  · cases h
/-- whether the new value of a comprehension is stored within it -/
def swB (X : Cx) (y : Str) (l1 l2 : Nat) (scope : Scope) : Bool := X.env.blockKind == .function && X.env.kindOf y == some .local && l1 == l2 && !(scope.names.any fun (n, k) => n == y && (k == .local || k == .cell))
theorem swB_loc (F : FrS X G C D E K) {y : Str} {l1 l2 : Nat} {scope : Scope} (h : swB X y l1 l2 scope = true) : C.sc.names.lookup y = some .local := by
  unfold swB at h
  simp only [Bool.and_eq_true] at h
  have := h.1.1.2
  unfold PySem.Env.kindOf at this
  rw [F.fe.hX.sc] at this
  simpa using this
theorem c_asg (hG : GS G) (F : FrS X G C D E K) {t e : Expr} {t' : T} {x : RP.E} {pos : Pos} (ht : cT n C t = some t') (he : cE n C e = some x) (hw : swappedStores [t] e X.env = pure none) : OS X G D E K (.Assign [t] e pos) (.asg t' x) := by
  have ih := cok (K := K) hG.ok hG.eq n
  have o := ih.e F.fe he
  have ot := ih.t F.fe ht
  cases n with
  | zero => simp [cE] at he
  | succ n =>
    have plain : swapsWith e (some t) pos.line X.env = pure false → OS X G D E K (.Assign [t] e pos) (.asg t' x) := fun hs => os_asg F.fe.dok hs hw ot.2 o.oe ot.1
    cases hc : isComp e with
    | false => exact plain (comp_no hc _ _ _)
    | true =>
      cases t with
      | Name y py =>
        simp only [cT] at ht
        obtain ⟨i, hi, rfl⟩ := Option.map_eq_some_iff.mp ht
        cases e with
        | ListComp elt gs scope p =>
          cases b : swB X y py.line p.line scope with
          | false => exact plain (congrArg pure b)
          | true => exact c_setLc hG F hi (swB_loc F b) (congrArg pure b) he
        | DictComp k v gs scope p =>
          cases b : swB X y py.line p.line scope with
          | false => exact plain (congrArg pure b)
          | true => exact c_setDc hG F hi (swB_loc F b) (congrArg pure b) he
        | SetComp => simp [cE] at he
        | _ => cases hc
      | _ =>
        cases e with
        | ListComp => exact plain rfl
        | DictComp => exact plain rfl
        | SetComp => simp [cE] at he
        | _ => cases hc
end
end RP

set_option Elab.async false
set_option linter.all false
set_option maxRecDepth 100000
set_option maxHeartbeats 400000
/-! RP46: statements, the rest. -/
namespace RP
open PySem PySem.Spec PyProof.Rows L2 LamX NdefX

section
variable {X : Cx} {G : Gd} {C : Cc} {D : DK} {E : XK} {K : Orc} {n : Nat}
theorem pend_tr {H : Hp} {v : V} {l : Lm} {pn : List (Addr × Obj)} {xe : Value → Shared → Prop} : PendOk (X.tr pn xe) G H v l ↔ PendOk X G H v l := by
  constructor
  · rintro ⟨f, F, ps, cs, b, h1, h2, h3, h4, h5, h6⟩
    exact ⟨f, F, ps, cs, b, h1, h2, h3, h4, ⟨h5.sub, h5.kin, h5.sup, h5.at_⟩, h6⟩
  · rintro ⟨f, F, ps, cs, b, h1, h2, h3, h4, h5, h6⟩
    exact ⟨f, F, ps, cs, b, h1, h2, h3, h4, ⟨h5.sub, h5.kin, h5.sup, h5.at_⟩, h6⟩
theorem FrE.tr (F : FrE X G C D E K) {E' : XK} {pn : List (Addr × Obj)} {xe : Value → Shared → Prop} (tk : TakE (X.tr pn xe) E') : FrE (X.tr pn xe) G C D E' K where
  hX := F.hX.tr pn xe
  hF := ⟨F.hF.dok, F.hF.ze, fun H v l z => ⟨pend_tr.mpr (F.hF.pe H v l z).1, (F.hF.pe H v l z).2⟩, fun z => ⟨(F.hF.lm z).1, fun H v l y => (F.hF.lm z).2.1 H v l (pend_tr.mp y), (F.hF.lm z).2.2⟩⟩
  hk := F.hk.tr pn xe
  tk := tk
theorem sw_none {t e : Expr} {env : PySem.Env} (h1 : ∀ es k p vs k2 p2, t = .Tuple es k p → e = .Tuple vs k2 p2 → False) (h2 : ∀ es p, t ≠ .List es p) : swappedStores [t] e env = pure none := by
  cases t with
  | Tuple es k p =>
    cases e with
    | Tuple vs k2 p2 => exact (h1 _ _ _ _ _ _ rfl rfl).elim
    | _ => rfl
  | List es p => exact absurd rfl (h2 _ _)
  | _ => rfl
theorem cT_nl {t : Expr} {t' : T} (h : cT n C t = some t') : ∀ es p, t ≠ .List es p := fun es p z => by
  subst z
  cases n <;> simp [cT] at h
theorem c_assign (hG : GS G) (F : FrS X G C D E K) {ts : List Expr} {e : Expr} {pos : Pos} {st : S} (h : cS (n + 1) C (.Assign ts e pos) = some st) : OS X G D E K (.Assign ts e pos) st := by
  simp only [cS] at h
  split at h
  · rename_i t
    split at h
    · split at h
      · rename_i names hn
        split at h
        · cases h
        · rename_i hb
          split at h
          · rename_i is xs his hxs
            cases h
            exact c_par hG F hn (by simpa using hb) his hxs
          · cases h
      · rename_i hn
        split at h
        · rename_i t' x ht hx
          cases h
          exact c_asg hG F ht hx ((sw_pure F fun nm z => by rw [hn] at z; cases z).trans (by rw [hn]))
        · cases h
    · split at h
      · rename_i hc
        obtain ⟨c1, c2⟩ := Bool.and_eq_true_iff.mp hc
        have ex := (beq_iff_eq.mp c2)
        subst ex
        split at h
        · rename_i i u v hi hu hv
          cases h
          have o := (cok (K := K) hG.ok hG.eq n).e F.fe hu
          have o2 := (cok (K := K) hG.ok hG.eq n).e F.fe hv
          exact os_asgz F.fe.hX hG.ok F.fe.dok F.zi hi c1 o.ns o2.ns o.oe o2.oe
        · cases h
      · split at h
        · rename_i t' x ht hx
          cases h
          exact c_asg hG F ht hx rfl
        · cases h
    · rename_i n1 n2
      split at h
      · rename_i t' x ht hx
        cases h
        exact c_asg hG F ht hx (sw_none (fun _ _ _ _ _ _ z1 z2 => n1 _ _ _ _ _ _ z1 z2) (cT_nl ht))
      · cases h
  · cases h
theorem c_s (hG : GS G) (F : FrS X G C D E K) (ihs : ∀ {b : List Stmt} {bs : List S}, cSs n C b = some bs → OSs X G D E K b bs) {s : Stmt} {st : S} (h : cS (n + 1) C s = some st) : OS X G D E K s st := by
  have ih := cok (K := K) hG.ok hG.eq n
  by_cases ha : ∃ ts e pos, s = .Assign ts e pos
  · obtain ⟨ts, e, pos, rfl⟩ := ha
    exact c_assign hG F h
  simp only [cS] at h
  split at h
  · exact absurd ⟨_, _, _, rfl⟩ ha
  · split at h
    · cases h
    · rename_i hc
      split at h
      · cases h; exact os_doc
      · obtain ⟨u, hu, rfl⟩ := Option.map_eq_some_iff.mp h
        exact os_expr F.fe.dok (comp_no (by simpa using hc) _ _ _) (ih.e F.fe hu).oe
  · split at h
    · cases h; exact os_retN
    · obtain ⟨u, hu, rfl⟩ := Option.map_eq_some_iff.mp h
      exact os_ret (ih.e F.fe hu).oe
  · split at h
    · cases h
    · split at h
      · rename_i u v z hu hv hz
        cases h
        exact os_iff F.fe.dok (ih.e F.fe hu).ot (ihs hv) (ihs hz)
      · cases h
  · split at h
    · rename_i hs
      split at h
      · rename_i u v z hu hv hz
        cases h
        exact os_fo F.fe.hX F.fe.dok F.ok.own (folded_no hs _) (ih.i F.fe hv) (ih.t F.fe hu).1 (ihs hz)
      · cases h
    · cases h
  · split at h
    · cases h
    · split at h
      · rename_i u v hu hv
        cases h
        exact os_wh F.fe.dok F.ok.own (ih.e F.fe hu).ot (ihs hv)
      · cases h
  · cases h
    exact os_pass
  · split at h
    · cases h
    · split at h
      · rename_i c hc
        obtain ⟨u, hu, rfl⟩ := Option.map_eq_some_iff.mp h
        have o := ih.e F.fe hu
        exact os_rais F.fe.hX hG.ok F.fe.dok F.fe.tk F.ok.room hG.xc hc o.ns o.nst o.oe
      · cases h
  · split at h
    · cases h
    · rename_i hl
      simp only [Bool.or_eq_true, Bool.not_eq_true', not_or, Bool.not_eq_false, beq_iff_eq] at hl
      obtain ⟨⟨exy, l1⟩, l2⟩ := hl
      subst exy
      split at h
      · rename_i ps i hp hi
        split at h
        · rename_i hb
          split at h
          · rename_i bs cs hbs hcs
            cases h
            exact os_ndef F.fe.hX F.fe.hF l1 l2 hp hi hb hbs hcs
          · cases h
        · cases h
      · cases h
  · split at h
    · rename_i u v hu hv
      cases h
      exact os_del F.fe.dok (ih.e F.fe hu).oe (ih.e F.fe hv).oe
    · cases h
  · split at h
    · cases h
    · rename_i hc
      split at h
      · rename_i c u hcl hu
        cases h
        exact os_try F.fe.hX hG.ok F.fe.hk F.fe.tk F.ok hG.ex hcl (comp_no (by simpa using hc) _ _) fun pn xe E' tk => (ih.e (F.fe.tr tk) hu).oe
      · cases h
  · cases h
theorem c_ss (hG : GS G) (F : FrS X G C D E K) : ∀ (n : Nat), (∀ {s : Stmt} {st : S}, cS n C s = some st → OS X G D E K s st) ∧ ∀ {b : List Stmt} {bs : List S}, cSs n C b = some bs → OSs X G D E K b bs
  | 0 => ⟨fun h => by simp [cS] at h, fun h => by simp [cSs] at h⟩
  | n + 1 => by
    obtain ⟨h1, h2⟩ := c_ss hG F n
    refine ⟨fun h => c_s hG F h2 h, fun {b bs} h => ?_⟩
    simp only [cSs] at h
    split at h
    · cases h; exact oss_nil
    · split at h
      · rename_i u us hu hus
        cases h
        exact oss_cons F.fe.dok (h1 hu) (h2 hus)
      · cases h
end
end RP

set_option Elab.async false
set_option linter.all false
set_option maxRecDepth 100000
set_option maxHeartbeats 400000
/-! RP47: a def runs as the machine says. -/
namespace RP
open PySem PySem.Spec PyProof.Rows L2 LamX NdefX

/-- what stands in a def's slots beside values -/
def DF (X : Cx) (G : Gd) : DK := fun H v w => match w with
  | .pend l => PendOk X G H v l
  | .zipv _ => ∃ N : Nat, v = .ref (N + 4) ∧ X.s_0.heap.objs.size ≤ N
  | _ => False
theorem PendOk.kp {X : Cx} {G : Gd} {H H' : Hp} {v : V} {l : Lm} (p : PendOk X G H v l) (k : Kp H H') : PendOk X G H' v l := by
  obtain ⟨f, F, ps, cs, b, h1, h2, h3, h4, h5, h6⟩ := p
  exact ⟨f, F, ps, cs, b, h1, fz_kp k h2, k.code _ _ h3, h4, h5, h6⟩
theorem df_ok {X : Cx} {G : Gd} : DOk (DF X G) := fun H H' v w d k => by
  cases w with
  | pend l => exact PendOk.kp d k
  | zipv n => exact d
  | _ => exact d
section
variable {G : Gd} {D : DK} {E : XK} {K : Orc}
theorem start_env {r : List Addr} {H : Hp} {vs : List V} {ws : List W} {N : List Str} (q : VWs G r vs ws) (hl : ws.length ≤ N.length) : EnvR G D r H (L2.start N vs) (startE N.length ws) := by
  have e := pair_len q
  refine ⟨?_, fun i w ei => ?_⟩
  · unfold L2.start startE
    rw [List.length_append, List.length_append, List.length_map, List.length_map, List.length_replicate, List.length_replicate, e]
  · unfold startE at ei
    unfold L2.start
    by_cases hi : i < ws.length
    · rw [List.getElem?_append_left (by simpa using hi), List.getElem?_map] at ei
      cases g : ws[i]? with
      | none => rw [g] at ei; cases ei
      | some w' =>
        rw [g] at ei
        cases ei
        obtain ⟨v, hv, r⟩ := pair_get q g
        exact ⟨v, by rw [List.getElem?_append_left (by rw [List.length_map, e]; exact hi), List.getElem?_map, hv]; rfl, .of r⟩
    · rw [List.getElem?_append_right (by simpa using hi), List.getElem?_replicate] at ei
      split at ei <;> cases ei
theorem startF_env {r : List Addr} {H : Hp} {vs vcs : List V} {ws cs : List W} {N : List Str} (q : VWs G r vs ws) (qc : VWs G r vcs cs) (hl : ws.length + cs.length ≤ N.length) : EnvR G D r H (startF N vs (vcs.map some)) (startE N.length (ws ++ cs)) := by
  have e := start_env (D := D) (H := H) (N := N) (pair_app q qc) (by rw [List.length_append]; exact hl)
  have z : L2.start N (vs ++ vcs) = startF N vs (vcs.map some) := by
    unfold L2.start startF
    rw [List.map_append, List.append_assoc, List.length_append, List.length_map, Nat.sub_add_eq]
  rw [z] at e
  exact e
/-- the end of a body -/
theorem fin_post {r : List Addr} {h : Hv} {H : Hp} {Q : VK} : ∀ {x : Res Out}, PostG G (RVal G) E r h H Q (fin x) → PostG G (ROut G D) E r h H (endsOf { nx := fun _ H' => Q .non H', rt := Q }) x
  | .no, P => P
  | .ex _ _ _, P => P
  | .ok o h', P => by
    cases o with
    | nx env =>
      intro b H' r' rel st q
      cases b with
      | nx σ => exact P .non H' r' rel st rfl
      | _ => exact q.elim
    | rt w =>
      intro b H' r' rel st q
      cases b with
      | rt v => exact P v H' r' rel st q
      | _ => exact q.elim
    | _ => exact (show False from P).elim
end
/-- where a def of the text stands, what it was made to -/
structure DefAt (G : Gd) (f : Addr) (df : Df) (C : Cc) : Prop where
  gl : C.gl = G.gl
  ns : df.ns = C.N.length
  at_ : ∃ (oc : Value) (od : Option Addr) (name qual : Str) (params : Arguments) (body : List Stmt) (kV doc pm cdv ct : Value) (an : Option Addr) (osl : Array (Option Value)) (ps : List Str) (n : Nat),
    G.K.lookup f = some ⟨oc, od, .func (PySem.W.fnOf name qual params body C.sc .none kV doc pm an cdv ct), osl⟩ ∧ PySem.W.codeIn G.K cdv qual = true ∧ argNames params = some ps ∧ FnScope C.N ps C.sc ∧ df.np = ps.length ∧ cSs n C body = some df.body ∧
      (C.lam = true → ∃ c P nm, TabB G.base G.mg c P ∧ cdv = .ref c ∧ (P, nm) ∈ G.Ts ∧ (∀ p ∈ G.Ts, p.1 = P → p.2 = nm) ∧ ∀ i j, nm i j = (qual ++ ".<locals>.") ++ nmOf C.nm i j)
/-- every def of the inner program is one of the text, or is never served -/
def PgOk (G : Gd) : Prop := ∀ i df, G.p.defs[i]? = some df → df.body = [.ret (.star (.cst .non))] ∨ ∃ C, DefAt G (G.F i) df C
/-- a def's own frame -/
theorem frS_of {G : Gd} {C : Cc} {E : XK} {K : Orc} {k : Nat} {ps : List Str} {qual : Str} {f : Addr} {cdv : Value} {A : Around} {outer : List PySem.Env} {s : Shared} {H : Hp} (S : FnScope C.N ps C.sc) (hgl : C.gl = G.gl)
    (hm : C.lam = true → ∃ c P nm, TabB G.base G.mg c P ∧ cdv = .ref c ∧ (P, nm) ∈ G.Ts ∧ (∀ p ∈ G.Ts, p.1 = P → p.2 = nm) ∧ ∀ i j, nm i j = (qual ++ ".<locals>.") ++ nmOf C.nm i j)
    (hr : Room (k + 1) (A.deeper (envOfC qual C.sc s.heap.objs.size f cdv))) (h1 : 1 ≤ k) (hf : ∀ f, FnR G.P G.w G.K G.mg G.base (L2.CX G.P G.w) k (G.F f) (spF G K f)) (hl : LmR G.P G.w G.K G.mg G.base G K k) :
    FrS (cxOf (L2.CX G.P G.w) G.P G.w G.K G.mg G.base C.N qual C.sc f cdv A outer s H E) G C (DF (cxOf (L2.CX G.P G.w) G.P G.w G.K G.mg G.base C.N qual C.sc f cdv A outer s H E) G) E K where
  fe := {
    hX := ⟨rfl, rfl, rfl, rfl, rfl, rfl, rfl, S.nd, hgl, rfl, by have := hr.un; show (A.deeper _).units + 66 < cLine; omega, fun _ _ _ => .inl rfl⟩
    hF := ⟨df_ok, fun _ _ _ z => z, fun _ _ _ z => ⟨z, fun _ => rfl⟩, fun z => ⟨hm z, fun _ _ _ y => y, fun _ => rfl⟩⟩
    hk := ⟨k, hr, hf, hl⟩
    tk := takes_of rfl rfl rfl rfl }
  ok := ⟨rfl, rfl, passes_of rfl, hr.mono (by omega)⟩
  zi := fun H' n N h => ⟨N, rfl, h⟩
  kind := S.kind
theorem stub_no {p : Pg} {K : Orc} {m : Nat} {env : Env} {h : Hv} : fin (evSs p K m [.ret (.star (.cst .non))] env h) = .no := by
  cases m with
  | zero => rfl
  | succ m =>
    cases m with
    | zero => rfl
    | succ m => cases m <;> rfl
/-- a def by its body -/
theorem fn_step {G : Gd} (hG : GS G) (hP : PgOk G) {K : Orc} {k d : Nat} (h1 : 1 ≤ k) (hK : K = orc G.p d) (hf : ∀ f, FnR G.P G.w G.K G.mg G.base (L2.CX G.P G.w) k (G.F f) (spF G K f)) (hl : LmR G.P G.w G.K G.mg G.base G K k) (i : Nat) :
    FnR G.P G.w G.K G.mg G.base (L2.CX G.P G.w) (k + 2) (G.F i) (spF G (orc G.p (d + 1)) i) := by
  intro A outer s H us vs Q E hr e0 rv ⟨r, h, ws, rel, qw, P⟩
  replace P : PostG G (RVal G) E r h H Q (match G.p.defs[i]? with
      | some df => if ws.length = df.np ∧ ws.all clean then fin (evSs G.p (orc G.p d) 1000 df.body (startE df.ns ws) h) else .no
      | none => .no) := P
  cases gd : G.p.defs[i]? with
  | none => rw [gd] at P; exact P.elim
  | some df =>
    rw [gd] at P
    simp only at P
    split at P
    · rename_i hc
      rcases hP i df gd with z | ⟨C, DA⟩
      · rw [z, stub_no] at P; exact P.elim
      · obtain ⟨oc, od, name, qual, params, body, kV, doc, pm, cdv, ct, an, osl, ps, n, lk, hcd, hps, S, hnp, hb, hm⟩ := DA.at_
        obtain ⟨as, rfl, rfl⟩ := argNames_is hps
        have hlw := pair_len qw
        rw [← hK] at P
        have hpl : (as.map (·.arg)).length ≤ C.N.length := by
          have := congrArg List.length S.pre
          rw [List.length_take] at this
          omega
        have FO := fn_of (CX := L2.CX G.P G.w) (P := G.P) (w := G.w) (mg := G.mg) (base := G.base) (k := k + 1) (sp := fun vs H Q E => vs.length = (as.map (·.arg)).length ∧ ∃ r h ws, Rel G r h H ∧ VWs G r vs ws ∧ PostG G (RVal G) E r h H Q (fin (evSs G.p K 1000 df.body (startE df.ns ws) h))) lk hcd S (fun vs H Q E z => z.1)
          fun A outer s H vs Q E hr z => by
            obtain ⟨zl, r, h, ws, rel, qw, P⟩ := z
            have F := frS_of (E := E) (outer := outer) (H := H) S DA.gl hm hr h1 hf hl
            refine ⟨_, (c_ss hG F n).2 hb 1000, r, h, startE df.ns ws, rel, ?_, fin_post P⟩
            rw [DA.ns]
            exact start_env qw (by rw [← pair_len qw, zl]; exact hpl)
        have hvl : vs.length = (as.map (·.arg)).length := by rw [hlw, hc.1, hnp]
        refine FO.run A outer s H ⟨us, []⟩ us vs Q E hr e0 ?_ rv ⟨hvl, r, h, ws, rel, qw, P⟩
        have nd : (as.map (·.arg)).Nodup := by rw [← S.pre]; exact S.nd.sublist (List.take_sublist _ _)
        have hbn := bind_plain (fd := PySem.W.fnOf name qual ⟨[], as, none, [], [], none, []⟩ body C.sc .none kV doc pm an cdv ct) (us := us) rfl rfl nd (by rw [← rv.length, hvl, List.length_map])
        intro _ _ _ _ q
        rw [hbn]
        exact wpAny_pure q
    · exact P.elim
end RP

set_option Elab.async false
set_option linter.all false
set_option maxRecDepth 100000
set_option maxHeartbeats 400000
/-! RP48: a local function runs as the machine says; the whole program, at every depth. -/
namespace RP
open PySem PySem.Spec PyProof.Rows L2 LamX NdefX

abbrev NG.nf (F : NG) : NF := ⟨F.name, F.qual, F.params, [], F.scope, F.cl, F.c⟩
def DN (X : Cx) : DK := fun _ v w => match w with
  | .zipv _ => ∃ N : Nat, v = .ref (N + 4) ∧ X.s_0.heap.objs.size ≤ N
  | _ => False
theorem dn_ok {X : Cx} : DOk (DN X) := fun H H' v w d k => by
  cases w <;> exact d
abbrev ncxG (G : Gd) (ps : List Str) (F : NG) (a : Addr) (A : Around) (outer : List PySem.Env) (s : Shared) (H : Hp) (E : XK) : Cx := ncx (L2.CX G.P G.w) G.P G.w G.K G.mg G.base (ngN ps F) F.nf a A outer s H E
theorem frS_lm {G : Gd} {E : XK} {K : Orc} {k : Nat} {ps : List Str} {F : NG} {a : Addr} {A : Around} {outer : List PySem.Env} {s : Shared} {H : Hp} (S : NScope (ngN ps F) ps (freesOf F.scope) F.scope)
    (hr : Room (k + 1) (A.deeper (envF F.nf a s.heap.objs.size))) (h1 : 1 ≤ k) (hf : ∀ f, FnR G.P G.w G.K G.mg G.base (L2.CX G.P G.w) k (G.F f) (spF G K f)) (hl : LmR G.P G.w G.K G.mg G.base G K k) :
    FrS (ncxG G ps F a A outer s H E) G (ngC G.gl ps F) (DN (ncxG G ps F a A outer s H E)) E K where
  fe := {
    hX := ⟨rfl, rfl, rfl, rfl, rfl, rfl, rfl, S.nd, rfl, rfl, by have := hr.un; show (A.deeper _).units + 66 < cLine; omega, fun y _ hy => .inr (by
      have hy : isLoc (F.scope.names.lookup y) = true := hy
      rcases loc_of hy with e | e
      · exact e
      · exact absurd rfl (S.nocell _ (PySem.mem_of_lookup e)))⟩
    hF := ⟨dn_ok, fun _ _ _ z => z, fun _ _ _ z => z.elim, fun z => nomatch z⟩
    hk := ⟨k, hr, hf, hl⟩
    tk := takes_of rfl rfl rfl rfl }
  ok := ⟨rfl, rfl, passes_of rfl, hr.mono (by omega)⟩
  zi := fun H' n N h => ⟨N, rfl, h⟩
  kind := S.kind
theorem ret_post {p : Pg} {K : Orc} {m : Nat} {x : RP.E} {env : Env} {h : Hv} : fin (evSs p K (m + 2) [.ret x] env h) = evE p K m x env h := by
  have e : evSs p K (m + 2) [.ret x] env h = ((evE p K m x env h).bind fun w h => Res.ok (Out.rt w) h).bind fun o h => match o with
    | .nx env => evSs p K (m + 1) [] env h
    | o => .ok o h := rfl
  rw [e]
  cases evE p K m x env h <;> rfl
theorem lm_step {G : Gd} (hG : GS G) {K : Orc} {k d : Nat} (h1 : 1 ≤ k) (hK : K = orc G.p d) (hf : ∀ f, FnR G.P G.w G.K G.mg G.base (L2.CX G.P G.w) k (G.F f) (spF G K f)) (hl : LmR G.P G.w G.K G.mg G.base G K k) :
    LmR G.P G.w G.K G.mg G.base G (orc G.p (d + 1)) (k + 2) := by
  intro A outer s H us vs vcs ws cs a F l ps js bd r h Q E hr e0 rv rel qw fz co mt C qc P
  have S := nscope_by mt.sc
  rw [mt.lm] at P
  replace P : PostG G (RVal G) E r h H Q (if ws.length = ps.length ∧ ws.all clean ∧ cs.length = js.length then fin (evSs G.p (orc G.p d) 1000 bd (startE (ngN ps F).length (ws ++ cs)) h) else .no) := P
  split at P
  · rename_i hc
    rw [← hK] at P
    have hvl : vs.length = ps.length := by rw [pair_len qw]; exact hc.1
    have hpl : ps.length + (freesOf F.scope).length ≤ (ngN ps F).length := by
      have q := congrArg List.length S.pre
      rw [List.length_take, List.length_append] at q
      omega
    have hev : ∀ {D : DK}, EnvR G D r H (startF (ngN ps F) vs (vcs.map some)) (startE (ngN ps F).length (ws ++ cs)) := startF_env qw qc (by rw [hc.1, hc.2.2, mt.ncs]; exact hpl)
    obtain ⟨u, dd, sl, doc, pm, ctv, hz⟩ := fz
    have ho := (e0.hok a _ hz).1
    have lim : s.heap.NoLimit := e0.mod.nolimit.keeps fun b o e => (e0.bs b o e).1
    have hcr := codeO_at e0.hok co
    obtain ⟨as, hpa, eps⟩ := argNames_is mt.pars
    have hul : us.length = as.length := by rw [← rv.length, hvl, eps, List.length_map]
    have ndP : ps.Nodup := by
      have q := S.nd.sublist (List.take_sublist (ps.length + (freesOf F.scope).length) (ngN ps F))
      rw [S.pre] at q
      exact (List.nodup_append.mp q).1
    have hbn : bindArgs (F.fd doc pm ctv) ⟨us, []⟩ = pure (ps.zip us) := by
      rw [eps]
      exact bind_plain hpa rfl (by rw [← eps]; exact ndP) hul
    have hrd := hr.deeper (envF F.nf a s.heap.objs.size)
    have FS := frS_lm (a := a) (A := A) (outer := outer) (s := s) (H := H) (E := E) S hrd h1 hf hl
    cases hb : F.body with
    | stmts ss =>
      have mb := mt.body
      rw [hb] at mb
      obtain ⟨n, hcs⟩ := mb
      refine codeAny_call_function hr.depth ho rfl S.co S.gen hb hcr ?_
      rw [hbn]
      refine wpAny_pure (wpAny_newFunctionEnv S.nocell (fun ⟨n, _⟩ hy => S.par n (List.of_mem_zip hy).1) (fun h₁ hns hsb => ⟨lim.fresh _ hsb, ?_⟩) S.kind)
      show codeAny _ _ (.func ss (envF F.nf a s.heap.objs.size)) _ _
      refine codeAny_func ?_
      have kp : ∀ b o, s.heap.get? b = some o → h₁.get? b = some o := fun b o e => hsb.extBut b o (Nat.ne_of_lt (Heap.lt_size e)) (Heap.get?_push_of_some _ e)
      have I : L2.Inv (ncxG G ps F a A outer s H E) [] (startF (ngN ps F) vs (vcs.map some)) H { s with heap := h₁, toks := s.toks + (ps.zip us).length } := inv_startN S hr.hd e0 hvl rv C hns kp
      refine wpAny_mono (((c_ss hG FS n).2 hcs 1000).run [] _ _ H _ I ⟨r, h, _, rel, hev, fin_post P⟩) (fun fl s' hs => ?_) fun e s' hs => hs
      cases fl with
      | ret u =>
        obtain ⟨v, σ', H', J, rv, q⟩ := hs
        exact ⟨v, H', J.os, J.bare, J.base, J.hok, rv, q⟩
      | next =>
        obtain ⟨σ', H', J, q⟩ := hs
        exact ⟨.non, H', J.os, J.bare, J.base, J.hok, rfl, q⟩
      | brk =>
        obtain ⟨_, _, _, q⟩ := hs
        exact q.elim
      | cont =>
        obtain ⟨_, _, _, q⟩ := hs
        exact q.elim
    | expr e =>
      have mb := mt.body
      rw [hb] at mb
      obtain ⟨n, x, hcs, rfl⟩ := mb
      rw [ret_post] at P
      refine PySem.W.kla_callFunE hr.depth ho rfl S.co S.gen hb hcr ?_
      rw [hbn]
      refine wpAny_pure (wpAny_newFunctionEnv S.nocell (fun ⟨n, _⟩ hy => S.par n (List.of_mem_zip hy).1) (fun h₁ hns hsb => ⟨lim.fresh _ hsb, ?_⟩) S.kind)
      show codeAny _ _ (.expr e (envF F.nf a s.heap.objs.size)) _ _
      have kp : ∀ b o, s.heap.get? b = some o → h₁.get? b = some o := fun b o e => hsb.extBut b o (Nat.ne_of_lt (Heap.lt_size e)) (Heap.get?_push_of_some _ e)
      have I : L2.Inv (ncxG G ps F a A outer s H E) [] (startF (ngN ps F) vs (vcs.map some)) H { s with heap := h₁, toks := s.toks + (ps.zip us).length } := inv_startN S hr.hd e0 hvl rv C hns kp
      refine PySem.W.kla_codeExpr (wpAny_mono (((((cok (K := K) hG.ok hG.eq n).e FS.fe hcs).oe) 998).run [] _ _ H _ I ⟨r, h, _, rel, hev, P⟩) (fun v s' hs => ?_) fun e s' hs => hs)
      obtain ⟨v, H', J, rv, q⟩ := hs
      exact ⟨v, H', J.os, J.bare, J.base, J.hok, rv, q⟩
  · exact P.elim
/-- THE PROGRAM: what the machine computes the text computes -/
theorem orc_ok {G : Gd} (hG : GS G) (hP : PgOk G) : ∀ d, (∀ f, FnR G.P G.w G.K G.mg G.base (L2.CX G.P G.w) (2 * d + 1) (G.F f) (spF G (orc G.p d) f)) ∧ LmR G.P G.w G.K G.mg G.base G (orc G.p d) (2 * d + 1)
  | 0 => ⟨fun f A outer s H us vs Q E hr e0 rv ⟨r, h, ws, rel, qw, P⟩ => (show False from P).elim, fun A outer s H us vs vcs ws cs a F l ps js bd r h Q E hr e0 rv rel qw fz co mt C qc P => (show False from P).elim⟩
  | d + 1 => by
    obtain ⟨h1, h2⟩ := orc_ok hG hP d
    exact ⟨fun f => fn_step hG hP (by omega) rfl h1 h2 f, lm_step hG (by omega) rfl h1 h2⟩
end RP

set_option Elab.async false
set_option linter.all false
set_option maxRecDepth 100000
set_option maxHeartbeats 400000
/-! RP49: what is given of a text, told by tests over the head's part of the heap. -/
namespace RP
open PySem PySem.Spec PyProof.Rows L2 LamX NdefX He

variable (R : Rw) in
def Rw.G (P : Program) (w : World) (K : PySem.W.Frag) (mg : Str → Option Value) (base : Heap) : Gd := ⟨P, w, K, mg, base, R.p, R.F K, R.C K, R.gl, R.con K, R.Ts K⟩
theorem keepShape_is {b : List Stmt} {x : Str × Str × Str} (h : keepShape b = some x) : ∃ p1 p2 p3 pos, b = [.Assign [.Attribute (.Name x.1 p1) x.2.2 p2] (.Name x.2.1 p3) pos] := by
  unfold keepShape at h
  split at h
  · cases h; exact ⟨_, _, _, _, rfl⟩
  · cases h
theorem zipIdx_all {α : Type} {f : α × Nat → Bool} {l : List α} (h : l.zipIdx.all f = true) {i : Nat} {a : α} (e : l[i]? = some a) : f (a, i) = true := by
  refine List.all_eq_true.mp h (a, i) ?_
  rw [List.mem_zipIdx_iff_getElem?]
  exact e
theorem range_all {f : Nat → Bool} {n : Nat} (h : (List.range n).all f = true) {i : Nat} (e : i < n) : f i = true := List.all_eq_true.mp h i (List.mem_range.mpr e)
theorem oexB_ok {K : PySem.W.Frag} {C : Addr} (h : oexB K C = true) : OexC K C := by
  unfold oexB at h
  obtain ⟨h1, h2⟩ := ba h
  obtain ⟨h3, h4⟩ := ba h2
  obtain ⟨h5, h6⟩ := ba h4
  obtain ⟨h7, h8⟩ := ba h6
  refine ⟨?_, eqO_ok h3, of_decide_eq_true h5, of_decide_eq_true h7, h8⟩
  split at h1
  · rename_i t dd cd sl ho
    split at h1
    · rename_i C' bm k0 k1 k2 k3 n k5 hm hs
      obtain ⟨y1, h1⟩ := ba h1
      obtain ⟨y2, h1⟩ := ba h1
      obtain ⟨y3, h1⟩ := ba h1
      obtain ⟨y4, h1⟩ := ba h1
      obtain ⟨y5, y6⟩ := ba h1
      obtain ⟨nm, bs, mro, ns, qn, hd, sn, sub, ab, col, del⟩ := cd
      dsimp only at hm y4 y5
      have e1 := beq_iff_eq.mp y1
      have e2 := beq_iff_eq.mp y2
      have e3 := beq_iff_eq.mp y3
      have e4 : del = false := by simpa using y4
      subst hm e1 e2 e3 e4 y5
      have hsl : sl = #[k0, k1, k2, k3, some (.builtin "ValueError.__new__"), k5] := by
        obtain ⟨l⟩ := sl
        simp only at hs
        rw [hs]
      subst hsl
      exact ⟨nm, qn, ns, bs, bm, sn, sub, ab, col, dd, k0, k1, k2, k3, k5, ho, y6⟩
    · cases h1
  · cases h1
end RP

set_option Elab.async false
set_option linter.all false
set_option maxRecDepth 100000
set_option maxHeartbeats 400000
/-! RP50: the tests told: GS and PgOk of a row. -/
namespace RP
open PySem PySem.Spec PyProof.Rows L2 LamX NdefX He

section
variable {R : Rw} {P : Program} {w : World} {K : PySem.W.Frag} {mg : Str → Option Value} {base h : Heap}
theorem clss_at {c : Nat} {cl : Cl} (e : R.clss[c]? = some cl) : c < R.clss.length := (List.getElem?_eq_some_iff.mp e).1
theorem insCl_at {p : Pg} {c : Nat} (h : insCl p c = true) : ∃ cl, p.clss[c]? = some cl ∧ cl.exc = false := by
  unfold insCl at h
  cases g : p.clss[c]? with
  | none => rw [g] at h; cases h
  | some cl => rw [g] at h; exact ⟨cl, rfl, by simpa using h⟩
theorem methOf_at {p : Pg} {c : Nat} {cl : Cl} {m : Str} {f : Nat} (e : p.clss[c]? = some cl) (h : methOf p c m = some f) : (m, f) ∈ cl.meths := by
  unfold methOf at h
  rw [e] at h
  obtain ⟨q, hq, rfl⟩ := Option.map_eq_some_iff.mp h
  have h1 := List.mem_of_find?_eq_some hq
  have h2 : q.1 = m := by simpa using List.find?_some hq
  rw [← h2]
  exact h1
theorem methI_at {p : Pg} {c : Nat} {m : Str} {f : Nat} (h : methI p c m = some f) : ∃ cl, p.clss[c]? = some cl ∧ insCl p c = true ∧ cl.exc = false ∧ (m, f) ∈ cl.meths := by
  unfold methI at h
  split at h
  · rename_i hi
    obtain ⟨cl, e, x⟩ := insCl_at hi
    exact ⟨cl, e, hi, x, methOf_at e h⟩
  · cases h
theorem F_at {i : Nat} {d : Dd} (e : R.dds[i]? = some d) : R.F K i = fAd K (R.at_ d) := by
  unfold Rw.F
  rw [e]
/-- a def of the text, as it stands -/
theorem def_at {fa : List Fa} (c : SaysD fa R.fn K) {i : Nat} {d : Dd} (e : R.dds[i]? = some d) : ∃ (oc : Value) (od : Option Addr) (kV doc pm : Value) (an : Option Addr) (cdv ct : Value) (osl : Array (Option Value)),
    K.lookup (R.F K i) = some ⟨oc, od, .func (PySem.W.fnOf d.name (R.qual d) d.args d.body d.scope .none kV doc pm an cdv ct), osl⟩ ∧ PySem.W.codeIn K cdv (R.qual d) = true := by
  obtain ⟨fd, Fd⟩ := c.defs (d := R.dD d) (List.mem_map.mpr ⟨d, List.mem_of_getElem? e, rfl⟩)
  obtain ⟨oc, od, dV, kV, doc, pm, an, cdv, ct, osl, e1, lk, hcd, dv, _⟩ := Fd.ex
  have edv : dV = .none := by
    rcases dv with ⟨_, z⟩ | ⟨z, _⟩
    · exact z
    · exact absurd rfl z
  subst edv
  rw [e1] at lk
  rw [F_at e]
  exact ⟨oc, od, kV, doc, pm, an, cdv, ct, osl, lk, hcd⟩
theorem gs_of {fa : List Fa} (cc : SaysD fa R.fn K) (X : K.In h) (N : h.Ns mainGlobals mg) (hf : factsB R K = true) : GS (R.G P w K mg base) := by
  unfold factsB at hf
  obtain ⟨f1, hf⟩ := ba hf
  obtain ⟨f2, hf⟩ := ba hf
  obtain ⟨f3, hf⟩ := ba hf
  obtain ⟨f4, hf⟩ := ba hf
  obtain ⟨f5, hf⟩ := ba hf
  obtain ⟨f6, hf⟩ := ba hf
  obtain ⟨f7, hf⟩ := ba hf
  obtain ⟨f8, f9⟩ := ba hf
  have gl : ∀ x g, R.gl.lookup x = some g → glB R K (x, g) = true := fun x g e => List.all_eq_true.mp f1 _ (PySem.mem_of_lookup e)
  have ins : ∀ c cl, R.clss[c]? = some cl → cl.exc = false → (PySem.W.plainGet K (R.C K c) Str.empty && (PySem.W.hasDictIn K (R.C K c) && (PySem.W.plainOver K (R.C K c) && eqO (PySem.W.findIn K (.ref (R.C K c)) "__setattr__") (some (some (.builtin "object.__setattr__")))))) = true ∧
      (cl.flds.all fun f => eqO (PySem.W.findIn K (.ref (R.C K c)) f) (some none)) = true ∧
      (cl.meths.all fun q => eqO (PySem.W.findIn K (.ref (R.C K c)) q.1) (some (some (.ref (R.F K q.2)))) && (PySem.W.isFn K (.ref (R.F K q.2)) && (PySem.W.keepIn K (.ref (R.F K q.2)) && (!(q.1 == initS) || (PySem.W.makesIn K (R.C K c) && PySem.W.keepIn K (.ref (R.C K c))))))) = true ∧
      eqO (PySem.W.findIn K (.ref (R.C K c)) "__class__") (some (some (.builtin "object.__class__"))) = true ∧ PySem.W.mroIn K (R.C K c) (.type "object") = some true ∧
      (["int", "str", "bool", "list", "tuple", "dict"].all fun b => decide (PySem.W.kitOne K (.ref (R.C K c)) (.type b) = some false)) = true ∧ ((List.range R.clss.length).all fun d => decide (PySem.W.kitOne K (.ref (R.C K c)) (.ref (R.C K d)) = some (c == d))) = true ∧
      (["int", "NoneType"].all fun T => decide (PySem.W.subIn K (.ref (R.C K c)) (.type T) = some false)) = true := fun c cl e x => by
    have z := zipIdx_all f3 e
    unfold insB at z
    rw [x, Bool.false_or] at z
    obtain ⟨z1, z⟩ := ba z
    obtain ⟨z2, z⟩ := ba z
    obtain ⟨z3, z⟩ := ba z
    obtain ⟨z4, z⟩ := ba z
    obtain ⟨z5, z⟩ := ba z
    obtain ⟨z6, z⟩ := ba z
    obtain ⟨z7, z8⟩ := ba z
    exact ⟨z1, z2, z3, z4, of_decide_eq_true z5, z6, z7, z8⟩
  have mt : ∀ c cl m f, R.clss[c]? = some cl → cl.exc = false → (m, f) ∈ cl.meths → Meth K (R.C K c) m (R.F K f) ∧ (m = initS → PySem.W.makesIn K (R.C K c) = true ∧ PySem.W.keepIn K (.ref (R.C K c)) = true) := fun c cl m f e x hm => by
    obtain ⟨_, _, z, _⟩ := ins c cl e x
    have z := List.all_eq_true.mp z _ hm
    obtain ⟨z1, z⟩ := ba z
    obtain ⟨z2, z⟩ := ba z
    obtain ⟨z3, z4⟩ := ba z
    refine ⟨⟨eqO_ok z1, z2, z3⟩, fun em => ?_⟩
    subst em
    simpa using z4
  refine ⟨?ok, ?eq, ?xc, ?ex⟩
  case ok =>
    exact {
      fn := fun x i e => PySem.W.mg_of X N (eqO_ok (ba (gl x _ e)).1)
      fnk := fun x i e => (ba (gl x _ e)).2
      cls := fun x c e => PySem.W.mg_of X N (eqO_ok (ba (gl x _ e)).1)
      con := fun x n e => by
        have z : (match (R.con K)[n]? with
          | some a => eqO (PySem.W.nsIn K mainGlobals x) (some (some (.ref a)))
          | none => false) = true := gl x _ e
        cases g : (R.con K)[n]? with
        | none => rw [g] at z; cases z
        | some a => rw [g] at z; exact ⟨a, g, PySem.W.mg_of X N (eqO_ok z)⟩
      str := fun x s e => by
        have z : (match PySem.W.nsIn K mainGlobals x with
          | some (some u) => relB (.str s) u
          | _ => false) = true := gl x _ e
        cases g : PySem.W.nsIn K mainGlobals x with
        | none => rw [g] at z; cases z
        | some o =>
          rw [g] at z
          cases o with
          | none => cases z
          | some u => exact ⟨u, PySem.W.mg_of X N g, relB_ok z⟩
      blt := fun x hx e => by
        have z := List.all_eq_true.mp f2 x hx
        have e : R.gl.lookup x = none := e
        unfold bltB at z
        rw [e] at z
        exact PySem.W.mg_none_of X N (eqO_ok (by simpa using z))
      cl := fun c hi => by
        obtain ⟨cl, e, x⟩ := insCl_at hi
        obtain ⟨z, _⟩ := ins c cl e x
        obtain ⟨z1, z⟩ := ba z
        obtain ⟨z2, z⟩ := ba z
        obtain ⟨z3, z4⟩ := ba z
        exact ⟨z1, z2, z3, eqO_ok z4⟩
      fld := fun c f hf => by
        unfold fldOf at hf
        obtain ⟨hi, hf⟩ := ba hf
        obtain ⟨cl, e, x⟩ := insCl_at hi
        rw [e] at hf
        obtain ⟨g, hg, eg⟩ := List.any_eq_true.mp hf
        have eg := beq_iff_eq.mp eg
        subst eg
        exact eqO_ok (List.all_eq_true.mp (ins c cl e x).2.1 g hg)
      meth := fun c m f hm => by
        obtain ⟨cl, e, hi, x, hq⟩ := methI_at hm
        exact (mt c cl m f e x hq).1
      clsL := fun x c e => of_decide_eq_true (ba (gl x _ e)).2
      ins1 := fun c hi => by
        obtain ⟨cl, e, x⟩ := insCl_at hi
        exact eqO_ok (ins c cl e x).2.2.2.1
      ins2 := eqO_ok f7
      ins3 := of_decide_eq_true f8
      ins4 := fun c hi => by
        obtain ⟨cl, e, x⟩ := insCl_at hi
        exact (ins c cl e x).2.2.2.2.1
      isiT := fun a ha c hc => of_decide_eq_true (List.all_eq_true.mp (range_all f4 hc) a ha)
      isiI := fun d hi b hb => by
        obtain ⟨cl, e, x⟩ := insCl_at hi
        exact of_decide_eq_true (List.all_eq_true.mp (ins d cl e x).2.2.2.2.2.1 b hb)
      isiC := fun d c hi hc => by
        obtain ⟨cl, e, x⟩ := insCl_at hi
        exact of_decide_eq_true (range_all (ins d cl e x).2.2.2.2.2.2.1 hc)
      make := fun c f hm => by
        obtain ⟨cl, e, hi, x, hq⟩ := methI_at hm
        obtain ⟨m1, m2⟩ := mt c cl _ f e x hq
        obtain ⟨m3, m4⟩ := m2 rfl
        exact ⟨m3, m1.at_, m1.fn, m4⟩ }
  case eq =>
    intro c f hm T hT
    obtain ⟨cl, e, hi, x, hq⟩ := methI_at hm
    exact of_decide_eq_true (List.all_eq_true.mp (ins c cl e x).2.2.2.2.2.2.2 T hT)
  case xc =>
    intro c hc
    have hc' : (excI R.p0 c).isSome = true := hc
    have hlt : c < R.clss.length := by
      cases g : R.clss[c]? with
      | none =>
        have : excI R.p0 c = none := by
          unfold excI
          rw [show R.p0.clss[c]? = none from g]
        rw [this] at hc'
        cases hc'
      | some cl => exact clss_at g
    have z := range_all f5 hlt
    unfold xcB at z
    cases g : excI R.p0 c with
    | none => rw [g] at hc'; cases hc'
    | some i =>
      rw [g] at z
      simp only at z
      cases gd : R.dds[i]? with
      | none => rw [gd] at z; cases z
      | some d =>
        rw [gd] at z
        simp only at z
        split at z
        · rename_i x ps hx hps
          obtain ⟨z1, z⟩ := ba z
          obtain ⟨z2, z⟩ := ba z
          obtain ⟨z3, z⟩ := ba z
          obtain ⟨z4, z⟩ := ba z
          obtain ⟨z5, z⟩ := ba z
          obtain ⟨z6, z7⟩ := ba z
          obtain ⟨p1, p2, p3, pos, eb⟩ := keepShape_is hx
          obtain ⟨as, ea, eps⟩ := argNames_is hps
          obtain ⟨oc, od, kV, doc, pm, an, cdv, ct, osl, lk, hcd⟩ := def_at cc gd
          rw [ea, eb] at lk
          refine ⟨oexB_ok z7, R.F K i, d.name, R.qual d, x.1, x.2.1, x.2.2, as, d.scope, kV, doc, pm, cdv, ct, oc, an, od, osl, p1, p2, p3, pos, eqO_ok z3, of_decide_eq_true z4, lk, hcd, ?_, z2, eqO_ok z5, z6⟩
          rw [← eps]
          exact of_decide_eq_true z1
        · cases z
  case ex =>
    intro d c b hq
    have hq' : exQ R.p0 d c = some b := hq
    have lt1 : d < R.clss.length ∧ c < R.clss.length := by
      unfold exQ at hq'
      split at hq'
      · rename_i u cl h1 h2
        refine ⟨?_, clss_at (R := R) h2⟩
        cases g : R.clss[d]? with
        | none =>
          have : excI R.p0 d = none := by
            unfold excI
            rw [show R.p0.clss[d]? = none from g]
          rw [this] at h1
          cases h1
        | some cl => exact clss_at g
      · cases hq'
    have z := range_all (range_all f6 lt1.1) lt1.2
    unfold exmB at z
    rw [hq'] at z
    exact of_decide_eq_true z
/-! ### the inner program -/
theorem ts_nodup (hf : factsB R K = true) : (R.tf.map fun p => (He.cT K p).2).Nodup := by
  unfold factsB at hf
  obtain ⟨_, hf⟩ := ba hf
  obtain ⟨_, hf⟩ := ba hf
  obtain ⟨_, hf⟩ := ba hf
  obtain ⟨_, hf⟩ := ba hf
  obtain ⟨_, hf⟩ := ba hf
  obtain ⟨_, hf⟩ := ba hf
  obtain ⟨_, hf⟩ := ba hf
  obtain ⟨_, f9⟩ := ba hf
  exact of_decide_eq_true f9
theorem nodup_one {α β : Type} {f : α → β} : ∀ {l : List α}, (l.map f).Nodup → ∀ {a b : α}, a ∈ l → b ∈ l → f a = f b → a = b
  | [], _, _, _, h, _, _ => by cases h
  | x :: l, nd, a, b, ha, hb, e => by
    rw [List.map_cons, List.nodup_cons] at nd
    have out : ∀ c ∈ l, f c ≠ f x := fun c hc z => nd.1 (List.mem_map.mpr ⟨c, hc, z⟩)
    rcases List.mem_cons.mp ha with h1 | h1
    · rcases List.mem_cons.mp hb with h2 | h2
      · rw [h1, h2]
      · exact absurd (by rw [← e, h1]) (out b h2)
    · rcases List.mem_cons.mp hb with h2 | h2
      · exact absurd (by rw [e, h2]) (out a h1)
      · exact nodup_one nd.2 h1 h2 e
/-- a def as it is compiled -/
theorem defAt_of {fa : List Fa} (cc : SaysD fa R.fn K) (hf : factsB R K = true) (hs : scopesB R = true) (hT : ∀ p ∈ R.tf.map (He.cT K), TabB base mg p.1 p.2) {i : Nat} {d : Dd} {ps : List Str} {b : List S} (e : R.dds[i]? = some d) (hp : argNames d.args = some ps) (hc : cSs 200 (R.cc d ps) d.body = some b) :
    DefAt (R.G P w K mg base) (R.F K i) (Df.mk d.name ps.length (slotsOf ps d.scope (cnSs 100 d.body)).length b) (R.cc d ps) := by
  obtain ⟨oc, od, kV, doc, pm, an, cdv, ct, osl, lk, hcd⟩ := def_at cc e
  have hsc := List.all_eq_true.mp hs d (List.mem_of_getElem? e)
  rw [hp] at hsc
  refine ⟨rfl, rfl, oc, od, d.name, R.qual d, d.args, d.body, kV, doc, pm, cdv, ct, an, osl, ps, 200, lk, hcd, hp, C8.fnScope_by hsc, rfl, hc, fun hl => ?_⟩
  have hl : R.mks.contains d.name = true := hl
  have hm : d ∈ R.mkd := List.mem_filter.mpr ⟨List.mem_of_getElem? e, hl⟩
  obtain ⟨c, ec⟩ := codeIn_ref hcd
  rw [F_at e] at lk
  have e1 : (He.cT K (R.at_ d)).1 = c := codeOf_eq lk ec
  refine ⟨c, (He.cT K (R.at_ d)).2, R.nmq d, ?_, ec, List.mem_map.mpr ⟨d, hm, rfl⟩, fun p hp ep => ?_, fun i j => rfl⟩
  · rw [← e1]
    exact hT _ (List.mem_map.mpr ⟨R.at_ d, List.mem_map.mpr ⟨d, hm, rfl⟩, rfl⟩)
  · obtain ⟨d', hd', rfl⟩ := List.mem_map.mp hp
    have nd := ts_nodup hf
    unfold Rw.tf at nd
    rw [List.map_map] at nd
    rw [nodup_one nd hd' hm ep]
theorem pgOk_of {fa : List Fa} (cc : SaysD fa R.fn K) (hf : factsB R K = true) (hs : scopesB R = true) (hT : ∀ p ∈ R.tf.map (He.cT K), TabB base mg p.1 p.2) : PgOk (R.G P w K mg base) := by
  intro i df hd
  have hd : (R.dds.map R.df)[i]? = some df := hd
  rw [List.getElem?_map] at hd
  obtain ⟨d, e, rfl⟩ := Option.map_eq_some_iff.mp hd
  unfold Rw.df
  cases hp : argNames d.args with
  | none => exact .inl rfl
  | some ps =>
    cases hc : cSs 200 (R.cc d ps) d.body with
    | none => exact .inl (by simp only [hc])
    | some b => exact .inr ⟨R.cc d ps, by simp only [hc]; exact defAt_of cc hf hs hT e hp hc⟩
end
end RP

set_option Elab.async false
set_option linter.all false
set_option maxRecDepth 100000
set_option maxHeartbeats 400000
/-! RP52: the law's own draw, by the machine. -/
namespace RP
open PySem

abbrev ix (j : Nat) : E := .idx (.nm 0) (.cst (.int j))
def dTest : E := .bo true [.cmp .Eq (ix 1) (.cst (.int 0)), .cmp .NotEq (ix 0) (.lst [])]
def dBody : List S := [.asg (.nm 2) (.bi .abs [.bm .pop (ix 0) [.cst (.int 0)]]),
  .asg (.idx (.nm 0) (.cst (.int 3))) (.bin .Mod (.bi .int [.bin .Add (.bin .Add (.bin .Mult (ix 3) (.cst (.int 6151))) (.nm 2)) (.cst (.int 7))]) (.cst (.int 2147483629))),
  .asg (.idx (.nm 0) (.cst (.int 1))) (.ite (.cmp .GtE (.nm 2) (.bin .Pow (.cst (.int 10)) (.cst (.int 18)))) (.nm 2) (.cst (.int 0)))]
def dAll : List S := [.asg (.idx (.nm 0) (.cst (.int 2))) (.bin .Add (ix 2) (.cst (.int 1))), .wh dTest dBody,
  .iff (.cmp .Gt (ix 1) (.cst (.int 0))) [.asg (.nm 3) (.bin .Mod (.bi .int [ix 1]) (.nm 1)), .asg (.idx (.nm 0) (.cst (.int 1))) (.bin .FloorDiv (ix 1) (.nm 1)), .ret (.nm 3)] [],
  .asg (.nm 4) (.bin .Mod (.bi .int [.bin .Pow (.bin .Add (.bin .Add (ix 3) (.bin .Mult (.cst (.int 8191)) (ix 2))) (.cst (.int 50021))) (.cst (.int 5))]) (.cst (.int 2147483587))),
  .ret (.bin .Mod (.bin .Mod (.bi .int [.bin .Pow (.bin .Add (.bin .Add (.bin .Mult (.nm 4) (.cst (.int 40009))) (.bin .Mult (.cst (.int 20011)) (ix 2))) (.cst (.int 31))) (.cst (.int 3))]) (.cst (.int 1000000009))) (.nm 1))]
section
variable {p : Pg} {K : Orc} {m : Nat} {env : Env} {h : Hv}
theorem nm_ev {i : Nat} {w : W} (e : env[i]? = some (some w)) (c : clean w = true) : evE p K (m + 1) (.nm i) env h = .ok w h := by
  show (match env[i]? with
      | some (some w) => if clean w then Res.ok w h else .no
      | _ => .no) = _
  rw [e]
  simp only [c, if_true]
theorem ix_ev {n : Nat} {xs : List W} {w : W} {j : Nat} (e : env[0]? = some (some (.ref n))) (g : h.get n = some (.lst xs)) (hj : xs[j]? = some w) : evE p K (m + 2) (ix j) env h = .ok w h := by
  show ((evE p K (m + 1) (.nm 0) env h).bind fun x h => (evE p K (m + 1) (.cst (.int j)) env h).bind fun y h => match idxW h x y with
      | some w => Res.ok w h
      | none => .no) = _
  rw [nm_ev e rfl]
  show (match idxW h (.ref n) (.int j) with
      | some w => Res.ok w h
      | none => .no) = _
  have hl : j < xs.length := (List.getElem?_eq_some_iff.mp hj).1
  have e2 : idxW h (.ref n) (.int j) = some w := by
    simp only [idxW, refIx, g, seqOf, seqIx, ixP]
    simp [hl]
    exact (List.getElem?_eq_some_iff.mp hj).2
  rw [e2]
theorem bin_ev {o : Operator} {a b : E} {x y : W} {h1 h2 : Hv} (h1e : evE p K m a env h = .ok x h1) (h2e : evE p K m b env h1 = .ok y h2) : evE p K (m + 1) (.bin o a b) env h = binW h2 o x y := by
  show ((evE p K m a env h).bind fun x h => (evE p K m b env h).bind fun y h => binW h o x y) = _
  rw [h1e]
  show ((evE p K m b env h1).bind fun y h => binW h o x y) = _
  rw [h2e]
  rfl
theorem int_ev {i : Int} : evE p K (m + 1) (.cst (.int i)) env h = .ok (.int i) h := rfl
theorem es_one {e : E} {w : W} {h1 : Hv} (he : ∀ a, e ≠ .star a) (h1e : evE p K (m + 1) e env h = .ok w h1) : evEs p K (m + 2) [e] env h = .ok [w] h1 := by
  have x : evEs p K (m + 2) [e] env h = (evE p K (m + 1) e env h).bind fun x h => (evEs p K (m + 1) [] env h).bind fun ws h => .ok (x :: ws) h := by
    cases e <;> first | rfl | exact absurd rfl (he _)
  rw [x, h1e]
  rfl
theorem bi_ev {b : Bi} {e : E} {w : W} {h1 : Hv} (he : ∀ a, e ≠ .star a) (h1e : evE p K (m + 1) e env h = .ok w h1) : evE p K (m + 3) (.bi b [e]) env h = biW1 h1 b w := by
  show (evEs p K (m + 2) [e] env h).bind (fun ws h => biW h b ws) = _
  rw [es_one he h1e]
  rfl
theorem cmp_ev {o : CmpOp} {a b : E} {x y : W} {h1 h2 : Hv} {c : Bool} (h1e : evE p K m a env h = .ok x h1) (h2e : evE p K m b env h1 = .ok y h2) (n1 : insOf h2 x = none) (n2 : insOf h2 y = none) (hc : cmpW h2 o x y = some c) : evE p K (m + 1) (.cmp o a b) env h = .ok (.bl c) h2 := by
  show ((evE p K m a env h).bind fun x h => (evE p K m b env h).bind fun y h => cmpE p K h o x y) = _
  rw [h1e]
  show ((evE p K m b env h1).bind fun y h => cmpE p K h o x y) = _
  rw [h2e]
  show cmpE p K h2 o x y = _
  unfold cmpE
  rw [n1, n2, hc]
theorem cmpT_ev {o : CmpOp} {a b : E} {h1 : Hv} {c : Bool} (e : evE p K m (.cmp o a b) env h = .ok (.bl c) h1) : evT p K (m + 1) (.cmp o a b) env h = .ok c h1 := by
  show ((evE p K m (.cmp o a b) env h).bind fun x h => match truth h x with
      | some b => Res.ok b h
      | none => .no) = _
  rw [e]
  rfl
theorem asgN_ev {i : Nat} {e : E} {w : W} {h1 : Hv} (he : evE p K (m + 1) e env h = .ok w h1) (hi : i < env.length) : evS p K (m + 2) (.asg (.nm i) e) env h = .ok (.nx (setEnv env i (some w))) h1 := by
  show ((evE p K (m + 1) e env h).bind fun w h => (asgT p K (m + 1) (.nm i) w env h).bind fun env h => .ok (Out.nx env) h) = _
  rw [he]
  show ((if i < env.length then Res.ok (setEnv env i (some w)) h1 else .no).bind fun env h => Res.ok (Out.nx env) h) = _
  rw [if_pos hi]
  rfl
theorem asgI_ev {n j : Nat} {e : E} {w : W} {xs : List W} {h1 : Hv} (he : evE p K (m + 2) e env h = .ok w h1) (e0 : env[0]? = some (some (.ref n))) (g : h1.get n = some (.lst xs)) (c : clean w = true) (hj : j < xs.length) :
    evS p K (m + 3) (.asg (.idx (.nm 0) (.cst (.int j))) e) env h = .ok (.nx env) (h1.set n (.lst (xs.set j w))) := by
  show ((evE p K (m + 2) e env h).bind fun w h => (asgT p K (m + 2) (.idx (.nm 0) (.cst (.int j))) w env h).bind fun env h => .ok (Out.nx env) h) = _
  rw [he]
  show (((evE p K (m + 1) (.nm 0) env h1).bind fun x h => (evE p K (m + 1) (.cst (.int j)) env h).bind fun y h => if clean w then (match setIdxW h x y w with
      | some h => Res.ok env h
      | none => .no) else .no).bind fun env h => Res.ok (Out.nx env) h) = _
  rw [nm_ev e0 rfl]
  show ((if clean w then (match setIdxW h1 (.ref n) (.int j) w with
      | some h => Res.ok env h
      | none => .no) else .no).bind fun env h => Res.ok (Out.nx env) h) = _
  have e2 : setIdxW h1 (.ref n) (.int j) w = some (h1.set n (.lst (xs.set j w))) := by
    simp only [setIdxW, lstOf, g, intOf, ixP]
    simp [hj]
  rw [if_pos c, e2]
  rfl
theorem mul_ok {i j : Int} (hj : -(2 ^ 64) < j ∧ j < 2 ^ 64) : binW h .Mult (.int i) (.int j) = .ok (.int (i * j)) h := by
  show (if (-(2 ^ 64) < i ∧ i < 2 ^ 64) ∨ (-(2 ^ 64) < j ∧ j < 2 ^ 64) then Res.ok (W.int (i * j)) h else .no) = _
  exact if_pos (.inr hj)
theorem mul_ok2 {i j : Int} (hi : -(2 ^ 64) < i ∧ i < 2 ^ 64) : binW h .Mult (.int i) (.int j) = .ok (.int (i * j)) h := by
  show (if (-(2 ^ 64) < i ∧ i < 2 ^ 64) ∨ (-(2 ^ 64) < j ∧ j < 2 ^ 64) then Res.ok (W.int (i * j)) h else .no) = _
  exact if_pos (.inl hi)
theorem mod_ok {i j : Int} (hj : j ≠ 0) : binW h .Mod (.int i) (.int j) = .ok (.int (i.fmod j)) h := by
  show (if j ≠ 0 then Res.ok (W.int (i.fmod j)) h else .no) = _
  exact if_pos hj
theorem pow_ok {i j : Int} (hj : 0 ≤ j ∧ j ≤ 1000000 ∧ i.natAbs < 2 ^ 64) : binW h .Pow (.int i) (.int j) = .ok (.int (i ^ j.toNat)) h := by
  show (if 0 ≤ j ∧ j ≤ 1000000 ∧ i.natAbs < 2 ^ 64 then Res.ok (W.int (i ^ j.toNat)) h else .no) = _
  exact if_pos hj
theorem fdiv_ok {i j : Int} (hj : j ≠ 0 ∧ j.natAbs < 1073741824) : binW h .FloorDiv (.int i) (.int j) = .ok (.int (i.fdiv j)) h := by
  show (if j ≠ 0 ∧ j.natAbs < 1073741824 then Res.ok (W.int (i.fdiv j)) h else .no) = _
  exact if_pos hj
theorem ss_nx {s : S} {r : List S} {env1 : Env} {h1 : Hv} (e : evS p K m s env h = .ok (.nx env1) h1) : evSs p K (m + 1) (s :: r) env h = evSs p K m r env1 h1 := by
  show ((evS p K m s env h).bind fun o h => match o with
      | .nx env => evSs p K m r env h
      | o => .ok o h) = _
  rw [e]
  rfl
theorem ss_rt {s : S} {r : List S} {w : W} {h1 : Hv} (e : evS p K m s env h = .ok (.rt w) h1) : evSs p K (m + 1) (s :: r) env h = .ok (.rt w) h1 := by
  show ((evS p K m s env h).bind fun o h => match o with
      | .nx env => evSs p K m r env h
      | o => .ok o h) = _
  rw [e]
  rfl
theorem ret_ev {e : E} {w : W} {h1 : Hv} (he : evE p K m e env h = .ok w h1) : evS p K (m + 1) (.ret e) env h = .ok (.rt w) h1 := by
  show ((evE p K m e env h).bind fun w h => .ok (Out.rt w) h) = _
  rw [he]
  rfl
theorem pop_ev {n q : Nat} {xs r : List W} {w : W} (e0 : env[0]? = some (some (.ref n))) (g : h.get n = some (.lst xs)) (hq : xs[0]? = some (.ref q)) (gq : h.get q = some (.lst (w :: r))) : evE p K (m + 4) (.bm .pop (ix 0) [.cst (.int 0)]) env h = .ok w (h.set q (.lst r)) := by
  show ((evE p K (m + 3) (ix 0) env h).bind fun x h => if bmOk h .pop x then (evEs p K (m + 3) [.cst (.int 0)] env h).bind fun ws h => bmW h .pop x ws else .no) = _
  rw [ix_ev e0 g hq]
  show (if bmOk h .pop (.ref q) then (evEs p K (m + 3) [.cst (.int 0)] env h).bind fun ws h => bmW h .pop (.ref q) ws else .no) = _
  have e1 : bmOk h .pop (.ref q) = true := by
    simp only [bmOk, isLst, gq]
  rw [if_pos e1, es_one (by intro a z; cases z) int_ev]
  show bmW h .pop (.ref q) [.int 0] = _
  simp only [bmW, lstOf, gq, intOf, popAt, ixP]
  simp
/-- the stream: what is left of the script, the number held, the count, the state -/
structure Stm (env : Env) (h : Hv) (l : List Int) (u v c : Int) : Prop where
  len : env.length = 5
  e0 : env[0]? = some (some (.ref 4))
  e1 : env[1]? = some (some (.int 2))
  g3 : h.get 3 = some (.lst (l.map .int))
  g4 : h.get 4 = some (.lst [.ref 3, .int u, .int v, .int c])
theorem setEnv_get {env : Env} {w : Option W} : ∀ {i j : Nat}, j ≠ i → (setEnv env i w)[j]? = env[j]? := by
  induction env with
  | nil => intro i j _; rfl
  | cons x env ih =>
    intro i j hj
    cases i with
    | zero => cases j with
      | zero => exact absurd rfl hj
      | succ j => rfl
    | succ i => cases j with
      | zero => rfl
      | succ j => exact ih fun z => hj (by rw [z])
theorem setEnv_at {env : Env} {w : Option W} : ∀ {i : Nat}, i < env.length → (setEnv env i w)[i]? = some w := by
  induction env with
  | nil => intro i h; exact absurd h (Nat.not_lt_zero _)
  | cons x env ih =>
    intro i h
    cases i with
    | zero => rfl
    | succ i => exact ih (Nat.lt_of_succ_lt_succ h)
theorem setEnv_ln {env : Env} {w : Option W} : ∀ {i : Nat}, (setEnv env i w).length = env.length := by
  induction env with
  | nil => intro i; cases i <;> rfl
  | cons x env ih => intro i; cases i with
    | zero => rfl
    | succ i => exact congrArg (· + 1) ih
theorem body_ev {x u v c : Int} {l : List Int} (s : Stm env h (x :: l) u v c) : ∃ env' h' u' c', evSs p K (m + 14) dBody env h = .ok (.nx env') h' ∧ Stm env' h' l u' v c' ∧ 0 ≤ c' ∧ c' < 2147483629 := by
  have l3 := Hv.get_lt s.g3
  have l4 := Hv.get_lt s.g4
  have hlen := s.len
  -- cell
  let cell : Int := if x < 0 then -x else x
  let env1 := setEnv env 2 (some (.int cell))
  let h1 := h.set 3 (.lst (l.map .int))
  have a1 : evS p K (m + 13) (.asg (.nm 2) (.bi .abs [.bm .pop (ix 0) [.cst (.int 0)]])) env h = .ok (.nx env1) h1 :=
    asgN_ev ((bi_ev (by intro a z; cases z) (pop_ev s.e0 s.g4 rfl s.g3)).trans rfl) (by omega)
  have f0 : env1[0]? = some (some (.ref 4)) := (setEnv_get (by decide)).trans s.e0
  have f1 : env1[1]? = some (some (.int 2)) := (setEnv_get (by decide)).trans s.e1
  have f2 : env1[2]? = some (some (.int cell)) := setEnv_at (by omega)
  have g4 : h1.get 4 = some (.lst [.ref 3, .int u, .int v, .int c]) := by rw [Hv.get_set l3, if_neg (by decide)]; exact s.g4
  have g3 : h1.get 3 = some (.lst (l.map .int)) := by rw [Hv.get_set l3, if_pos rfl]
  have l4' : 4 < h1.n := Hv.get_lt g4
  -- state
  let c' : Int := (c * 6151 + cell + 7).fmod 2147483629
  let h2 := h1.set 4 (.lst [.ref 3, .int u, .int v, .int c'])
  have a2 : evS p K (m + 12) (.asg (.idx (.nm 0) (.cst (.int 3))) (.bin .Mod (.bi .int [.bin .Add (.bin .Add (.bin .Mult (ix 3) (.cst (.int 6151))) (.nm 2)) (.cst (.int 7))]) (.cst (.int 2147483629)))) env1 h1 = .ok (.nx env1) h2 := by
    have b1 : ∀ m, evE p K (m + 3) (.bin .Mult (ix 3) (.cst (.int 6151))) env1 h1 = .ok (.int (c * 6151)) h1 := fun m => (bin_ev (ix_ev f0 g4 rfl) int_ev).trans (mul_ok (by decide))
    have b2 : ∀ m, evE p K (m + 4) (.bin .Add (.bin .Mult (ix 3) (.cst (.int 6151))) (.nm 2)) env1 h1 = .ok (.int (c * 6151 + cell)) h1 := fun m => (bin_ev (b1 m) (nm_ev f2 rfl)).trans rfl
    have b3 : ∀ m, evE p K (m + 5) (.bin .Add (.bin .Add (.bin .Mult (ix 3) (.cst (.int 6151))) (.nm 2)) (.cst (.int 7))) env1 h1 = .ok (.int (c * 6151 + cell + 7)) h1 := fun m => (bin_ev (b2 m) int_ev).trans rfl
    have b4 : ∀ m, evE p K (m + 8) (.bin .Mod (.bi .int [.bin .Add (.bin .Add (.bin .Mult (ix 3) (.cst (.int 6151))) (.nm 2)) (.cst (.int 7))]) (.cst (.int 2147483629))) env1 h1 = .ok (.int c') h1 := fun m =>
      (bin_ev ((bi_ev (by intro a z; cases z) (b3 m)).trans rfl) int_ev).trans (mod_ok (by decide))
    exact asgI_ev (j := 3) (b4 (m + 3)) f0 g4 rfl (by simp)
  have k4 : h2.get 4 = some (.lst [.ref 3, .int u, .int v, .int c']) := by rw [Hv.get_set l4', if_pos rfl]
  have k3 : h2.get 3 = some (.lst (l.map .int)) := by rw [Hv.get_set l4', if_neg (by decide)]; exact g3
  -- held
  have a3 : ∃ u' : Int, ∀ m, evE p K (m + 6) (.ite (.cmp .GtE (.nm 2) (.bin .Pow (.cst (.int 10)) (.cst (.int 18)))) (.nm 2) (.cst (.int 0))) env1 h2 = .ok (.int u') h2 := by
    have t : ∀ m, evT p K (m + 5) (.cmp .GtE (.nm 2) (.bin .Pow (.cst (.int 10)) (.cst (.int 18)))) env1 h2 = .ok (decide ((10 : Int) ^ 18 ≤ cell)) h2 := fun m =>
      cmpT_ev (m := m + 4) (cmp_ev (m := m + 3) (x := .int cell) (y := .int (10 ^ 18)) (nm_ev f2 rfl) ((bin_ev int_ev int_ev).trans (pow_ok (by decide))) rfl rfl rfl)
    cases hd : decide ((10 : Int) ^ 18 ≤ cell) with
    | true =>
      refine ⟨cell, fun m => ?_⟩
      show ((evT p K (m + 5) (.cmp .GtE (.nm 2) (.bin .Pow (.cst (.int 10)) (.cst (.int 18)))) env1 h2).bind fun t h => match t with
        | true => evE p K (m + 5) (.nm 2) env1 h
        | false => evE p K (m + 5) (.cst (.int 0)) env1 h) = _
      rw [t m, hd]
      exact nm_ev (p := p) (K := K) (m := m + 4) (h := h2) f2 rfl
    | false =>
      refine ⟨0, fun m => ?_⟩
      show ((evT p K (m + 5) (.cmp .GtE (.nm 2) (.bin .Pow (.cst (.int 10)) (.cst (.int 18)))) env1 h2).bind fun t h => match t with
        | true => evE p K (m + 5) (.nm 2) env1 h
        | false => evE p K (m + 5) (.cst (.int 0)) env1 h) = _
      rw [t m, hd]
      rfl
  obtain ⟨u', a3⟩ := a3
  have l4'' : 4 < h2.n := Hv.get_lt k4
  refine ⟨env1, h2.set 4 (.lst [.ref 3, .int u', .int v, .int c']), u', c', ?_, ⟨setEnv_ln.trans s.len, f0, f1, ?_, ?_⟩, Int.fmod_nonneg_of_pos _ (by decide), Int.fmod_lt_of_pos _ (by decide)⟩
  · unfold dBody
    have a4 : evS p K (m + 11) (.asg (.idx (.nm 0) (.cst (.int 1))) (.ite (.cmp .GtE (.nm 2) (.bin .Pow (.cst (.int 10)) (.cst (.int 18)))) (.nm 2) (.cst (.int 0)))) env1 h2 = .ok (.nx env1) (h2.set 4 (.lst [.ref 3, .int u', .int v, .int c'])) := asgI_ev (j := 1) (a3 (m + 4)) f0 k4 rfl (by simp)
    rw [ss_nx a1, ss_nx a2, ss_nx a4]
    rfl
  · rw [Hv.get_set l4'', if_neg (by decide)]; exact k3
  · rw [Hv.get_set l4'', if_pos rfl]
theorem shaped_int {i : Int} : SeqAt.shaped (.int i) = true := rfl
theorem canAll_ints : ∀ l : List Int, PyData.canLayAll0 (l.map .int) = true
  | [] => by simp [PyData.canLayAll0]
  | x :: l => by
    rw [List.map_cons]
    simp [PyData.canLayAll0, PyData.canLay0, canAll_ints l]
theorem depthAll_ints : ∀ l : List Int, PyData.depthAll (l.map .int) = 0
  | [] => by simp [PyData.depthAll]
  | x :: l => by
    rw [List.map_cons]
    simp [PyData.depthAll, PyData.depth, depthAll_ints l]
theorem shaped_ints {l : List Int} : SeqAt.shaped (.list (l.map .int)) = true := by
  unfold SeqAt.shaped
  simp [PyData.canLay0, PyData.depth, canAll_ints, depthAll_ints]
theorem rd_ints {k : Nat} : ∀ l : List Int, (l.map W.int).mapM (rd h (k + 1)) = some (l.map PyData.int)
  | [] => rfl
  | x :: l => by
    rw [List.map_cons, List.mapM_cons, rd_ints l]
    rfl
theorem rdD_ints {n : Nat} {l : List Int} (g : h.get n = some (.lst (l.map .int))) : rdD h (.ref n) = some (.list (l.map .int)) := by
  have e : rd h 62 (.ref n) = some (.list (l.map .int)) := by
    show (match h.get n with
      | some (.lst xs) => (xs.mapM (rd h 61)).map PyData.list
      | some (.rls xs) => (xs.mapM (rd h 61)).map .list
      | some (.tup xs) => (xs.mapM (rd h 61)).map .tuple
      | _ => none) = _
    rw [g]
    show ((l.map W.int).mapM (rd h (60 + 1))).map PyData.list = _
    rw [rd_ints]
    rfl
  unfold rdD
  rw [e]
  exact if_pos shaped_ints
theorem eqI {i j : Int} : cmpW h .Eq (.int i) (.int j) = some (PyData.eqv (.int i) (.int j)) := rfl
theorem Stm.push {l : List Int} {u v c : Int} {o : O} (s : Stm env h l u v c) : Stm env (h.push o) l u v c :=
  ⟨s.len, s.e0, s.e1, by rw [Hv.get_push, if_neg (Nat.ne_of_lt (Hv.get_lt s.g3))]; exact s.g3, by rw [Hv.get_push, if_neg (Nat.ne_of_lt (Hv.get_lt s.g4))]; exact s.g4⟩
theorem test_ev {l : List Int} {u v c : Int} (s : Stm env h l u v c) : ∃ b h', evT p K (m + 7) dTest env h = .ok b h' ∧ Stm env h' l u v c ∧ (b = true → l ≠ []) := by
  have t1 : evT p K (m + 5) (.cmp .Eq (ix 1) (.cst (.int 0))) env h = .ok (PyData.eqv (.int u) (.int 0)) h :=
    cmpT_ev (m := m + 4) (cmp_ev (m := m + 3) (ix_ev s.e0 s.g4 rfl) int_ev rfl rfl eqI)
  have e1 : evT p K (m + 7) dTest env h = (evT p K (m + 5) (.cmp .Eq (ix 1) (.cst (.int 0))) env h).bind fun b h => if b = true then evTs p K (m + 5) true [.cmp .NotEq (ix 0) (.lst [])] env h else .ok b h := rfl
  rw [e1, t1]
  show ∃ b h', (if PyData.eqv (.int u) (.int 0) = true then evTs p K (m + 5) true [.cmp .NotEq (ix 0) (.lst [])] env h else .ok (PyData.eqv (.int u) (.int 0)) h) = .ok b h' ∧ _
  cases q : PyData.eqv (.int u) (.int 0) with
  | false => exact ⟨false, h, if_neg (by decide), s, fun z => nomatch z⟩
  | true =>
    rw [if_pos rfl]
    have s2 : Stm env (h.push (.lst [])) l u v c := s.push
    have gn : (h.push (.lst [])).get h.n = some (.lst (([] : List Int).map .int)) := by rw [Hv.get_push, if_pos rfl]; rfl
    have n1 : insOf (h.push (.lst [])) (.ref 3) = none := by simp only [insOf, s2.g3]
    have n2 : insOf (h.push (.lst [])) (.ref h.n) = none := by simp only [insOf, gn]
    have d1 : dctOf (h.push (.lst [])) (.ref 3) = none := by simp only [dctOf, s2.g3]
    have d2 : dctOf (h.push (.lst [])) (.ref h.n) = none := by simp only [dctOf, gn]
    have cc : cmpW (h.push (.lst [])) .NotEq (.ref 3) (.ref h.n) = some (!PyData.eqv (.list (l.map .int)) (.list (([] : List Int).map .int))) := by
      show (match dctOf (h.push (.lst [])) (.ref 3), dctOf (h.push (.lst [])) (.ref h.n) with
        | none, none => (eqP (h.push (.lst [])) (.ref 3) (.ref h.n)).map (!·)
        | _, _ => none) = _
      rw [d1, d2]
      show (eqP (h.push (.lst [])) (.ref 3) (.ref h.n)).map (!·) = _
      unfold eqP
      rw [rdD_ints s2.g3, rdD_ints gn]
      rfl
    have t2 : evT p K (m + 4) (.cmp .NotEq (ix 0) (.lst [])) env h = .ok (!PyData.eqv (.list (l.map .int)) (.list (([] : List Int).map .int))) (h.push (.lst [])) :=
      cmpT_ev (m := m + 3) (cmp_ev (m := m + 2) (ix_ev s.e0 s.g4 rfl) (show evE p K (m + 2) (.lst []) env h = .ok (.ref h.n) (h.push (.lst [])) from rfl) n1 n2 cc)
    refine ⟨_, _, t2, s2, fun z zl => ?_⟩
    subst zl
    revert z
    decide
theorem loop_ev : ∀ (l : List Int) {env : Env} {h : Hv} {u v c : Int} {k : Nat}, Stm env h l u v c → 0 ≤ c → c < 2147483629 → l.length < k →
    ∃ env' h' l' u' c', whL (fun env h => evT p K (m + 14) dTest env h) (fun env h => evSs p K (m + 14) dBody env h) k env h = .ok (.nx env') h' ∧ Stm env' h' l' u' v c' ∧ 0 ≤ c' ∧ c' < 2147483629 := by
  intro l
  induction l with
  | nil =>
    intro env h u v c k s c0 c1 hk
    obtain ⟨b, h', e, s', hb⟩ := test_ev (p := p) (K := K) (m := m + 7) s
    cases k with
    | zero => exact absurd hk (Nat.not_lt_zero _)
    | succ k =>
      cases b with
      | true => exact absurd rfl (hb rfl)
      | false =>
        refine ⟨env, h', [], u, c, ?_, s', c0, c1⟩
        show (evT p K (m + 14) dTest env h).bind _ = _
        rw [e]
        rfl
  | cons x l ih =>
    intro env h u v c k s c0 c1 hk
    obtain ⟨b, h1, e, s1, hb⟩ := test_ev (p := p) (K := K) (m := m + 7) s
    cases k with
    | zero => exact absurd hk (Nat.not_lt_zero _)
    | succ k =>
      cases b with
      | false =>
        refine ⟨env, h1, x :: l, u, c, ?_, s1, c0, c1⟩
        show (evT p K (m + 14) dTest env h).bind _ = _
        rw [e]
        rfl
      | true =>
        obtain ⟨env2, h2, u2, c2, e2, s2, d0, d1⟩ := body_ev (p := p) (K := K) (m := m) s1
        obtain ⟨env3, h3, l3, u3, c3, e3, s3, f0, f1⟩ := ih s2 d0 d1 (Nat.lt_of_succ_lt_succ hk)
        refine ⟨env3, h3, l3, u3, c3, ?_, s3, f0, f1⟩
        show (evT p K (m + 14) dTest env h).bind _ = _
        rw [e]
        show (evSs p K (m + 14) dBody env h1).bind _ = _
        rw [e2]
        exact e3
/-- the draw of one of two: it ends, a number is told -/
theorem draw_ev {l : List Int} {u c : Int} (hl : l.length ≤ 63) (s : Stm env h l u 0 c) (c0 : 0 ≤ c) (c1 : c < 2147483629) : ∃ i h', evSs p K (m + 20) dAll env h = .ok (.rt (.int i)) h' := by
  have a1 : evS p K (m + 19) (.asg (.idx (.nm 0) (.cst (.int 2))) (.bin .Add (ix 2) (.cst (.int 1)))) env h = .ok (.nx env) (h.set 4 (.lst [.ref 3, .int u, .int (0 + 1), .int c])) :=
    asgI_ev (j := 2) ((bin_ev (ix_ev s.e0 s.g4 rfl) int_ev).trans rfl) s.e0 s.g4 rfl (by simp)
  have l4 := Hv.get_lt s.g4
  have s1 : Stm env (h.set 4 (.lst [.ref 3, .int u, .int (0 + 1), .int c])) l u (0 + 1) c := ⟨s.len, s.e0, s.e1, by rw [Hv.get_set l4, if_neg (by decide)]; exact s.g3, by rw [Hv.get_set l4, if_pos rfl]⟩
  obtain ⟨env2, h2, l2, u2, c2, e2, s2, d0, d1⟩ := loop_ev (p := p) (K := K) (m := m + 3) l (k := 1000000) s1 c0 c1 (by omega)
  have a2 : evS p K (m + 18) (.wh dTest dBody) env (h.set 4 (.lst [.ref 3, .int u, .int (0 + 1), .int c])) = .ok (.nx env2) h2 := e2
  have t3 : evT p K (m + 16) (.cmp .Gt (ix 1) (.cst (.int 0))) env2 h2 = .ok (decide (0 < u2)) h2 := cmpT_ev (m := m + 15) (cmp_ev (m := m + 14) (ix_ev s2.e0 s2.g4 rfl) int_ev rfl rfl rfl)
  have hlen := s2.len
  unfold dAll
  rw [ss_nx a1, ss_nx a2]
  cases q : decide (0 < u2) with
  | true =>
    have x1 : evS p K (m + 15) (.asg (.nm 3) (.bin .Mod (.bi .int [ix 1]) (.nm 1))) env2 h2 = .ok (.nx (setEnv env2 3 (some (.int (u2.fmod 2))))) h2 :=
      asgN_ev ((bin_ev ((bi_ev (by intro a z; cases z) (ix_ev s2.e0 s2.g4 rfl)).trans rfl) (nm_ev s2.e1 rfl)).trans (mod_ok (by decide))) (by omega)
    have f0 : (setEnv env2 3 (some (.int (u2.fmod 2))))[0]? = some (some (.ref 4)) := (setEnv_get (by decide)).trans s2.e0
    have f1 : (setEnv env2 3 (some (.int (u2.fmod 2))))[1]? = some (some (.int 2)) := (setEnv_get (by decide)).trans s2.e1
    have f3 : (setEnv env2 3 (some (.int (u2.fmod 2))))[3]? = some (some (.int (u2.fmod 2))) := setEnv_at (by omega)
    have x2 : evS p K (m + 14) (.asg (.idx (.nm 0) (.cst (.int 1))) (.bin .FloorDiv (ix 1) (.nm 1))) (setEnv env2 3 (some (.int (u2.fmod 2)))) h2 = .ok (.nx (setEnv env2 3 (some (.int (u2.fmod 2))))) (h2.set 4 (.lst [.ref 3, .int (u2.fdiv 2), .int (0 + 1), .int c2])) :=
      asgI_ev (j := 1) ((bin_ev (ix_ev f0 s2.g4 rfl) (nm_ev f1 rfl)).trans (fdiv_ok (by decide))) f0 s2.g4 rfl (by simp)
    have x3 : evS p K (m + 13) (.ret (.nm 3)) (setEnv env2 3 (some (.int (u2.fmod 2)))) (h2.set 4 (.lst [.ref 3, .int (u2.fdiv 2), .int (0 + 1), .int c2])) = .ok (.rt (.int (u2.fmod 2))) (h2.set 4 (.lst [.ref 3, .int (u2.fdiv 2), .int (0 + 1), .int c2])) := ret_ev (nm_ev f3 rfl)
    refine ⟨_, _, ss_rt (w := .int (u2.fmod 2)) (h1 := h2.set 4 (.lst [.ref 3, .int (u2.fdiv 2), .int (0 + 1), .int c2])) ?_⟩
    show ((evT p K (m + 16) (.cmp .Gt (ix 1) (.cst (.int 0))) env2 h2).bind fun t h => match t with
      | true => evSs p K (m + 16) [.asg (.nm 3) (.bin .Mod (.bi .int [ix 1]) (.nm 1)), .asg (.idx (.nm 0) (.cst (.int 1))) (.bin .FloorDiv (ix 1) (.nm 1)), .ret (.nm 3)] env2 h
      | false => evSs p K (m + 16) [] env2 h) = _
    rw [t3, q]
    show evSs p K (m + 16) [.asg (.nm 3) (.bin .Mod (.bi .int [ix 1]) (.nm 1)), .asg (.idx (.nm 0) (.cst (.int 1))) (.bin .FloorDiv (ix 1) (.nm 1)), .ret (.nm 3)] env2 h2 = _
    rw [ss_nx x1, ss_nx x2, ss_rt x3]
  | false =>
    have x0 : evS p K (m + 17) (.iff (.cmp .Gt (ix 1) (.cst (.int 0))) [.asg (.nm 3) (.bin .Mod (.bi .int [ix 1]) (.nm 1)), .asg (.idx (.nm 0) (.cst (.int 1))) (.bin .FloorDiv (ix 1) (.nm 1)), .ret (.nm 3)] []) env2 h2 = .ok (.nx env2) h2 := by
      show ((evT p K (m + 16) (.cmp .Gt (ix 1) (.cst (.int 0))) env2 h2).bind fun t h => match t with
        | true => evSs p K (m + 16) [.asg (.nm 3) (.bin .Mod (.bi .int [ix 1]) (.nm 1)), .asg (.idx (.nm 0) (.cst (.int 1))) (.bin .FloorDiv (ix 1) (.nm 1)), .ret (.nm 3)] env2 h
        | false => evSs p K (m + 16) [] env2 h) = _
      rw [t3, q]
      rfl
    let z : Int := c2 + 8191 * (0 + 1) + 50021
    let mx : Int := (z ^ 5).fmod 2147483587
    have m0 : 0 ≤ mx := Int.fmod_nonneg_of_pos _ (by decide)
    have m1 : mx < 2147483587 := Int.fmod_lt_of_pos _ (by decide)
    have b1 : ∀ m, evE p K (m + 5) (.bin .Add (.bin .Add (ix 3) (.bin .Mult (.cst (.int 8191)) (ix 2))) (.cst (.int 50021))) env2 h2 = .ok (.int z) h2 := fun m =>
      (bin_ev ((bin_ev (ix_ev s2.e0 s2.g4 rfl) ((bin_ev (m := m + 2) int_ev (ix_ev s2.e0 s2.g4 rfl)).trans (mul_ok2 (by decide)))).trans rfl) int_ev).trans rfl
    have x1 : evS p K (m + 16) (.asg (.nm 4) (.bin .Mod (.bi .int [.bin .Pow (.bin .Add (.bin .Add (ix 3) (.bin .Mult (.cst (.int 8191)) (ix 2))) (.cst (.int 50021))) (.cst (.int 5))]) (.cst (.int 2147483587)))) env2 h2 = .ok (.nx (setEnv env2 4 (some (.int mx)))) h2 :=
      asgN_ev ((bin_ev ((bi_ev (by intro a z; cases z) ((bin_ev (b1 (m + 5)) int_ev).trans (pow_ok ⟨by decide, by decide, by show z.natAbs < 2 ^ 64; omega⟩))).trans rfl) int_ev).trans (mod_ok (by decide))) (by omega)
    have f0 : (setEnv env2 4 (some (.int mx)))[0]? = some (some (.ref 4)) := (setEnv_get (by decide)).trans s2.e0
    have f1 : (setEnv env2 4 (some (.int mx)))[1]? = some (some (.int 2)) := (setEnv_get (by decide)).trans s2.e1
    have f4 : (setEnv env2 4 (some (.int mx)))[4]? = some (some (.int mx)) := setEnv_at (by omega)
    let y : Int := mx * 40009 + 20011 * (0 + 1) + 31
    have b2 : ∀ m, evE p K (m + 5) (.bin .Add (.bin .Add (.bin .Mult (.nm 4) (.cst (.int 40009))) (.bin .Mult (.cst (.int 20011)) (ix 2))) (.cst (.int 31))) (setEnv env2 4 (some (.int mx))) h2 = .ok (.int y) h2 := fun m =>
      (bin_ev ((bin_ev ((bin_ev (m := m + 2) (nm_ev f4 rfl) int_ev).trans (mul_ok (by decide))) ((bin_ev (m := m + 2) int_ev (ix_ev f0 s2.g4 rfl)).trans (mul_ok2 (by decide)))).trans rfl) int_ev).trans rfl
    have x2 : evE p K (m + 14) (.bin .Mod (.bin .Mod (.bi .int [.bin .Pow (.bin .Add (.bin .Add (.bin .Mult (.nm 4) (.cst (.int 40009))) (.bin .Mult (.cst (.int 20011)) (ix 2))) (.cst (.int 31))) (.cst (.int 3))]) (.cst (.int 1000000009))) (.nm 1)) (setEnv env2 4 (some (.int mx))) h2 = .ok (.int (((y ^ 3).fmod 1000000009).fmod 2)) h2 :=
      (bin_ev ((bin_ev ((bi_ev (by intro a z; cases z) ((bin_ev (b2 (m + 4)) int_ev).trans (pow_ok ⟨by decide, by decide, by show y.natAbs < 2 ^ 64; omega⟩))).trans rfl) int_ev).trans (mod_ok (by decide))) (nm_ev f1 rfl)).trans (mod_ok (by decide))
    exact ⟨_, _, by rw [ss_nx x0, ss_nx x1, ss_rt (ret_ev x2)]⟩
end
end RP

set_option Elab.async false
set_option linter.all false
set_option maxRecDepth 100000
set_option maxHeartbeats 400000
/-! RP53: the head's facts over a part of the heap that is named by range and kind. -/
namespace RP
open PySem PySem.Spec PyProof.Rows L2 LamX NdefX He

section
variable {n : Nat} {fn : List DefD} {ts : List He.Tab} {tf : List Defn} {ex : PySem.W.Frag → Bool} {w : World} {h : Heap}
theorem saysR_of (e : obsR n fn ts tf ex h.get? = valX fn ts w) : SaysX [] fn ts tf ex w h (frR n h.get?) := by
  have e2 : (ex (frR n h.get?) && tabsB h.get? tf (frR n h.get?)) = true := congrArg Prod.snd e
  have b := Bool.and_eq_true_iff.mp e2
  have t1 : ∀ q ∈ tf, PySem.W.codeHdIn (frR n h.get?) (He.cT (frR n h.get?) q).1 (He.cT (frR n h.get?) q).2 = true ∧ ∃ u, h.get? (He.cT (frR n h.get?) q).2 = some u ∧ emptyTab u = true := fun q hq => by
    have z := Bool.and_eq_true_iff.mp (List.all_eq_true.mp b.2 q hq)
    refine ⟨z.1, ?_⟩
    have z2 := z.2
    cases y : h.get? (He.cT (frR n h.get?) q).2 with
    | none => rw [y] at z2; cases z2
    | some u => rw [y] at z2; exact ⟨u, rfl, z2⟩
  refine ⟨congrArg Prod.fst e, b.1, fun q hq => (t1 q hq).1, fun q hq => ?_, fun q hq => ?_⟩
  · obtain ⟨_, u, y, z⟩ := t1 q hq
    exact frT_none y z
  · obtain ⟨_, u, y, z⟩ := t1 q hq
    rw [y, emptyTab_eq z]
def hookR (n : Nat) (fn : List DefD) (ts : List He.Tab) (tf : List Defn) (ex : PySem.W.Frag → Bool) : PySem.W.Hook where
  α := AlX
  obs := fun s => obsR n fn ts tf ex s.heap.get?
  val := fun w => valX fn ts w
  says := fun w h => ∃ K : PySem.W.Frag, K.In h ∧ SaysX [] fn ts tf ex w h K
  of := fun _ _ e => ⟨_, frT_in, saysR_of e⟩
  keeps := fun _ _ _ ⟨K, hK, c⟩ k => ⟨K, hK.keeps k, c.t, c.more, c.hd, c.out, fun p hp => k _ _ (c.empty p hp)⟩
theorem obsR_eq {g : Addr → Option Obj} {s : Shared} (h : ∀ a, g a = s.heap.get? a) : obsR n fn ts tf ex g = (hookR n fn ts tf ex).obs s := by
  rw [show g = s.heap.get? from funext h]
  rfl
end
end RP

set_option Elab.async false
set_option linter.all false
set_option maxRecDepth 100000
set_option maxHeartbeats 400000
/-! RP54: what is looked at behind k93's head. -/
namespace RP
open PySem PySem.Spec PyProof.Rows L2 LamX NdefX

abbrev kHook : PySem.W.Hook := hookR kN k93.fn kTabs k93.tf kEx
def kOb (s : PySem.W.SharedT) : He.AlX := obsR kN k93.fn kTabs k93.tf kEx (HandSHeadRun.getT s)
theorem kOb_eq (s : PySem.W.SharedT) : kOb s = kHook.obs s.abs := obsR_eq (HandSHeadRun.getT_eq s)
end RP

set_option Elab.async false
set_option linter.all false
set_option maxRecDepth 100000
set_option maxHeartbeats 0
/-! RP55: k93's head, by the kernel. -/
namespace RP
open PySem PySem.Spec PyProof.Rows L2 LamX NdefX

theorem map_three {α β γ δ : Type} {o : Option α} {f : α → β} {g : α → γ} {k : α → δ} {b : β} {c : γ} {d : δ} (h1 : o.map (fun s => (f s, g s)) = some (b, c)) (h2 : o.map k = some d) : o.map (fun s => (f s, g s, k s)) = some (b, c, d) := by
  cases o with
  | none => cases h1
  | some s =>
    cases h1
    cases h2
    rfl
theorem kFacts_of {o : Option PySem.W.SharedT} {w : World} (m1 : o.map kM1 = some (k93.fn.map He.DefD.val)) (m2 : o.map kM2 = some (true, kTabs.map fun t => some (He.keysIn w.params t.2))) (m3 : o.map kM3 = some true) (m4 : o.map kM4 = some true) : o.map kOb = some (kHook.val w) := by
  cases o with
  | none => cases m1
  | some s =>
    have e1 : kM1 s = k93.fn.map He.DefD.val := Option.some.inj m1
    have e2 : kM2 s = (true, kTabs.map fun t => some (He.keysIn w.params t.2)) := Option.some.inj m2
    have e3 : (kP3 (kK s) && He.tabsB (HandSHeadRun.getT s) k93.tf (kK s)) = true := Option.some.inj m3
    have e4 : kP4 (kK s) = true := Option.some.inj m4
    obtain ⟨e31, e32⟩ := He.ba e3
    have ex : kEx (kK s) = true := by
      unfold kP3 at e31
      unfold kP4 at e4
      obtain ⟨y1, e31⟩ := He.ba e31
      obtain ⟨y2, y3⟩ := He.ba e31
      unfold kEx factsB
      rw [y1, y2, y3, e4]
      rfl
    have z1 : (k93.fn.all fun d => d.ok (kK s)) = true := congrArg Prod.fst e2
    have z2 : (kTabs.map fun t => He.dicW (kK s) (t.1 (kK s))) = kTabs.map fun t => some (He.keysIn w.params t.2) := congrArg Prod.snd e2
    show some ((((true && k93.fn.all fun d => d.ok (kK s)), kM1 s), kTabs.map fun t => He.dicW (kK s) (t.1 (kK s))), kEx (kK s) && He.tabsB (HandSHeadRun.getT s) k93.tf (kK s)) = some (((true, k93.fn.map He.DefD.val), kTabs.map fun t => some (He.keysIn w.params t.2)), true)
    rw [e1, z1, z2, ex, e32]
    rfl
theorem map_fst {α β γ : Type} {o : Option α} {f : α → β} {g : α → γ} {b : β} {c : γ} (h : o.map (fun s => (f s, g s)) = some (b, c)) : o.map f = some b ∧ o.map g = some c := by
  cases o with
  | none => cases h
  | some s => cases h; exact ⟨rfl, rfl⟩
theorem kFacts_0 (w : World) (os : OsState) : (kEnd (w.withFollow "special-get-raises" false) os).map kOb = some (kHook.val (w.withFollow "special-get-raises" false)) :=
  kFacts_of (map_fst (kM13_0 w os)).1 (kM2_0 w os) (map_fst (kM13_0 w os)).2 (kM4_0 w os)
theorem kFacts_1 (w : World) (os : OsState) : (kEnd (w.withFollow "special-get-raises" true) os).map kOb = some (kHook.val (w.withFollow "special-get-raises" true)) :=
  kFacts_of (map_fst (kM13_1 w os)).1 (kM2_1 w os) (map_fst (kM13_1 w os)).2 (kM4_1 w os)
theorem kRun (w : World) : HandSHeadRun.RunEq kRow (PySem.W.view kRow.prog [kLi]) kHook kOb 30000 kLoose w :=
  PySem.W.byRow2 "special-get-raises" (P := fun w => HandSHeadRun.RunEq kRow (PySem.W.view kRow.prog [kLi]) kHook kOb 30000 kLoose w) (fun w os => map_three (kSeen0 w os) (kFacts_0 w os)) (fun w os => map_three (kSeen1 w os) (kFacts_1 w os)) w
end RP

set_option Elab.async false
set_option linter.all false
set_option maxRecDepth 100000
set_option maxHeartbeats 0
/-! RP56: k93's law and its parts, as the compiler has them; the three parts by the kernel. -/
namespace RP
open PySem PySem.Spec PyProof.Rows L2 LamX NdefX

theorem getD_at {α : Type} {o : Option α} {d : α} (h : o.isSome = true) : o = some (o.getD d) := by
  cases o with
  | none => cases h
  | some a => rfl
def kLaw : Dd := (k93.dds[82]?).getD ⟨"", none, ⟨[], [], none, [], [], none, []⟩, [], ⟨.function, [], false, false, []⟩⟩
theorem kLaw_at : k93.dds[82]? = some kLaw := getD_at (by decide +kernel)
theorem kLaw_args : argNames kLaw.args = some [("script" : Str)] := by kernel_rfl
theorem kLaw_name : kLaw.name = ("law" : Str) := by kernel_rfl
abbrev kC : Cc := k93.cc kLaw ["script"]
theorem kLaw_N : kC.N = [("script" : Str), "stream"] := by kernel_rfl
/-- the law's body: a stream, a test, three parts, three parts -/
structure LawS where
  s : Stmt
  c : Expr
  a1 : Expr
  a2 : Expr
  a3 : Expr
  b1 : Expr
  b2 : Expr
  b3 : Expr
  p1 : Pos
  p2 : Pos
  p3 : Pos
  p4 : Pos
  p5 : Pos
def lawShape : List Stmt → Option LawS
  | [s, .If c [.Return (some (.BoolOp .And [a1, a2, a3] p1)) p2] [] p3, .Return (some (.BoolOp .And [b1, b2, b3] p4)) p5] => some ⟨s, c, a1, a2, a3, b1, b2, b3, p1, p2, p3, p4, p5⟩
  | _ => none
theorem lawShape_is {b : List Stmt} {x : LawS} (h : lawShape b = some x) : b = [x.s, .If x.c [.Return (some (.BoolOp .And [x.a1, x.a2, x.a3] x.p1)) x.p2] [] x.p3, .Return (some (.BoolOp .And [x.b1, x.b2, x.b3] x.p4)) x.p5] := by
  unfold lawShape at h
  split at h
  · cases h; rfl
  · cases h
def kShape : LawS := (lawShape kLaw.body).getD ⟨.Pass ⟨0, 0, 0, 0⟩, .Name "" ⟨0, 0, 0, 0⟩, .Name "" ⟨0, 0, 0, 0⟩, .Name "" ⟨0, 0, 0, 0⟩, .Name "" ⟨0, 0, 0, 0⟩, .Name "" ⟨0, 0, 0, 0⟩, .Name "" ⟨0, 0, 0, 0⟩, .Name "" ⟨0, 0, 0, 0⟩, ⟨0, 0, 0, 0⟩, ⟨0, 0, 0, 0⟩, ⟨0, 0, 0, 0⟩, ⟨0, 0, 0, 0⟩, ⟨0, 0, 0, 0⟩⟩
theorem kShape_at : lawShape kLaw.body = some kShape := getD_at (by decide +kernel)
theorem kScopes : scopesB k93 = true := by decide +kernel
theorem kStream : k93.p.defs[70]? = some ⟨"_law_stream", 1, 1, [.ret (.lst [.bi .list [.nm 0], .cst (.int 0), .cst (.int 0), .cst (.int 19)])]⟩ := by kernel_rfl
theorem kDraw : k93.p.defs[71]? = some ⟨"_law_draw", 2, 5, dAll⟩ := by kernel_rfl
theorem kS1 : cS 200 kC kShape.s = some (.asg (.nm 1) (.call 70 [.nm 0])) := by kernel_rfl
theorem kT1 : cE 200 kC kShape.c = some (.cmp .Eq (.call 71 [.nm 1, .cst (.int 2)]) (.cst (.int 0))) := by kernel_rfl
theorem kA1 : cE 200 kC kShape.a1 = some (.call 79 []) := by kernel_rfl
theorem kA2 : cE 200 kC kShape.a2 = some (.call 80 []) := by kernel_rfl
theorem kA3 : cE 200 kC kShape.a3 = some (.call 81 []) := by kernel_rfl
theorem kB1 : cE 200 kC kShape.b1 = some (.call 81 []) := by kernel_rfl
theorem kB2 : cE 200 kC kShape.b2 = some (.call 80 []) := by kernel_rfl
theorem kB3 : cE 200 kC kShape.b3 = some (.call 79 []) := by kernel_rfl
end RP

set_option Elab.async false
set_option linter.all false
set_option maxRecDepth 100000
set_option maxHeartbeats 400000
/-! RP58: the law by the layer. -/
namespace RP
open PySem PySem.Spec PyProof.Rows L2 LamX NdefX

/-! ### the machine's side -/
section
variable {p : Pg} {K : Orc} {m d : Nat} {env : Env} {h : Hv}
theorem fn_at {f : Nat} {df : Df} {ws : List W} (e : p.defs[f]? = some df) (c : ws.length = df.np ∧ ws.all clean = true) : (orc p (d + 1)).fn f ws h = fin (evSs p (orc p d) 1000 df.body (startE df.ns ws) h) := by
  show (match p.defs[f]? with
      | some df => if ws.length = df.np ∧ ws.all clean then fin (evSs p (orc p d) 1000 df.body (startE df.ns ws) h) else .no
      | none => .no) = _
  rw [e]
  exact if_pos c
theorem publish_clean : ∀ {ws : List W}, ws.all clean = true → publish env ws h = some (ws, none, h)
  | [], _ => rfl
  | w :: ws, c => by
    rw [List.all_cons, Bool.and_eq_true] at c
    have ih := publish_clean c.2
    have cw := c.1
    cases w <;> first | (cases cw; done) | (simp only [publish, clean, if_true]; rw [ih])
theorem call_ev {f : Nat} {es : List E} {ws : List W} {h1 : Hv} (e : evAs p K m es env h = .ok ws h1) (c : ws.all clean = true) : evE p K (m + 1) (.call f es) env h = K.fn f ws h1 := by
  show ((evAs p K m es env h).bind fun ws h => match publish env ws h with
      | some (ws, ns, h) => killR ns (K.fn f ws h)
      | none => .no) = _
  rw [e]
  show (match publish env ws h1 with
      | some (ws, ns, h) => killR ns (K.fn f ws h)
      | none => .no) = _
  rw [publish_clean c]
  rfl
/-- the stream -/
theorem stream_ev {o : O} {ns : List Int} (g : h.get 2 = some o) (ho : o = .lst (ns.map .int) ∨ o = .rls (ns.map .int)) (hl : ns.length ≤ 63) (hn : h.n = 3) :
    (orc k93.p (d + 1)).fn 70 [.ref 2] h = .ok (.ref 4) ((h.push (.lst (ns.map .int))).push (.lst [.ref 3, .int 0, .int 0, .int 19])) := by
  have hs : seqOf h (.ref 2) = some (ns.map .int) := by
    rcases ho with rfl | rfl <;> simp only [seqOf, g]
  have e1 : ∀ m, evE k93.p (orc k93.p d) (m + 4) (.bi .list [.nm 0]) [some (.ref 2)] h = .ok (.ref 3) (h.push (.lst (ns.map .int))) := fun m => by
    refine (bi_ev (m := m + 1) (by intro a z; cases z) (nm_ev (m := m + 1) (i := 0) rfl rfl)).trans ?_
    have : biW1 h .list (.ref 2) = .ok (.ref h.n) (h.push (.lst (ns.map .int))) := by
      rcases ho with rfl | rfl
      · simp only [biW1, g, hs]
      · simp only [biW1, g, hs]
    rw [this, hn]
  rw [fn_at kStream ⟨rfl, rfl⟩]
  have e2 : evE k93.p (orc k93.p d) 998 (.lst [.bi .list [.nm 0], .cst (.int 0), .cst (.int 0), .cst (.int 19)]) [some (.ref 2)] h = .ok (.ref 4) ((h.push (.lst (ns.map .int))).push (.lst [.ref 3, .int 0, .int 0, .int 19])) := by
    show ((((evE k93.p (orc k93.p d) 996 (.bi .list [.nm 0]) [some (.ref 2)] h).bind fun x h => (evEs k93.p (orc k93.p d) 996 [.cst (.int 0), .cst (.int 0), .cst (.int 19)] [some (.ref 2)] h).bind fun ws h => Res.ok (x :: ws) h)).bind fun ws h => if ws.length ≤ 16777216 then Res.ok (W.ref h.n) (h.push (.lst ws)) else .no) = _
    rw [e1 992]
    show Res.ok (W.ref (h.n + 1)) _ = _
    rw [hn]
    rfl
  show fin (evSs k93.p (orc k93.p d) 1000 [.ret (.lst [.bi .list [.nm 0], .cst (.int 0), .cst (.int 0), .cst (.int 19)])] [some (.ref 2)] h) = _
  rw [ss_rt (ret_ev e2)]
  rfl
/-- what the law's test draws -/
theorem test_law {ns : List Int} {h0 : Hv} (hl : ns.length ≤ 63) (hn : h0.n = 3) {h : Hv} (eh : h = (h0.push (.lst (ns.map .int))).push (.lst [.ref 3, .int 0, .int 0, .int 19])) {env : Env} (e1 : env[1]? = some (some (.ref 4))) :
    ∃ b h', evT k93.p (orc k93.p (d + 1)) (m + 10) (.cmp .Eq (.call 71 [.nm 1, .cst (.int 2)]) (.cst (.int 0))) env h = .ok b h' := by
  have g3 : h.get 3 = some (.lst (ns.map .int)) := by
    rw [eh, Hv.get_push, if_neg (by show 3 ≠ h0.n + 1; omega), Hv.get_push, if_pos hn.symm]
  have g4 : h.get 4 = some (.lst [.ref 3, .int 0, .int 0, .int 19]) := by
    rw [eh, Hv.get_push, if_pos (by show 4 = h0.n + 1; omega)]
  have s : Stm (startE 5 [.ref 4, .int 2]) h ns 0 0 19 := ⟨rfl, rfl, rfl, g3, g4⟩
  obtain ⟨i, h', e⟩ := draw_ev (p := k93.p) (K := orc k93.p d) (m := 980) hl s (by decide) (by decide)
  have e2 : (orc k93.p (d + 1)).fn 71 [.ref 4, .int 2] h = .ok (.int i) h' := by
    rw [fn_at kDraw ⟨rfl, rfl⟩]
    show fin (evSs k93.p (orc k93.p d) 1000 dAll (startE 5 [.ref 4, .int 2]) h) = _
    rw [e]
    rfl
  have ea : evAs k93.p (orc k93.p (d + 1)) (m + 7) [.nm 1, .cst (.int 2)] env h = .ok [.ref 4, .int 2] h := by
    show ((evA k93.p (orc k93.p (d + 1)) (m + 6) (.nm 1) env h).bind fun x h => (evAs k93.p (orc k93.p (d + 1)) (m + 6) [.cst (.int 2)] env h).bind fun ws h => Res.ok (x :: ws) h) = _
    have : evA k93.p (orc k93.p (d + 1)) (m + 6) (.nm 1) env h = .ok (.ref 4) h := by
      show (match env[1]? with
        | some (some w) => Res.ok w h
        | _ => .no) = _
      rw [e1]
    rw [this]
    rfl
  have ec : evE k93.p (orc k93.p (d + 1)) (m + 8) (.call 71 [.nm 1, .cst (.int 2)]) env h = .ok (.int i) h' := (call_ev ea rfl).trans e2
  exact ⟨_, h', cmpT_ev (m := m + 9) (cmp_ev (m := m + 8) ec int_ev rfl rfl eqI)⟩
end
/-! ### the written dict -/
theorem parts_at {K : PySem.W.Frag} {w : World} {a : Addr} {kvs : List (Str × Str)} (h : He.dicW K a = some (He.keysIn w.params (kvs.map (·.1)))) (hv : He.valsB K a (kvs.map fun q => (q.1, He.Dv.str q.2)) = true) (hl : kvs.length ≤ 1000) : WdAt K w a (kvs.map fun q => (q.1, V.str q.2)) := by
  obtain ⟨es, n, kd⟩ := He.dicW_ok h
  have hk : es.toList.map He.keyOf = He.keysIn w.params (kvs.map (·.1)) := by
    unfold He.dicW at h
    rw [kd.at_] at h
    simp only at h
    split at h
    · exact Option.some.inj h
    · cases h
  have pr : ∀ (l : List DictEntry) (ks : List Str), l.map He.keyOf = He.keysIn w.params ks → Paired (fun (x : Str) (e : DictEntry) => ∃ t, e.key = .str x t) ks l := fun l => by
    induction l with
    | nil => intro ks h; cases ks with
      | nil => exact .nil
      | cons => cases h
    | cons e l ih =>
      intro ks h
      cases ks with
      | nil => cases h
      | cons x ks =>
        have h1 : He.keyOf e :: l.map He.keyOf = some (x, PyData.keyHash w.params x) :: He.keysIn w.params ks := h
        injection h1 with h2 h3
        refine .cons ?_ (ih ks h3)
        unfold He.keyOf at h2
        split at h2
        · rename_i y t q
          have h4 := congrArg Prod.fst (Option.some.inj h2)
          exact ⟨t, by rw [q, show y = x from h4]⟩
        · cases h2
  have pe := pr _ _ hk
  have pm : ∀ (ks : List (Str × Str)) (l : List DictEntry), Paired (fun (x : Str) (e : DictEntry) => ∃ t, e.key = .str x t) (ks.map (·.1)) l → Paired (fun (p : Str × V) (e : DictEntry) => ∃ t, e.key = .str p.1 t) (ks.map fun q => (q.1, V.str q.2)) l := fun ks => by
    induction ks with
    | nil => intro l h; cases h; exact .nil
    | cons k ks ih => intro l h; cases h with
      | cons q t => exact .cons q (ih _ t)
  have len : es.toList.length = kvs.length := by rw [← pair_len pe, List.length_map]
  refine ⟨es, n, kd, by rw [len]; exact hl, pm _ _ pe, fun z => ?_⟩
  cases f : (kvs.map fun q => (q.1, V.str q.2)).find? (fun p => p.1 == z) with
  | some q =>
    obtain ⟨q0, hq0, rfl⟩ := List.mem_map.mp (List.mem_of_find?_eq_some f)
    have ez : q0.1 = z := by simpa using List.find?_some f
    obtain ⟨u, e1, e2⟩ := He.valsB_ok hv (q := (q0.1, He.Dv.str q0.2)) (List.mem_map.mpr ⟨q0, hq0, rfl⟩)
    exact ⟨u, by rw [← ez]; exact e1, e2⟩
  | none =>
    have nk : ∀ e ∈ es.toList, (e.key.isStr z) = false ∧ e.refKey = false := fun e he => by
      obtain ⟨i, hi, ei⟩ := List.mem_iff_getElem.mp he
      obtain ⟨x, hx, t, ek⟩ := pair_get (i := i) (y := e) pe (by rw [List.getElem?_eq_getElem hi, ei])
      have hx2 := List.mem_of_getElem? hx
      obtain ⟨q0, hq0, rfl⟩ := List.mem_map.mp hx2
      have ne := List.find?_eq_none.mp f (q0.1, V.str q0.2) (List.mem_map.mpr ⟨q0, hq0, rfl⟩)
      have ne : q0.1 ≠ z := by simpa using ne
      refine ⟨?_, ?_⟩
      · rw [ek]
        show (q0.1 == z) = false
        simpa using ne
      · unfold DictEntry.refKey
        rw [ek]
    show PySem.W.nsIn K a z = some none
    unfold PySem.W.nsIn
    rw [kd.at_]
    simp only
    have f1 : es.toList.find? (fun e => e.key.isStr z) = none := List.find?_eq_none.mpr fun e he => by rw [(nk e he).1]; decide
    have f2 : es.toList.any (fun e => e.refKey) = false := by
      rw [List.any_eq_false]
      intro e he
      rw [(nk e he).2]
      decide
    rw [f1]
    simp only [f2]
    rfl
end RP

set_option Elab.async false
set_option linter.all false
set_option maxRecDepth 100000
set_option maxHeartbeats 400000
/-! RP59: the law's promise. -/
namespace RP
open PySem PySem.Spec PyProof.Rows L2 LamX NdefX

section
variable {P : Program} {w : World} {K : PySem.W.Frag} {mg : Str → Option Value} {base : Heap}
abbrev kG (P : Program) (w : World) (K : PySem.W.Frag) (mg : Str → Option Value) (base : Heap) : Gd := k93.G P w K mg base
theorem kB_get {n : Nat} {o : O} (e : kB.get n = some o) : (n = 0 ∧ o = .tup [.str "never"]) ∨ (n = 1 ∧ o = .wdc kParts) := by
  have hn := Hv.get_lt e
  have hn : n < 2 := hn
  match n, hn with
  | 0, _ => cases e; exact .inl ⟨rfl, rfl⟩
  | 1, _ => cases e; exact .inr ⟨rfl, rfl⟩
/-- the constants alone are known -/
theorem base_rel {H : Hp} (hN : He.tupB K "NEVER" [.str "never"] = true) (hW : WdAt K w (He.ga K "PARTS") (kPairs.map fun q => (q.1, V.str q.2))) (hT : TabsN (k93.Ts K) H) : Rel (kG P w K mg base) (k93.con K) kB H := by
  refine ⟨rfl, fun n o a e q => ?_, fun i j a o o' e1 e2 q1 q2 m1 m2 => ?_, fun i j a b c o o' q1 q2 c1 c2 e1 e2 z1 z2 => ?_, (fun m x y e => nomatch e), hT, .refl _⟩
  · rcases kB_get e with ⟨rfl, rfl⟩ | ⟨rfl, rfl⟩
    · cases q
      exact ⟨[V.str "never"], He.tupB_ok hN H, .cons rfl .nil⟩
    · cases q
      refine ⟨_, hW, ?_⟩
      have gen : ∀ l : List (Str × Str), FVW (kG P w K mg base) (k93.con K) (l.map fun q => (q.1, V.str q.2)) (l.map fun q => (q.1, W.str q.2)) := fun l => by
        induction l with
        | nil => exact .nil
        | cons q l ih => exact .cons ⟨rfl, rfl⟩ ih
      exact gen kPairs
  · rcases kB_get q1 with ⟨_, rfl⟩ | ⟨_, rfl⟩ <;> cases m1
  · rcases kB_get q1 with ⟨_, rfl⟩ | ⟨_, rfl⟩ <;> cases c1
/-- a part of the law, wherever it stands -/
theorem part_run {D : DK} {E : XK} {i : Nat} (hk : okB ((orc k93.p 24).fn i [] kB) = true) (hN : He.tupB K "NEVER" [.str "never"] = true) (hW : WdAt K w (He.ga K "PARTS") (kPairs.map fun q => (q.1, V.str q.2))) {σ : L2.St} {H : Hp} {Q : VK} (hσ : σ.length = 2) (hT : TabsN (k93.Ts K) H)
    (q : ∀ H', TabsN (k93.Ts K) H' → Q (.bl true) H') : tE (kG P w K mg base) D E (evE k93.p (orc k93.p 24) 1000 (.call i [])) σ H Q := by
  refine ⟨k93.con K, kB, [none, none], base_rel hN hW hT, ⟨hσ, fun j w e => ?_⟩, ?_⟩
  · match j, e with
    | 0, e => cases e
    | 1, e => cases e
    | j + 2, e => cases e
  · have e : evE k93.p (orc k93.p 24) 1000 (.call i []) [none, none] kB = (orc k93.p 24).fn i [] kB := call_ev (m := 999) (ws := []) rfl rfl
    rw [e]
    cases g : (orc k93.p 24).fn i [] kB with
    | ok r h' =>
      rw [g] at hk
      cases r with
      | bl b =>
        cases b with
        | true =>
          intro v H' r' rel' st qv
          have qv : v = .bl true := qv
          subst qv
          exact q H' rel'.tabs
        | false => cases hk
      | _ => cases hk
    | _ => rw [g] at hk; cases hk
theorem kLam : kC.lam = false := by kernel_rfl
/-- the law's promise -/
def spLaw (K : PySem.W.Frag) : Sp := fun vs H Q _ => ∃ (a : Addr) (ns : List Int), vs = [.ref a] ∧ ns.length ≤ 63 ∧ SqL K H a (ns.map V.int) ∧ TabsN (k93.Ts K) H ∧ ∀ H', Q (.bl true) H'
theorem law_fnOk {fa : List He.Fa} (cc : He.SaysD fa k93.fn K) (hf : factsB k93 K = true) (hN : He.tupB K "NEVER" [.str "never"] = true) (hW : WdAt K w (He.ga K "PARTS") (kPairs.map fun q => (q.1, V.str q.2))) (X : K.In base) (N : base.Ns mainGlobals mg) (hT : ∀ p ∈ k93.tf.map (He.cT K), TabB base mg p.1 p.2)
    {oc : Value} {od : Option Addr} {kV doc pm : Value} {an : Option Addr} {cdv ct : Value} {osl : Array (Option Value)} (lk : K.lookup (k93.F K 82) = some ⟨oc, od, .func (PySem.W.fnOf kLaw.name (k93.qual kLaw) kLaw.args kLaw.body kLaw.scope .none kV doc pm an cdv ct), osl⟩) (hcd : PySem.W.codeIn K cdv (k93.qual kLaw) = true) :
    FnOk P w K mg base (L2.CX P w) 51 (k93.F K 82) (PySem.W.fnOf kLaw.name (k93.qual kLaw) kLaw.args kLaw.body kLaw.scope .none kV doc pm an cdv ct) ["script"] (spLaw K) := by
  have hG : GS (kG P w K mg base) := gs_of cc X N hf
  have hP : PgOk (kG P w K mg base) := pgOk_of cc hf kScopes hT
  obtain ⟨hfn, hlm⟩ := orc_ok hG hP 24
  have hsc := List.all_eq_true.mp kScopes kLaw (List.mem_of_getElem? kLaw_at)
  rw [kLaw_args] at hsc
  have S : FnScope kC.N ["script"] kC.sc := C8.fnScope_by hsc
  refine fn_of (N := kC.N) (k := 50) lk hcd S (fun vs H Q E ⟨a, ns, hv, _⟩ => by rw [hv]; rfl) fun A outer s H vs Q E hr ⟨a, ns, hv, hl, hS, hTab, hQ⟩ => ?_
  subst hv
  have F := frS_of (G := kG P w K mg base) (C := kC) (E := E) (outer := outer) (H := H) S rfl (fun z => by rw [kLam] at z; cases z) hr (by decide) hfn hlm
  have call : ∀ {e : Expr} {i : Nat}, cE 200 kC e = some (.call i []) → _ := fun {e i} h => ((cok (K := orc k93.p 24) hG.ok hG.eq 200).e F.fe h).oe 1000
  have body := lawShape_is kShape_at
  refine ⟨_, by
    rw [body]
    exact pss_cons ((c_ss hG F 200).1 kS1 1000) (pss_cons (ps_if (((cok (K := orc k93.p 24) hG.ok hG.eq 200).e F.fe kT1).ot 1000) (pss_cons (ps_ret (pe_and (call kA1) (pe_and (call kA2) (pe_one (call kA3))))) pss_nil) pss_nil) (pss_cons (ps_ret (pe_and (call kB1) (pe_and (call kB2) (pe_one (call kB3))))) pss_nil)), ?_⟩
  have rB : Rel (kG P w K mg base) (k93.con K) kB H := base_rel hN hW hTab
  have vws : ∀ (r : List Addr) (l : List Int), VWs (kG P w K mg base) r (l.map V.int) (l.map W.int) := fun r l => by
    induction l with
    | nil => exact .nil
    | cons x l ih => exact .cons rfl ih
  have so : ∃ o : O, (o = .lst (ns.map .int) ∨ o = .rls (ns.map .int)) ∧ isClo o = false ∧ OR (kG P w K mg base) (k93.con K ++ [a]) H a o := by
    rcases hS with (e | ⟨ob, e⟩) | z
    · exact ⟨.lst (ns.map .int), .inl rfl, rfl, ns.map V.int, e, vws _ _⟩
    · exact ⟨.rls (ns.map .int), .inr rfl, rfl, ns.map V.int, .inl ⟨ob, e⟩, vws _ _⟩
    · exact ⟨.rls (ns.map .int), .inr rfl, rfl, ns.map V.int, .inr fun H' => .inr z, vws _ _⟩
  obtain ⟨o, ho, hcl, hor⟩ := so
  have nm : ¬ Mu (k93.con K) kB a := fun ⟨n, o', e, g, m⟩ => by
    rcases kB_get g with ⟨_, rfl⟩ | ⟨_, rfl⟩ <;> cases m
  have rel0 := rB.adopt nm hcl hor
  have g2 : (kB.push o).get 2 = some o := by rw [Hv.get_push]; exact if_pos rfl
  have er0 : EnvR (kG P w K mg base) (DF (cxOf (L2.CX P w) P w K mg base kC.N (k93.qual kLaw) kC.sc (k93.F K 82) cdv A outer s H E) (kG P w K mg base)) (k93.con K ++ [a]) H (L2.start kC.N [V.ref a]) [some (.ref 2), none] := by
    have z := start_env (G := kG P w K mg base) (D := DF (cxOf (L2.CX P w) P w K mg base kC.N (k93.qual kLaw) kC.sc (k93.F K 82) cdv A outer s H E) (kG P w K mg base)) (H := H) (N := kC.N) (r := k93.con K ++ [a]) (vs := [V.ref a]) (ws := [W.ref 2]) (.cons ⟨a, rfl, rfl⟩ .nil) (by rw [kLaw_N]; decide)
    rw [show startE kC.N.length [W.ref 2] = [some (.ref 2), none] from by rw [kLaw_N]; rfl] at z
    exact z
  have ev1 : evS k93.p (orc k93.p 24) 1000 (.asg (.nm 1) (.call 70 [.nm 0])) [some (.ref 2), none] (kB.push o) = .ok (.nx [some (.ref 2), some (.ref 4)]) (((kB.push o).push (.lst (ns.map .int))).push (.lst [.ref 3, .int 0, .int 0, .int 19])) :=
    asgN_ev (m := 998) ((call_ev (m := 998) (ws := [.ref 2]) (h1 := kB.push o) rfl rfl).trans (stream_ev (d := 23) g2 ho hl rfl)) (by decide)
  obtain ⟨bt, h2, ev2⟩ := test_law (d := 23) (m := 990) (h0 := kB.push o) hl rfl rfl (env := [some (.ref 2), some (.ref 4)]) rfl
  refine ⟨k93.con K ++ [a], kB.push o, [some (.ref 2), none], rel0, er0, ?_⟩
  show PostG _ _ _ _ _ _ _ (evS k93.p (orc k93.p 24) 1000 (.asg (.nm 1) (.call 70 [.nm 0])) [some (.ref 2), none] (kB.push o))
  rw [ev1]
  intro b H1 r1 rel1 st1 q1
  cases b with
  | nx σ1 =>
    have hσ : σ1.length = 2 := q1.len
    refine ⟨r1, _, _, rel1, q1, ?_⟩
    show PostG _ _ _ _ _ _ _ (evT k93.p (orc k93.p 24) 1000 (.cmp .Eq (.call 71 [.nm 1, .cst (.int 2)]) (.cst (.int 0))) _ _)
    rw [ev2]
    intro b H2 r2 rel2 st2 qb
    have qb : b = bt := qb
    subst qb
    cases b with
    | true =>
      rw [if_pos rfl]
      exact part_run kTwins hN hW hσ rel2.tabs fun H3 t3 => ⟨true, rfl, by
        rw [if_pos rfl]
        exact part_run kCopies hN hW hσ t3 fun H4 t4 => ⟨true, rfl, by
          rw [if_pos rfl]
          exact part_run kStays hN hW hσ t4 fun H5 _ => hQ H5⟩⟩
    | false =>
      rw [if_neg (by decide)]
      exact part_run kStays hN hW hσ rel2.tabs fun H3 t3 => ⟨true, rfl, by
        rw [if_pos rfl]
        exact part_run kCopies hN hW hσ t3 fun H4 t4 => ⟨true, rfl, by
          rw [if_pos rfl]
          exact part_run kTwins hN hW hσ t4 fun H5 _ => hQ H5⟩⟩
  | _ => exact q1.elim
end
end RP

set_option Elab.async false
set_option linter.all false
set_option maxRecDepth 100000
set_option maxHeartbeats 0
/-! RP60: k93 holds. -/
namespace RP
open PySem PySem.Spec PyProof.Rows L2 LamX NdefX

theorem kLaw_gl : k93.gl.lookup ("law" : Str) = some (.fn 82) := by kernel_rfl
/-- the law's promise at the head's heap -/
theorem kAt {P : Program} {w : World} {mg : Str → Option Value} {fa : Addr} {h : Heap} {K : PySem.W.Frag} (KX : K.In h) (c : He.SaysX [] k93.fn kTabs k93.tf kEx w h K) (N : h.Ns mainGlobals mg) (hmg : mg ("law" : Str) = some (.ref fa)) :
    ∃ (fd : FuncData) (cs : List (Addr × Addr)) (sp : Sp), (∀ p ∈ cs, h.get? p.2 = some { cls := .none, data := .fields #[] }) ∧ (∀ p ∈ cs, K.lookup p.2 = none) ∧ (∀ p ∈ cs, PySem.W.CodeHd h p.1 p.2) ∧ (∀ (s : Shared) (u : Value), BindsTo s fd ⟨[u], []⟩ [("script", u)]) ∧
      (∀ (H : Hp) (a : Addr) (ns : List Int), ns.length ≤ 63 → (∀ z ∈ ns, Builtin.Int.intBits z ≤ 1048576) → (∀ p ∈ cs, H p.2 = some (.tbl #[])) → SqL K H a (ns.map V.int) → sp [.ref a] H (fun v _ => v = .bl true) fun _ _ _ => False) ∧
      ∀ base : Heap, K.In base → base.Ns mainGlobals mg → (∀ p ∈ cs, TabB base mg p.1 p.2) → FnOk P w K mg base (L2.CX P w) 51 fa fd ["script"] sp := by
  have cd := c.t.d
  obtain ⟨hf, hc⟩ := He.ba (show (factsB k93 K && (He.tupB K "NEVER" [.str "never"] && He.valsB K (He.ga K "PARTS") (kPairs.map fun q => (q.1, He.Dv.str q.2)))) = true from c.more)
  obtain ⟨hN, hV⟩ := He.ba hc
  have hD : kTabs.map (fun t => He.dicW K (t.1 K)) = kTabs.map fun t => some (He.keysIn w.params t.2) := congrArg (fun z : He.AlT => z.2) c.t
  have hD : He.dicW K (He.ga K "PARTS") = some (He.keysIn w.params (kPairs.map (·.1))) := by
    have z := congrArg List.head? hD
    exact Option.some.inj z
  have hW : WdAt K w (He.ga K "PARTS") (kPairs.map fun q => (q.1, V.str q.2)) := parts_at hD hV (by decide)
  obtain ⟨oc, od, kV, doc, pm, an, cdv, ct, osl, lk, hcd⟩ := def_at cd kLaw_at
  have efa : fa = k93.F K 82 := by
    have hG : GS (kG P w K mg h) := gs_of cd KX N hf
    have z := hmg.symm.trans (hG.ok.fn "law" 82 kLaw_gl)
    cases z
    rfl
  obtain ⟨as, ea, en⟩ := argNames_is kLaw_args
  have cs : ∀ p ∈ k93.tf.map (He.cT K), ∃ q ∈ k93.tf, He.cT K q = p := fun p hp => List.mem_map.mp hp
  refine ⟨_, k93.tf.map (He.cT K), spLaw K, fun p hp => ?_, fun p hp => ?_, fun p hp => ?_, fun s u => BindsTo.of_eq ?_, fun H a ns hl _ hT hS => ⟨a, ns, rfl, hl, hS, fun p hp => ?_, fun _ => rfl⟩, fun base X Nb hT => by rw [efa]; exact law_fnOk cd hf hN hW X Nb hT lk hcd⟩
  · obtain ⟨q, hq, rfl⟩ := cs p hp
    exact c.empty q hq
  · obtain ⟨q, hq, rfl⟩ := cs p hp
    exact c.out q hq
  · obtain ⟨q, hq, rfl⟩ := cs p hp
    exact PySem.W.codeHd_of_K KX (c.hd q hq)
  · have e := bind_plain (fd := PySem.W.fnOf kLaw.name (k93.qual kLaw) kLaw.args kLaw.body kLaw.scope .none kV doc pm an cdv ct) (as := as) (us := [u]) ea rfl (by rw [← en]; decide) (by
      have z := congrArg List.length en
      rw [List.length_map] at z
      exact z)
    rw [← en] at e
    exact e
  · obtain ⟨d, hd, rfl⟩ := List.mem_map.mp hp
    exact TabN.nil (hT _ (List.mem_map.mpr ⟨k93.at_ d, List.mem_map.mpr ⟨d, hd, rfl⟩, rfl⟩))
end RP
open PySem PySem.W PySem.Calls PyProof.Rows
theorem PySem.Challenge.cw_settledby_k93_whole_twins_and_copies_of_holds : PySem.Challenge.rw_settledby_k93_whole_twins_and_copies_of.Holds := by
  w_on; o_law
  refine HandSHeadRun.head_any (r := RP.kRow) (q := PySem.W.view RP.kRow.prog [RP.kLi]) (H := RP.kHook) (ob := RP.kOb) (M := 30000) (loose := RP.kLoose) (d := HandSHeadRun.topDef RP.kRow.prog RP.kLi) (kwd := []) RP.kOb_eq
    (by kernel_rfl) (fun s => by kernel_rfl) RP.kRun (by kernel_rfl) (by kernel_rfl) (by kernel_rfl) (by rfl) (by first | assumption | decide +kernel) (by decide +kernel) ⟨rfl, rfl, rfl, rfl, rfl, by decide +kernel⟩ ?hw ?hc
  case hw => w_witness2
  case hc =>
    refine LamX.walk_ofTsE (l := PySem.Challenge.rw_settledby_k93_whole_twins_and_copies_of) (n := 63) (k := 51) (x := "script") (CX := fun w => L2.CX PySem.Challenge.rw_settledby_k93_whole_twins_and_copies_of.prog w) rfl (by decide) (by kernel_rfl) ⟨rfl, by decide, by decide⟩ ?F (fun _ _ _ _ _ z => RP.cx_no z)
    intro w mg fa h Y N hmg0
    obtain ⟨K, KX, c⟩ := Y
    have hmg : mg ("law" : PySem.Str) = some (.ref fa) := by
      have e : (HandSHeadRun.topDef RP.kRow.prog RP.kLi).name = ("law" : PySem.Str) := by kernel_rfl
      rw [← e]
      exact hmg0
    exact ⟨K, KX, RP.kAt KX c N hmg⟩

