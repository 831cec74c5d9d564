import PyProof.Rows.All
import Wide.All
import OpenK.AllK
import Wide.FinOn
import HandS.ForMost
import HandS.Exc
import HandS.TryOnly
import HandS.TryMany
import HandS.ExcOwn
import HandS.ExcInit
import HandS.WordsExc
import HandS.IsInst
import HandS.Wide
import HandS.WideBits
import HandS.Style
import HandS.Zip
import HandS.TupAny
import HandS.Flow
import HandS.Defaults
import KE.KStateDown
import HandS.More
import HandS.Head0
import HandS.Head1
import HandS.Head2
import HandS.HeadEnd
import HandS.HeadHook1
import HandS.HeadHook2
import HandS.HeadHook3
import HandS.HeadHook4
import HandS.HeadWalk
import HandS.Lambda
import HandS.SortRule
import HandS.SortInts
import PySem.Challenge.RW_ratiohouse_k44_whole_numbers_by_known_te
set_option Elab.async false
set_option linter.all false
set_option maxRecDepth 100000
set_option maxHeartbeats 0
/-! Pv: a small pure language over plain data, its meaning, and (Pv2, Pv3) the proof that what it tells is what the program does. -/
namespace Pv
open PySem

abbrev D := PyData

inductive BOp where
  | add | sub | mul | fdiv | mod | pow | shl | shr | band | bor | bxor
  deriving DecidableEq
inductive COp where
  | eq | ne | lt | le | gt | ge | isin | notin | is | isnot
  deriving DecidableEq
inductive Ty where
  | int | bool | str | tup | lst | dic | non
  deriving DecidableEq
inductive Blt where
  | len | abs | int | tuple | list | sum | min | max | all | any | sorted
  deriving DecidableEq
inductive Tg where
  | n (i : Nat)
  | t (ts : List Nat)
  deriving DecidableEq

mutual
inductive E where
  | nop
  | v (i : Nat)
  | k (d : PyData)
  | g (j : Nat)
  | bin (o : BOp) (a b : E)
  | neg (a : E)
  | not (a : E)
  | and (a b : E)
  | or (a b : E)
  | cmp (o : COp) (a b : E)
  | chain (o p : COp) (a b c : E)
  | ife (c : T) (a b : E)
  | tup (es : Es)
  | lst (es : Es)
  | ix (a i : E)
  | ixv (j : Nat) (i : E)
  | sl (a lo hi : E)
  | slv (j : Nat) (lo hi : E)
  | rev (a : E)
  | call (j : Nat) (es : Es)
  | cio (j : Nat) (i : Nat) (es : Es)
  | craw (j : Nat) (i : Nat)
  | scr (i : Nat) (n : Int)
  | b1 (b : Blt) (a : E)
  | b2 (b : Blt) (a c : E)
  | isi (a : E) (ts : List Ty)
  | lc (elt : E) (tg : Tg) (it : It) (c : T)
inductive Es where
  | nil
  | cons (e : E) (es : Es)
inductive It where
  | rng (es : Es)
  | of (e : E)
  | zip (a b : E)
  | enum (a : E)
inductive T where
  | e (a : E)
  | and (a b : T)
  | or (a b : T)
  | not (a : T)
  | yes
end

mutual
inductive S where
  | asg (t : Tg) (e : E)
  | par (is : List Nat) (es : Es)
  | set (i : Nat) (x e : E)
  | aug (i : Nat) (o : BOp) (e : E)
  | app (i : Nat) (e : E)
  | expr (e : E)
  | ite (c : T) (a b : Ss)
  | whl (c : T) (b : Ss)
  | for_ (t : Tg) (it : It) (b : Ss)
  | ret (e : E)
  | retv (i : Nat)
  | retN
  | raise (c : Nat)
  | raisex (c : Nat) (x : E)
  | pass
  | brk
  | ct
inductive Ss where
  | nil
  | cons (s : S) (r : Ss)
end
def isV : E → Option Nat
  | .v i => some i
  | _ => none

/-! ### values and places -/
/-- a value: plain data, or a list that is new and held by nobody -/
inductive Val where
  | pv (d : D)
  | fr (xs : List D)
def Val.dat : Val → PyData
  | .pv d => d
  | .fr xs => .list xs
@[simp] theorem Val.dat_pv (d : PyData) : (Val.pv d).dat = d := rfl
@[simp] theorem Val.dat_fr (xs : List PyData) : (Val.fr xs).dat = .list xs := rfl
/-- what an operator makes: a list is a new one -/
def frV : PyData → Val
  | .list xs => .fr xs
  | d => .pv d
/-- a name's place: plain data; a list of its own; the caller's list, still its own, or held by others; the script -/
inductive Slot where
  | v (d : D)
  | own (xs : List D)
  | io (xs : List D)
  | fz (xs : List D)
  | raw (xs : List D)
def Slot.dat : Slot → PyData
  | .v d => d
  | .own xs => .list xs
  | .io xs => .list xs
  | .fz xs => .list xs
  | .raw xs => .list xs
/-- what a place becomes when its value is handed on -/
def Slot.frozen : Slot → Slot
  | .v d => .v d
  | .own xs => .v (.list xs)
  | .io xs => .fz xs
  | .fz xs => .fz xs
  | .raw xs => .raw xs
def Slot.free : Slot → Bool
  | .v _ => true
  | .own _ => true
  | _ => false
abbrev Env := List (Option Slot)
def freeAt (ρ : Env) (i : Nat) : Bool := match ρ[i]? with
  | some (some s) => s.free
  | some none => true
  | none => false

inductive R (α : Type) where
  | ok (a : α) (ρ : Env)
  | exc (c : Nat) (x : Option D) (ρ : Env)
  | bad
def R.bind {α β : Type} (r : R α) (f : α → Env → R β) : R β := match r with
  | .ok a ρ => f a ρ
  | .exc c x ρ => .exc c x ρ
  | .bad => .bad
@[simp] theorem R.bind_ok {α β : Type} (a : α) (ρ : Env) (f : α → Env → R β) : (R.ok a ρ).bind f = f a ρ := rfl
@[simp] theorem R.bind_exc {α β : Type} (c : Nat) (x : Option D) (ρ : Env) (f : α → Env → R β) : (R.exc c x ρ).bind f = .exc c x ρ := rfl
@[simp] theorem R.bind_bad {α β : Type} (f : α → Env → R β) : (R.bad : R α).bind f = .bad := rfl
def R.ofO {α : Type} (o : Option α) (ρ : Env) : R α := match o with
  | some a => .ok a ρ
  | none => .bad
@[simp] theorem R.ofO_some {α : Type} (a : α) (ρ : Env) : R.ofO (some a) ρ = .ok a ρ := rfl
@[simp] theorem R.ofO_none {α : Type} (ρ : Env) : R.ofO (none : Option α) ρ = .bad := rfl
inductive SR where
  | nx (ρ : Env)
  | ret (x : Val) (ρ : Env)
  | brk (ρ : Env)
  | ct (ρ : Env)
  | exc (c : Nat) (x : Option D) (ρ : Env)
  | bad
def R.toS {α : Type} (r : R α) (f : α → Env → SR) : SR := match r with
  | .ok a ρ => f a ρ
  | .exc c x ρ => .exc c x ρ
  | .bad => .bad
@[simp] theorem R.toS_ok {α : Type} (a : α) (ρ : Env) (f : α → Env → SR) : (R.ok a ρ).toS f = f a ρ := rfl
@[simp] theorem R.toS_exc {α : Type} (c : Nat) (x : Option D) (ρ : Env) (f : α → Env → SR) : (R.exc c x ρ : R α).toS f = .exc c x ρ := rfl
@[simp] theorem R.toS_bad {α : Type} (f : α → Env → SR) : (R.bad : R α).toS f = .bad := rfl
def SR.bind (r : SR) (f : Env → SR) : SR := match r with
  | .nx ρ => f ρ
  | r => r
@[simp] theorem SR.bind_nx (ρ : Env) (f : Env → SR) : (SR.nx ρ).bind f = f ρ := rfl
@[simp] theorem SR.bind_ret (x : Val) (ρ : Env) (f : Env → SR) : (SR.ret x ρ).bind f = .ret x ρ := rfl
@[simp] theorem SR.bind_brk (ρ : Env) (f : Env → SR) : (SR.brk ρ).bind f = .brk ρ := rfl
@[simp] theorem SR.bind_ct (ρ : Env) (f : Env → SR) : (SR.ct ρ).bind f = .ct ρ := rfl
@[simp] theorem SR.bind_exc (c : Nat) (x : Option D) (ρ : Env) (f : Env → SR) : (SR.exc c x ρ).bind f = .exc c x ρ := rfl
@[simp] theorem SR.bind_bad (f : Env → SR) : SR.bad.bind f = .bad := rfl
/-- what a call gives back: the value, what the caller's list has become -/
inductive FR where
  | ret (x : Val) (o : Option Slot)
  | exc (c : Nat) (x : Option D) (o : Option Slot)
  | bad

/-! ### the operators on data -/
@[irreducible] def BIG : Nat := 2 ^ 1000000
theorem BIG_eq : BIG = 2 ^ 1000000 := by unfold BIG; rfl
@[irreducible] def DIVB : Nat := 2 ^ 9000
theorem DIVB_eq : DIVB = 2 ^ 9000 := by unfold DIVB; rfl
def LIM : Nat := 1000000

def binD : BOp → D → D → Option D
  | .add, .int i, .int j => some (.int (i + j))
  | .add, .str a, .str b => if a.length + b.length ≤ LIM then some (.str (a ++ b)) else none
  | .add, .list xs, .list ys => if xs.length + ys.length ≤ LIM then some (.list (xs ++ ys)) else none
  | .add, .tuple xs, .tuple ys => if xs.length + ys.length ≤ LIM then some (.tuple (xs ++ ys)) else none
  | .sub, .int i, .int j => some (.int (i - j))
  | .mul, .int i, .int j => if i.natAbs < BIG ∧ j.natAbs < BIG then some (.int (i * j)) else none
  | .fdiv, .int i, .int j => if 0 < j ∧ j.natAbs < DIVB then some (.int (i / j)) else if j < 0 ∧ j.natAbs < DIVB then some (.int (i.fdiv j)) else none
  | .mod, .int i, .int j => if 0 < j then some (.int (i % j)) else if j < 0 then some (.int (i.fmod j)) else none
  | .pow, .int i, .int j => if 0 ≤ j ∧ j ≤ 1000000 ∧ i.natAbs < 2 ^ 64 then some (.int (i ^ j.toNat)) else none
  | .shl, .int i, .int j => if 0 ≤ j ∧ j ≤ 1000000 ∧ i.natAbs < 2 ^ 64 then some (.int (i * 2 ^ j.toNat)) else none
  | .shr, .int i, .int j => if 0 ≤ j then some (.int (i / 2 ^ j.toNat)) else none
  | .band, .int i, .int j => some (.int (Builtin.bitAnd i j))
  | .bor, .int i, .int j => some (.int (Builtin.bitOr i j))
  | .bxor, .int i, .int j => some (.int (Builtin.bitXor i j))
  | _, _, _ => none

def shp (d : D) : Bool := SeqAt.shaped d
def intsOf : List D → Option (List Int)
  | [] => some []
  | .int i :: r => (intsOf r).map (i :: ·)
  | _ :: _ => none
def boolsOf : List D → Option (List Bool)
  | [] => some []
  | .bool b :: r => (boolsOf r).map (b :: ·)
  | _ :: _ => none
def lexD (xs ys : List D) : Option Bool := (intsOf xs).bind fun ns => (intsOf ys).map fun ms => HT.lexLt ns ms
def isNo : D → Bool
  | .none => true
  | _ => false
def cmpD : COp → D → D → Option Bool
  | .eq, a, b => if shp a = true ∧ shp b = true then some (PyData.eqv a b) else none
  | .ne, a, b => if shp a = true ∧ shp b = true then some (!PyData.eqv a b) else none
  | .lt, .int i, .int j => some (decide (i < j))
  | .le, .int i, .int j => some (decide (i ≤ j))
  | .gt, .int i, .int j => some (decide (j < i))
  | .ge, .int i, .int j => some (decide (j ≤ i))
  | .lt, .tuple xs, .tuple ys => lexD xs ys
  | .isin, a, .list xs => if shp a = true ∧ shp (.list xs) = true then some (xs.any fun y => PyData.eqv y a) else none
  | .isin, a, .tuple xs => if shp a = true ∧ shp (.tuple xs) = true then some (xs.any fun y => PyData.eqv y a) else none
  | .notin, a, .list xs => if shp a = true ∧ shp (.list xs) = true then some (!xs.any fun y => PyData.eqv y a) else none
  | .notin, a, .tuple xs => if shp a = true ∧ shp (.tuple xs) = true then some (!xs.any fun y => PyData.eqv y a) else none
  | .is, a, .none => some (isNo a)
  | .isnot, a, .none => some (!isNo a)
  | _, _, _ => none

def Ty.is : Ty → D → Bool
  | .int, .int _ => true
  | .int, .bool _ => true
  | .bool, .bool _ => true
  | .str, .str _ => true
  | .tup, .tuple _ => true
  | .lst, .list _ => true
  | .dic, .dict _ => true
  | .non, .none => true
  | _, _ => false

/-- an item by its number, from the end if below 0 -/
def at? (xs : List D) (i : Int) : Option D := L2.atI xs i
def ixD : D → D → Option D
  | .list xs, .int i => at? xs i
  | .tuple xs, .int i => at? xs i
  | .str s, .int i => if s.length ≤ LIM then (L2.atI s.cps.toList i).map fun c => .str ⟨#[c]⟩ else none
  | _, _ => none
def cut {α : Type} (xs : List α) (lo hi : Option Int) : List α := (xs.drop (HT.sIx xs.length 0 lo)).take (HT.sIx xs.length xs.length hi - HT.sIx xs.length 0 lo)
def slD : D → Option Int → Option Int → Option D
  | .list xs, lo, hi => some (.list (cut xs lo hi))
  | .tuple xs, lo, hi => some (.tuple (cut xs lo hi))
  | _, _, _ => none
def revD : D → Option D
  | .list xs => some (.list xs.reverse)
  | .tuple xs => some (.tuple xs.reverse)
  | _ => none

def items : D → Option (List D)
  | .list xs => some xs
  | .tuple xs => some xs
  | _ => none
def leastI : List Int → Int → Int
  | [], m => m
  | x :: r, m => leastI r (if x < m then x else m)
def mostI : List Int → Int → Int
  | [], m => m
  | x :: r, m => mostI r (if m < x then x else m)
def minL : List Int → Option Int
  | [] => none
  | x :: r => some (leastI r x)
def maxL : List Int → Option Int
  | [] => none
  | x :: r => some (mostI r x)
def insI (x : Int) : List Int → List Int
  | [] => [x]
  | y :: r => if x ≤ y then x :: y :: r else y :: insI x r
def sortI : List Int → List Int
  | [] => []
  | x :: r => insI x (sortI r)
def leP (p q : Int × Int) : Bool := decide (p.1 < q.1) || (decide (p.1 = q.1) && decide (p.2 ≤ q.2))
def insP (x : Int × Int) : List (Int × Int) → List (Int × Int)
  | [] => [x]
  | y :: r => if leP x y = true then x :: y :: r else y :: insP x r
def sortP : List (Int × Int) → List (Int × Int)
  | [] => []
  | x :: r => insP x (sortP r)
def prD (p : Int × Int) : D := .tuple [.int p.1, .int p.2]
def pairsOf : List D → Option (List (Int × Int))
  | [] => some []
  | .tuple [.int a, .int b] :: r => (pairsOf r).map ((a, b) :: ·)
  | _ :: _ => none
def sortD (xs : List D) : Option D := match intsOf xs with
  | some ns => some (.list ((sortI ns).map .int))
  | none => (pairsOf xs).map fun ps => .list ((sortP ps).map prD)
def bltD : Blt → List D → Option D
  | .len, [.list xs] => some (.int xs.length)
  | .len, [.tuple xs] => some (.int xs.length)
  | .len, [.str s] => if s.length ≤ LIM then some (.int s.length) else none
  | .abs, [.int i] => some (.int (if i < 0 then -i else i))
  | .int, [.int i] => some (.int i)
  | .int, [.bool b] => some (.int (if b then 1 else 0))
  | .tuple, [.list xs] => some (.tuple xs)
  | .tuple, [.tuple xs] => some (.tuple xs)
  | .list, [.list xs] => some (.list xs)
  | .list, [.tuple xs] => some (.list xs)
  | .sum, [.list xs] => (intsOf xs).map fun ns => .int ns.sum
  | .min, [.list xs] => (intsOf xs).bind fun ns => (minL ns).map .int
  | .max, [.list xs] => (intsOf xs).bind fun ns => (maxL ns).map .int
  | .min, [.int i, .int j] => some (.int (if j < i then j else i))
  | .max, [.int i, .int j] => some (.int (if j > i then j else i))
  | .all, [.list xs] => (boolsOf xs).map fun bs => .bool (bs.all id)
  | .any, [.list xs] => (boolsOf xs).map fun bs => .bool (bs.any id)
  | .sorted, [.list xs] => sortD xs
  | _, _ => none

def rangeD (lo : Int) : Nat → Int → List D
  | 0, _ => []
  | n + 1, c => .int lo :: rangeD (lo + c) n c
/-- what a range hands out: where it begins, how many, the step -/
def rngOf : List D → Option (Int × Nat × Int)
  | [.int j] => if -(2 ^ 62) ≤ j ∧ j < 2 ^ 62 then some (0, j.toNat, 1) else none
  | [.int i, .int j] => if (-(2 ^ 62) ≤ i ∧ i < 2 ^ 62) ∧ (-(2 ^ 62) ≤ j ∧ j < 2 ^ 62) then some (i, (j - i).toNat, 1) else none
  | [.int i, .int j, .int c] => if c = -1 ∧ (-(2 ^ 62) ≤ i ∧ i < 2 ^ 62) ∧ (-(2 ^ 62) ≤ j ∧ j < 2 ^ 62) then some (i, (i - j).toNat, -1) else none
  | _ => none
def enumD (i : Nat) : List D → List D
  | [] => []
  | x :: r => .tuple [.int i, x] :: enumD (i + 1) r
def zipD : List D → List D → List D
  | x :: xs, y :: ys => .tuple [x, y] :: zipD xs ys
  | _, _ => []
def signsD (s : Str) : List D := s.cps.toList.map fun c => .str ⟨#[c]⟩
def walkD : D → Option (List D)
  | .list xs => some xs
  | .tuple xs => some xs
  | .str s => some (signsD s)
  | _ => none

/-! ### the meaning -/
def putV (ρ : Env) (i : Nat) (x : Val) : R Unit := if freeAt ρ i = true then .ok () (ρ.set i (some (match x with | .pv d => .v d | .fr xs => .own xs))) else .bad
def putD (ρ : Env) (i : Nat) (d : D) : R Unit := putV ρ i (.pv d)
def putAll (ρ : Env) : List Nat → List D → R Unit
  | [], [] => .ok () ρ
  | i :: is, d :: ds => (putD ρ i d).bind fun _ ρ => putAll ρ is ds
  | _, _ => .bad
def putT (ρ : Env) : Tg → D → R Unit
  | .n i, d => putD ρ i d
  | .t is, .tuple ds => if ds.length = is.length then putAll ρ is ds else .bad
  | .t is, .list ds => if ds.length = is.length then putAll ρ is ds else .bad
  | _, _ => .bad
def Tg.slots : Tg → List Nat
  | .n i => [i]
  | .t is => is

def wipeE (ρ : Env) : List Nat → Env
  | [] => ρ
  | i :: is => (wipeE ρ is).set i none
def backE (ρ ρ' : Env) : List Nat → Env
  | [] => ρ'
  | i :: is => (backE ρ ρ' is).set i (ρ.getD i none)
def plainAt (ρ : Env) (is : List Nat) : Bool := is.all fun i => match ρ[i]? with
  | some none => true
  | some (some (.v _)) => true
  | _ => false
/-- one turn of a comprehension: its own names apart -/
def lcTurn (tg : Tg) (ev : Env → R (Option D)) (x : D) (ρ : Env) : R (Option D) := if plainAt ρ tg.slots = true then
    (putT (wipeE ρ tg.slots) tg x).bind fun _ ρ2 => (ev ρ2).bind fun o ρ3 => .ok o (backE ρ ρ3 tg.slots)
  else .bad
def consO (o : Option D) (r : List D) : List D := match o with
  | some y => y :: r
  | none => r
@[simp] theorem consO_some (y : D) (r : List D) : consO (some y) r = y :: r := rfl
@[simp] theorem consO_none (r : List D) : consO none r = r := rfl
/-- a list comprehension's turns -/
def lcGo (f : D → Env → R (Option D)) : List D → Env → R (List D)
  | [], ρ => .ok [] ρ
  | x :: xs, ρ => (f x ρ).bind fun o ρ => (lcGo f xs ρ).bind fun r ρ => .ok (consO o r) ρ
def forGo (f : D → Env → SR) : List D → Env → SR
  | [], ρ => .nx ρ
  | x :: xs, ρ => match f x ρ with
    | .nx ρ => forGo f xs ρ
    | .ct ρ => forGo f xs ρ
    | .brk ρ => .nx ρ
    | r => r
def whlF (c : Env → R Bool) (b : Env → SR) : Nat → Env → Option SR
  | 0, _ => none
  | n + 1, ρ => match c ρ with
    | .ok true ρ => (match b ρ with
      | .nx ρ => whlF c b n ρ
      | .ct ρ => whlF c b n ρ
      | .brk ρ => some (.nx ρ)
      | r => some r)
    | .ok false ρ => some (.nx ρ)
    | .exc c x ρ => some (.exc c x ρ)
    | .bad => some .bad
open Classical in
noncomputable def whl (c : Env → R Bool) (b : Env → SR) (ρ : Env) : SR := if h : ∃ n r, whlF c b n ρ = some r then h.choose_spec.choose else .bad
theorem whlF_mono {c : Env → R Bool} {b : Env → SR} : ∀ {n m : Nat} {ρ : Env} {r : SR}, whlF c b n ρ = some r → n ≤ m → whlF c b m ρ = some r
  | 0, _, _, _, h, _ => by cases h
  | n + 1, 0, _, _, _, hm => by omega
  | n + 1, m + 1, ρ, r, h, hm => by
    unfold whlF at h ⊢
    cases hc : c ρ with
    | ok x ρ1 =>
      rw [hc] at h
      cases x with
      | false => exact h
      | true =>
        cases hb : b ρ1 with
        | nx ρ2 => simp only [hb] at h ⊢; exact whlF_mono h (by omega)
        | ct ρ2 => simp only [hb] at h ⊢; exact whlF_mono h (by omega)
        | brk ρ2 => simp only [hb] at h ⊢; exact h
        | ret x ρ2 => simp only [hb] at h ⊢; exact h
        | exc a x ρ2 => simp only [hb] at h ⊢; exact h
        | bad => simp only [hb] at h ⊢; exact h
    | exc a x ρ1 => rw [hc] at h; exact h
    | bad => rw [hc] at h; exact h
theorem whl_of {c : Env → R Bool} {b : Env → SR} {n : Nat} {ρ : Env} {r : SR} (h : whlF c b n ρ = some r) : whl c b ρ = r := by
  have hx : ∃ n r, whlF c b n ρ = some r := ⟨n, r, h⟩
  unfold whl
  rw [dif_pos hx]
  have h2 := hx.choose_spec.choose_spec
  have h3 := whlF_mono h (Nat.le_max_left n hx.choose)
  have h4 := whlF_mono h2 (Nat.le_max_right n hx.choose)
  rw [h3] at h4
  exact (Option.some.inj h4).symm
/-- if it ends other than bad, it ends in some number of turns -/
theorem whl_ends {c : Env → R Bool} {b : Env → SR} {ρ : Env} (h : whl c b ρ ≠ .bad) : ∃ n, whlF c b n ρ = some (whl c b ρ) := by
  unfold whl at h ⊢
  by_cases hx : ∃ n r, whlF c b n ρ = some r
  · rw [dif_pos hx]
    exact ⟨_, hx.choose_spec.choose_spec⟩
  · rw [dif_neg hx] at h
    exact absurd rfl h
theorem whl_step (c : Env → R Bool) (b : Env → SR) (ρ : Env) : whl c b ρ = (match c ρ with
    | .ok true ρ => (match b ρ with
      | .nx ρ => whl c b ρ
      | .ct ρ => whl c b ρ
      | .brk ρ => .nx ρ
      | r => r)
    | .ok false ρ => .nx ρ
    | .exc c x ρ => .exc c x ρ
    | .bad => .bad) := by
  have key : ∀ ρ1 ρ2, c ρ = .ok true ρ1 → (b ρ1 = .nx ρ2 ∨ b ρ1 = .ct ρ2) → whl c b ρ = whl c b ρ2 := fun ρ1 ρ2 hc hb => by
    by_cases hx : ∃ n r, whlF c b n ρ2 = some r
    · obtain ⟨n, r, h⟩ := hx
      rw [whl_of h]
      refine whl_of (n := n + 1) ?_
      unfold whlF
      rcases hb with hb | hb <;> simp only [hc, hb] <;> exact h
    · have hy : ¬ ∃ n r, whlF c b n ρ = some r := fun ⟨n, r, h⟩ => by
        cases n with
        | zero => cases h
        | succ n =>
          unfold whlF at h
          rcases hb with hb | hb <;> simp only [hc, hb] at h <;> exact hx ⟨n, r, h⟩
      unfold whl
      rw [dif_neg hx, dif_neg hy]
  cases hc : c ρ with
  | ok x ρ1 =>
    cases x with
    | false => exact whl_of (n := 1) (by unfold whlF; simp only [hc])
    | true =>
      cases hb : b ρ1 with
      | nx ρ2 => simp only [hb]; exact key ρ1 ρ2 hc (.inl hb)
      | ct ρ2 => simp only [hb]; exact key ρ1 ρ2 hc (.inr hb)
      | brk ρ2 => exact whl_of (n := 1) (by unfold whlF; simp only [hc, hb])
      | ret x ρ2 => exact whl_of (n := 1) (by unfold whlF; simp only [hc, hb])
      | exc a x ρ2 => exact whl_of (n := 1) (by unfold whlF; simp only [hc, hb])
      | bad => exact whl_of (n := 1) (by unfold whlF; simp only [hc, hb])
  | exc a x ρ1 => exact whl_of (n := 1) (by unfold whlF; simp only [hc])
  | bad => exact whl_of (n := 1) (by unfold whlF; simp only [hc])
end Pv
namespace Pv
open PySem
section
/-- the program: what a call gives (by number of def and arguments' places), the module's constants -/
structure Cfg where
  call : Nat → List Slot → FR
  gl : Nat → Option D
variable (C : Cfg)
/-- a name's value handed on -/
def readV (ρ : Env) (i : Nat) : R Val := match ρ[i]? with
  | some (some (.raw _)) => .bad
  | some (some s) => .ok (.pv s.dat) (ρ.set i (some s.frozen))
  | _ => .bad
/-- a name's value looked at -/
def lookV (ρ : Env) (i : Nat) : R D := match ρ[i]? with
  | some (some (.raw _)) => .bad
  | some (some s) => .ok s.dat ρ
  | _ => .bad
def truB : D → Option Bool
  | .none => some false
  | .bool b => some b
  | .int i => some (i != 0)
  | .list xs => some (!xs.isEmpty)
  | .tuple xs => some (!xs.isEmpty)
  | _ => none
def bindD {β : Type} (r : R Val) (f : D → Env → R β) : R β := r.bind fun x ρ => f x.dat ρ
@[simp] theorem bindD_ok {β : Type} (a : Val) (ρ : Env) (f : D → Env → R β) : bindD (R.ok a ρ) f = f a.dat ρ := rfl
@[simp] theorem bindD_exc {β : Type} (c : Nat) (x : Option D) (ρ : Env) (f : D → Env → R β) : bindD (R.exc c x ρ) f = .exc c x ρ := rfl
@[simp] theorem bindD_bad {β : Type} (f : D → Env → R β) : bindD (R.bad) f = .bad := rfl
/-- a value, whoever holds it -/
def dd (r : R Val) : R D := bindD r fun x ρ => .ok x ρ
/-- an operand that is looked at alone -/
def pk (o : Option Nat) (ev : Env → R Val) (ρ : Env) : R D := match o with
  | some i => lookV ρ i
  | none => dd (ev ρ)
/-- behind a call: the caller's place -/
def backS (ρ : Env) : Option Nat → Option Slot → Option Env
  | none, _ => some ρ
  | some i, some s' => (match ρ[i]?, s' with
    | some (some (.own _)), .io xs => some (ρ.set i (some (.own xs)))
    | some (some (.own _)), .fz xs => some (ρ.set i (some (.v (.list xs))))
    | some (some (.io _)), .io xs => some (ρ.set i (some (.io xs)))
    | some (some (.io _)), .fz xs => some (ρ.set i (some (.fz xs)))
    | _, _ => none)
  | some _, none => none
def backR (p : Option Nat) (ρ : Env) : FR → R Val
  | .ret x o => (match backS ρ p o with
    | some ρ => .ok x ρ
    | none => .bad)
  | .exc c x o => (match backS ρ p o with
    | some ρ => .exc c x ρ
    | none => .bad)
  | .bad => .bad
/-- the first argument, where a name with a list of its own stands there -/
def ioArg (ρ : Env) (i : Nat) : Option (List D) := match ρ[i]? with
  | some (some (.own xs)) => some xs
  | some (some (.io xs)) => some xs
  | _ => none
def cioGo (call : List Slot → FR) (i : Nat) (args : Env → R (List D)) (ρ : Env) : R Val := match ioArg ρ i with
  | some _ => (args ρ).bind fun ds ρ => (match ioArg ρ i with
    | some xs => backR (some i) ρ (call (.io xs :: ds.map .v))
    | none => .bad)
  | none => bindD (readV ρ i) fun x ρ => (args ρ).bind fun ds ρ => backR none ρ (call (.v x :: ds.map .v))
def scrV (ρ : Env) (i : Nat) (n : Int) : R Val := match ρ[i]? with
  | some (some (.raw xs)) => .ok (.fr (cut xs none (some n))) ρ
  | _ => .bad
def crawGo (call : List Slot → FR) (i : Nat) (ρ : Env) : R Val := match ρ[i]? with
  | some (some (.raw xs)) => backR none ρ (call [.raw xs])
  | _ => .bad
def negD : D → Option D
  | .int i => some (.int (-i))
  | _ => none
def notD : D → Option D
  | .bool b => some (.bool (!b))
  | _ => none
def andD (x : D) (k : R Val) (ρ : Env) : R Val := match x with
  | .bool true => k
  | .bool false => .ok (.pv (.bool false)) ρ
  | _ => .bad
def orD (x : D) (k : R Val) (ρ : Env) : R Val := match x with
  | .bool false => k
  | .bool true => .ok (.pv (.bool true)) ρ
  | _ => .bad
def chainD (o : Option Bool) (k : R Val) (ρ : Env) : R Val := match o with
  | some true => k
  | some false => .ok (.pv (.bool false)) ρ
  | none => .bad
def isNop : E → Bool
  | .nop => true
  | _ => false
def partO (b : Bool) (x : D) : Option (Option Int) := match b with
  | true => some none
  | false => (match x with
    | .int i => some (some i)
    | _ => none)
def partR (b : Bool) (r : R Val) : R (Option Int) := bindD r fun d ρ => R.ofO (partO b d) ρ
def bltV : Blt → D → Val
  | .list, .list xs => .fr xs
  | .sorted, .list xs => .fr xs
  | _, d => .pv d
def tupV (ds : List D) (ρ : Env) : R Val := if ds.length ≤ LIM then .ok (.pv (.tuple ds)) ρ else .bad
def lstV (ds : List D) (ρ : Env) : R Val := if ds.length ≤ LIM then .ok (.fr ds) ρ else .bad
def lcEnd : R (List D) → R Val
  | .ok ys ρ => lstV ys ρ
  | _ => .bad
def zipO : D → D → Option (List D)
  | .list xs, .list ys => some (zipD xs ys)
  | .tuple xs, .tuple ys => some (zipD xs ys)
  | _, _ => none
def enumO : D → Option (List D)
  | .list xs => some (enumD 0 xs)
  | _ => none
def iteR {β : Type} (t : Bool) (a b : R β) : R β := match t with
  | true => a
  | false => b
@[simp] theorem iteR_t {β : Type} (a b : R β) : iteR true a b = a := rfl
@[simp] theorem iteR_f {β : Type} (a b : R β) : iteR false a b = b := rfl

mutual
noncomputable def evE : E → Env → R Val
  | .nop, ρ => .ok (.pv .none) ρ
  | .v i, ρ => readV ρ i
  | .k d, ρ => .ok (.pv d) ρ
  | .g j, ρ => R.ofO ((C.gl j).map .pv) ρ
  | .bin o a b, ρ => bindD (evE a ρ) fun x ρ => bindD (evE b ρ) fun y ρ => R.ofO ((binD o x y).map frV) ρ
  | .neg a, ρ => bindD (evE a ρ) fun x ρ => R.ofO ((negD x).map .pv) ρ
  | .not a, ρ => bindD (evE a ρ) fun x ρ => R.ofO ((notD x).map .pv) ρ
  | .and a b, ρ => bindD (evE a ρ) fun x ρ => andD x (evE b ρ) ρ
  | .or a b, ρ => bindD (evE a ρ) fun x ρ => orD x (evE b ρ) ρ
  | .cmp o a b, ρ => bindD (evE a ρ) fun x ρ => (pk (isV b) (fun ρ => evE b ρ) ρ).bind fun y ρ => R.ofO ((cmpD o x y).map fun b => .pv (.bool b)) ρ
  | .chain o p a b c, ρ => bindD (evE a ρ) fun x ρ => bindD (evE b ρ) fun y ρ => chainD (cmpD o x y) (bindD (evE c ρ) fun z ρ => R.ofO ((cmpD p y z).map fun b => .pv (.bool b)) ρ) ρ
  | .ife c a b, ρ => (evT c ρ).bind fun t ρ => iteR t (evE a ρ) (evE b ρ)
  | .tup es, ρ => (evA es ρ).bind fun ds ρ => tupV ds ρ
  | .lst es, ρ => (evA es ρ).bind fun ds ρ => lstV ds ρ
  | .ix a i, ρ => bindD (evE a ρ) fun x ρ => bindD (evE i ρ) fun y ρ => R.ofO ((ixD x y).map .pv) ρ
  | .ixv j i, ρ => (lookV ρ j).bind fun _ ρ => bindD (evE i ρ) fun y ρ => (lookV ρ j).bind fun x ρ => R.ofO ((ixD x y).map .pv) ρ
  | .sl a lo hi, ρ => bindD (evE a ρ) fun x ρ => (partR (isNop lo) (evE lo ρ)).bind fun l ρ => (partR (isNop hi) (evE hi ρ)).bind fun h ρ => R.ofO ((slD x l h).map frV) ρ
  | .slv j lo hi, ρ => (lookV ρ j).bind fun _ ρ => (partR (isNop lo) (evE lo ρ)).bind fun l ρ => (partR (isNop hi) (evE hi ρ)).bind fun h ρ => (lookV ρ j).bind fun x ρ => R.ofO ((slD x l h).map frV) ρ
  | .rev a, ρ => (pk (isV a) (fun ρ => evE a ρ) ρ).bind fun x ρ => R.ofO ((revD x).map frV) ρ
  | .call j es, ρ => (evA es ρ).bind fun ds ρ => backR none ρ (C.call j (ds.map .v))
  | .cio j i es, ρ => cioGo (C.call j) i (fun ρ => evA es ρ) ρ
  | .craw j i, ρ => crawGo (C.call j) i ρ
  | .scr i n, ρ => scrV ρ i n
  | .b1 b a, ρ => (pk (isV a) (fun ρ => evE a ρ) ρ).bind fun x ρ => R.ofO ((bltD b [x]).map (bltV b)) ρ
  | .b2 b a c, ρ => bindD (evE a ρ) fun x ρ => bindD (evE c ρ) fun y ρ => R.ofO ((bltD b [x, y]).map .pv) ρ
  | .isi a ts, ρ => (pk (isV a) (fun ρ => evE a ρ) ρ).bind fun x ρ => .ok (.pv (.bool (ts.any fun t => t.is x))) ρ
  | .lc elt tg it c, ρ => (evI it ρ).bind fun xs ρ => lcEnd (lcGo (lcTurn tg fun ρ => (evT c ρ).bind fun t ρ => iteR t (bindD (evE elt ρ) fun y ρ => .ok (some y) ρ) (.ok none ρ)) xs ρ)
noncomputable def evT : T → Env → R Bool
  | .e a, ρ => (pk (isV a) (fun ρ => evE a ρ) ρ).bind fun x ρ => R.ofO (truB x) ρ
  | .and a b, ρ => (evT a ρ).bind fun x ρ => iteR x (evT b ρ) (.ok false ρ)
  | .or a b, ρ => (evT a ρ).bind fun x ρ => iteR x (.ok true ρ) (evT b ρ)
  | .not a, ρ => (evT a ρ).bind fun x ρ => .ok (!x) ρ
  | .yes, ρ => .ok true ρ
noncomputable def evA : Es → Env → R (List D)
  | .nil, ρ => .ok [] ρ
  | .cons e es, ρ => bindD (evE e ρ) fun x ρ => (evA es ρ).bind fun xs ρ => .ok (x :: xs) ρ
noncomputable def evI : It → Env → R (List D)
  | .rng es, ρ => (evA es ρ).bind fun ds ρ => R.ofO ((rngOf ds).map fun p => rangeD p.1 p.2.1 p.2.2) ρ
  | .of e, ρ => bindD (evE e ρ) fun x ρ => R.ofO (walkD x) ρ
  | .zip a b, ρ => bindD (evE a ρ) fun x ρ => bindD (evE b ρ) fun y ρ => R.ofO (zipO x y) ρ
  | .enum a, ρ => bindD (evE a ρ) fun x ρ => R.ofO (enumO x) ρ
end

/-! ### statements -/
def iteS (t : Bool) (a b : SR) : SR := match t with
  | true => a
  | false => b
@[simp] theorem iteS_t (a b : SR) : iteS true a b = a := rfl
@[simp] theorem iteS_f (a b : SR) : iteS false a b = b := rfl
def setAt? (xs : List D) (i : Int) (d : D) : Option (List D) := (L2.ixN xs.length i).map fun j => xs.set j d
def putX (ρ : Env) (i : Nat) (x d : D) : SR := match ρ[i]?, x with
  | some (some (.own xs)), .int j => (match setAt? xs j d with
    | some ys => .nx (ρ.set i (some (.own ys)))
    | none => .bad)
  | some (some (.io xs)), .int j => (match setAt? xs j d with
    | some ys => .nx (ρ.set i (some (.io ys)))
    | none => .bad)
  | _, _ => .bad
def addX (ρ : Env) (i : Nat) (d : D) : SR := match ρ[i]? with
  | some (some (.own xs)) => if xs.length < LIM then .nx (ρ.set i (some (.own (xs ++ [d])))) else .bad
  | some (some (.io xs)) => if xs.length < LIM then .nx (ρ.set i (some (.io (xs ++ [d])))) else .bad
  | _ => .bad
def toNx (r : R Unit) : SR := r.toS fun _ ρ => .nx ρ
def asgV (ρ : Env) : Tg → Val → SR
  | .n i, x => toNx (putV ρ i x)
  | t, x => toNx (putT ρ t x.dat)
/-- the def's end by a name's value: its own list goes out with nobody else holding it -/
def retV (ρ : Env) (i : Nat) : SR := match ρ[i]? with
  | some (some (.own xs)) => .ret (.fr xs) (ρ.set i none)
  | some (some (.raw _)) => .bad
  | some (some s) => .ret (.pv s.dat) (ρ.set i (some s.frozen))
  | _ => .bad
def augD : BOp → D → D → Option D
  | .add, .int i, .int j => some (.int (i + j))
  | .sub, .int i, .int j => some (.int (i - j))
  | _, _, _ => none
mutual
noncomputable def evS : S → Env → SR
  | .asg t e, ρ => (evE C e ρ).toS fun x ρ => asgV ρ t x
  | .par is es, ρ => (evA C es ρ).toS fun ds ρ => toNx (putAll ρ is ds)
  | .set i x e, ρ => (bindD (evE C e ρ) fun d ρ => (lookV ρ i).bind fun _ ρ => bindD (evE C x ρ) fun j ρ => .ok (d, j) ρ).toS fun p ρ => putX ρ i p.2 p.1
  | .aug i o e, ρ => ((lookV ρ i).bind fun x ρ => bindD (evE C e ρ) fun y ρ => R.ofO (augD o x y) ρ).toS fun z ρ => toNx (putD ρ i z)
  | .app i e, ρ => (R.ofO (ioArg ρ i) ρ).toS fun _ ρ => (dd (evE C e ρ)).toS fun y ρ => addX ρ i y
  | .expr e, ρ => (evE C e ρ).toS fun _ ρ => .nx ρ
  | .ite c a b, ρ => (evT C c ρ).toS fun t ρ => iteS t (evSs a ρ) (evSs b ρ)
  | .whl c b, ρ => Pv.whl (fun ρ => evT C c ρ) (fun ρ => evSs b ρ) ρ
  | .for_ t it b, ρ => (evI C it ρ).toS fun xs ρ => forGo (fun x ρ => (putT ρ t x).toS fun _ ρ => evSs b ρ) xs ρ
  | .ret e, ρ => (evE C e ρ).toS fun x ρ => .ret x ρ
  | .retv i, ρ => retV ρ i
  | .retN, ρ => .ret (.pv .none) ρ
  | .raise c, ρ => .exc c none ρ
  | .raisex _ _, _ => .bad
  | .pass, ρ => .nx ρ
  | .brk, ρ => .brk ρ
  | .ct, ρ => .ct ρ
noncomputable def evSs : Ss → Env → SR
  | .nil, ρ => .nx ρ
  | .cons s r, ρ => (evS s ρ).bind fun ρ => evSs r ρ
end
end

/-! ### defs -/
/-- a def: how many parameters, how many names, its body -/
structure Fn where
  ar : Nat
  nl : Nat
  body : Ss
def outOf (as : List Slot) (ρ : Env) : Option (Option Slot) := match as with
  | .io _ :: _ => (match ρ.getD 0 none with
    | some (.io xs) => some (some (.io xs))
    | some (.fz xs) => some (some (.fz xs))
    | _ => none)
  | _ => some none
def finR (as : List Slot) : SR → FR
  | .nx ρ => (match outOf as ρ with
    | some o => .ret (.pv .none) o
    | none => .bad)
  | .ret x ρ => (match outOf as ρ with
    | some o => .ret x o
    | none => .bad)
  | .exc c x ρ => (match outOf as ρ with
    | some o => .exc c x o
    | none => .bad)
  | _ => .bad
def argOk : List Slot → Bool
  | [] => true
  | .v _ :: r => r.all fun s => match s with
    | .v _ => true
    | _ => false
  | .io _ :: r => r.all fun s => match s with
    | .v _ => true
    | _ => false
  | [.raw _] => true
  | _ => false
/-- a def's run, calls nested n deep at the most -/
noncomputable def run (P : List Fn) (gl : Nat → Option D) : Nat → Nat → List Slot → FR
  | 0, _, _ => .bad
  | n + 1, j, as => match P[j]? with
    | some f => if as.length = f.ar ∧ argOk as = true then finR as (evSs ⟨run P gl n, gl⟩ f.body (as.map some ++ List.replicate (f.nl - f.ar) none)) else .bad
    | none => .bad
end Pv

namespace Pv
open PySem L2

/-! ### what stands for what -/
def Ex (H H' : Hp) : Prop := ∀ a o, H a = some o → H' a = some o
theorem Ex.refl (H : Hp) : Ex H H := fun _ _ h => h
theorem Ex.trans {H H1 H2 : Hp} (a : Ex H H1) (b : Ex H1 H2) : Ex H H2 := fun x o h => b x o (a x o h)
theorem Ex.new {H : Hp} {p : Addr} {o : HO} (h : H p = none) : Ex H (upd H p o) := fun a u e => by
  rw [upd_ne (ne_of_none e h)]
  exact e
theorem Ex.rd {H H' : Hp} {a : Addr} {u : HO} (e : Ex H H') (h : Rd H a u) : Rd H' a u := by
  rcases h with h | ⟨o, h⟩
  · exact Or.inl (e a _ h)
  · exact Or.inr ⟨o, e a _ h⟩
theorem Ex.sqL {K : PySem.W.Frag} {H H' : Hp} {a : Addr} {xs : List V} (e : Ex H H') (h : SqL K H a xs) : SqL K H' a xs := by
  rcases h with h | h
  · exact Or.inl (e.rd h)
  · exact Or.inr h
theorem Ex.sqT {K : PySem.W.Frag} {H H' : Hp} {a : Addr} {xs : List V} (e : Ex H H') (h : SqT K H a xs) : SqT K H' a xs := by
  rcases h with h | h
  · exact Or.inl (e.rd h)
  · exact Or.inr h
mutual
inductive Rep (K : PySem.W.Frag) (F : Hp) : V → D → Prop
  | non : Rep K F .non .none
  | bl (b : Bool) : Rep K F (.bl b) (.bool b)
  | int (i : Int) : Rep K F (.int i) (.int i)
  | str (x : Str) : Rep K F (.str x) (.str x)
  | lst {a : Addr} {us : List V} {ds : List D} : Rd F a (.lst us) → Reps K F us ds → Rep K F (.ref a) (.list ds)
  | tup {a : Addr} {us : List V} {ds : List D} : SqT K F a us → Reps K F us ds → Rep K F (.ref a) (.tuple ds)
inductive Reps (K : PySem.W.Frag) (F : Hp) : List V → List D → Prop
  | nil : Reps K F [] []
  | cons {v : V} {vs : List V} {d : D} {ds : List D} : Rep K F v d → Reps K F vs ds → Reps K F (v :: vs) (d :: ds)
end
section
variable {K : PySem.W.Frag} {F F' : Hp}
mutual
theorem Rep.mono (e : Ex F F') : ∀ {v : V} {d : D}, Rep K F v d → Rep K F' v d
  | _, _, .non => .non
  | _, _, .bl b => .bl b
  | _, _, .int i => .int i
  | _, _, .str x => .str x
  | _, _, .lst h hs => .lst (e.rd h) (Reps.mono e hs)
  | _, _, .tup h hs => .tup (e.sqT h) (Reps.mono e hs)
theorem Reps.mono (e : Ex F F') : ∀ {vs : List V} {ds : List D}, Reps K F vs ds → Reps K F' vs ds
  | _, _, .nil => .nil
  | _, _, .cons h hs => .cons (Rep.mono e h) (Reps.mono e hs)
end
mutual
theorem Rep.dp : ∀ {v : V} {d : D}, Rep K F v d → Dp K F v d
  | _, _, .non => .non
  | _, _, .bl b => .bl b
  | _, _, .int i => .int i
  | _, _, .str x => .str x
  | _, _, .lst h hs => .lst (.inl h) (Reps.dp hs)
  | _, _, .tup h hs => .tup h (Reps.dp hs)
theorem Reps.dp : ∀ {vs : List V} {ds : List D}, Reps K F vs ds → DpAll K F vs ds
  | _, _, .nil => .nil
  | _, _, .cons h hs => .cons (Rep.dp h) (Reps.dp hs)
end
theorem Reps.length : ∀ {vs : List V} {ds : List D}, Reps K F vs ds → vs.length = ds.length
  | _, _, .nil => rfl
  | _, _, .cons _ hs => by rw [List.length_cons, List.length_cons, Reps.length hs]
theorem Reps.append : ∀ {vs : List V} {ds : List D} {us : List V} {es : List D}, Reps K F vs ds → Reps K F us es → Reps K F (vs ++ us) (ds ++ es)
  | _, _, _, _, .nil, h => h
  | _, _, _, _, .cons a b, h => .cons a (Reps.append b h)
theorem Reps.get : ∀ {vs : List V} {ds : List D} {i : Nat} {d : D}, Reps K F vs ds → ds[i]? = some d → ∃ v, vs[i]? = some v ∧ Rep K F v d
  | _, _, _, _, .nil, e => by simp at e
  | _, _, 0, d, .cons h _, e => ⟨_, rfl, by simp at e; subst e; exact h⟩
  | _, _, i + 1, d, .cons _ hs, e => by
    obtain ⟨v, h1, h2⟩ := Reps.get (i := i) (d := d) hs (by simpa using e)
    exact ⟨v, by simpa using h1, h2⟩
theorem Reps.getV : ∀ {vs : List V} {ds : List D} {i : Nat} {v : V}, Reps K F vs ds → vs[i]? = some v → ∃ d, ds[i]? = some d ∧ Rep K F v d
  | _, _, _, _, .nil, e => by simp at e
  | _, _, 0, d, .cons h _, e => ⟨_, rfl, by simp at e; subst e; exact h⟩
  | _, _, i + 1, d, .cons _ hs, e => by
    obtain ⟨v, h1, h2⟩ := Reps.getV (i := i) (v := d) hs (by simpa using e)
    exact ⟨v, by simpa using h1, h2⟩
theorem Reps.take : ∀ {vs : List V} {ds : List D} (n : Nat), Reps K F vs ds → Reps K F (vs.take n) (ds.take n)
  | _, _, 0, _ => .nil
  | _, _, _ + 1, .nil => .nil
  | _, _, n + 1, .cons h hs => .cons h (Reps.take n hs)
theorem Reps.drop : ∀ {vs : List V} {ds : List D} (n : Nat), Reps K F vs ds → Reps K F (vs.drop n) (ds.drop n)
  | _, _, 0, h => h
  | _, _, _ + 1, .nil => .nil
  | _, _, n + 1, .cons h hs => Reps.drop n hs
theorem Reps.set : ∀ {vs : List V} {ds : List D} {v : V} {d : D} (n : Nat), Rep K F v d → Reps K F vs ds → Reps K F (vs.set n v) (ds.set n d)
  | _, _, _, _, _, _, .nil => .nil
  | _, _, _, _, 0, h, .cons _ hs => .cons h hs
  | _, _, _, _, n + 1, h, .cons a hs => .cons a (Reps.set n h hs)
theorem Reps.reverse : ∀ {vs : List V} {ds : List D}, Reps K F vs ds → Reps K F vs.reverse ds.reverse
  | _, _, .nil => .nil
  | _, _, .cons h hs => by rw [List.reverse_cons, List.reverse_cons]; exact Reps.append (Reps.reverse hs) (.cons h .nil)
theorem Reps.atI {vs : List V} {ds : List D} {i : Int} {d : D} (h : Reps K F vs ds) (e : L2.atI ds i = some d) : ∃ v, L2.atI vs i = some v ∧ Rep K F v d := by
  unfold L2.atI at e ⊢
  rw [h.length]
  cases hj : L2.ixN ds.length i with
  | none => rw [hj] at e; cases e
  | some j =>
    rw [hj] at e
    exact h.get e
theorem Reps.one {v : V} {d : D} (h : Rep K F v d) : Reps K F [v] [d] := .cons h .nil
theorem Rep.int_inv {v : V} {i : Int} (h : Rep K F v (.int i)) : v = .int i := by cases h; rfl
theorem Rep.bool_inv {v : V} {b : Bool} (h : Rep K F v (.bool b)) : v = .bl b := by cases h; rfl
theorem Rep.str_inv {v : V} {x : Str} (h : Rep K F v (.str x)) : v = .str x := by cases h; rfl
theorem Rep.none_inv {v : V} (h : Rep K F v .none) : v = .non := by cases h; rfl
theorem Rep.list_inv {v : V} {ds : List D} (h : Rep K F v (.list ds)) : ∃ a us, v = .ref a ∧ Rd F a (.lst us) ∧ Reps K F us ds := by
  cases h with
  | lst h hs => exact ⟨_, _, rfl, h, hs⟩
theorem Rep.tup_inv {v : V} {ds : List D} (h : Rep K F v (.tuple ds)) : ∃ a us, v = .ref a ∧ SqT K F a us ∧ Reps K F us ds := by
  cases h with
  | tup h hs => exact ⟨_, _, rfl, h, hs⟩
theorem Reps.intsOf : ∀ {vs : List V} {ds : List D} {ns : List Int}, Reps K F vs ds → Pv.intsOf ds = some ns → vs = ns.map V.int
  | _, _, _, .nil, e => by cases e; rfl
  | _, d :: ds, ns, .cons h hs, e => by
    cases d with
    | int i =>
      have e' : (Pv.intsOf ds).map (i :: ·) = some ns := e
      cases hr : Pv.intsOf ds with
      | none => rw [hr] at e'; cases e'
      | some ms =>
        rw [hr] at e'
        cases e'
        rw [h.int_inv, Reps.intsOf hs hr]
        rfl
    | _ => cases e
theorem Reps.boolsOf : ∀ {vs : List V} {ds : List D} {ns : List Bool}, Reps K F vs ds → Pv.boolsOf ds = some ns → vs = ns.map V.bl
  | _, _, _, .nil, e => by cases e; rfl
  | _, d :: ds, ns, .cons h hs, e => by
    cases d with
    | bool i =>
      have e' : (Pv.boolsOf ds).map (i :: ·) = some ns := e
      cases hr : Pv.boolsOf ds with
      | none => rw [hr] at e'; cases e'
      | some ms =>
        rw [hr] at e'
        cases e'
        rw [h.bool_inv, Reps.boolsOf hs hr]
        rfl
    | _ => cases e
end

/-- what is looked at: known, or a list that stands there now, its items known -/
def PkR (K : PySem.W.Frag) (F H : Hp) (v : V) (d : D) : Prop := Rep K F v d ∨ ∃ p us xs, v = .ref p ∧ d = .list xs ∧ H p = some (.lst us) ∧ Reps K F us xs
section
variable {K : PySem.W.Frag} {F H : Hp} {v : V} {d : D}
theorem PkR.rep (e : Ex F H) (h : PkR K F H v d) : Rep K H v d := by
  rcases h with h | ⟨p, us, xs, rfl, rfl, h1, h2⟩
  · exact h.mono e
  · exact .lst (.inl h1) (Reps.mono e h2)
theorem PkR.list {xs : List D} (e : Ex F H) (h : PkR K F H v (.list xs)) : ∃ a us, v = .ref a ∧ Rd H a (.lst us) ∧ Reps K F us xs := by
  rcases h with h | ⟨p, us, ys, rfl, e2, h1, h2⟩
  · obtain ⟨a, us, rfl, h1, h2⟩ := h.list_inv
    exact ⟨a, us, rfl, e.rd h1, h2⟩
  · cases e2
    exact ⟨p, us, rfl, .inl h1, h2⟩
theorem PkR.plain (h : PkR K F H v d) (hd : ∀ xs, d ≠ .list xs) : Rep K F v d := by
  rcases h with h | ⟨p, us, ys, rfl, e2, h1, h2⟩
  · exact h
  · exact absurd e2 (hd ys)
end

/-! ### the state -/
/-- where a def's (or a block's) run began: what is known and shall stay, the heap, what may change, the caller's list -/
structure Ent where
  F0 : Hp
  H0 : Hp
  M : Addr → Prop
  pI : Option Addr
def Slot.isM : Slot → Bool
  | .own _ => true
  | .io _ => true
  | _ => false
def SlotR (K : PySem.W.Frag) (e : Ent) (F H : Hp) : Slot → V → Prop
  | .v d, v => Rep K F v d
  | .own xs, v => ∃ p us, v = .ref p ∧ F p = none ∧ H p = some (.lst us) ∧ Reps K F us xs ∧ (e.M p ∨ e.H0 p = none) ∧ e.pI ≠ some p
  | .io xs, v => ∃ p us, v = .ref p ∧ F p = none ∧ H p = some (.lst us) ∧ Reps K F us xs ∧ e.M p ∧ e.pI = some p
  | .fz xs, v => ∃ p, v = .ref p ∧ e.pI = some p ∧ Rep K F v (.list xs)
  | .raw xs, v => ∃ p us, v = .ref p ∧ SqL K F p us ∧ Reps K F us xs
structure Rel (K : PySem.W.Frag) (e : Ent) (F H : Hp) (ρ : Env) (σ : L2.St) : Prop where
  len : ρ.length = σ.length
  sub0 : Ex e.F0 F
  sub : Ex F H
  slot : ∀ (i : Nat) (s : Slot), ρ[i]? = some (some s) → ∃ v, σ[i]? = some (some v) ∧ SlotR K e F H s v
  dis : ∀ (i j : Nat) (s t : Slot) (p : Addr), i ≠ j → ρ[i]? = some (some s) → ρ[j]? = some (some t) → s.isM = true → t.isM = true → σ[i]? = some (some (.ref p)) → σ[j]? ≠ some (some (.ref p))
  frm : ∀ a o, e.H0 a = some o → ¬ e.M a → H a = some o
  old : ∀ a, e.F0 a = none → e.H0 a ≠ none → ¬ e.M a → F a = none
  mh : ∀ p, e.M p → H p ≠ none
  pm : ∀ p, e.pI = some p → e.M p
/-- nothing that may change is at p -/
def Apart (ρ : Env) (σ : L2.St) (p : Addr) : Prop := ∀ (i : Nat) (s : Slot), ρ[i]? = some (some s) → s.isM = true → σ[i]? ≠ some (some (.ref p))
def VR (K : PySem.W.Frag) (e : Ent) (F H : Hp) (ρ : Env) (σ : L2.St) (v : V) : Val → Prop
  | .pv d => Rep K F v d
  | .fr xs => ∃ p us, v = .ref p ∧ F p = none ∧ H p = some (.lst us) ∧ Reps K F us xs ∧ e.H0 p = none ∧ ¬ e.M p ∧ e.pI ≠ some p ∧ Apart ρ σ p
section
variable {K : PySem.W.Frag} {e : Ent} {F F' H H' : Hp} {ρ ρ' : Env} {σ σ' : L2.St} {v : V} {p : Addr} {i : Nat} {s : Slot}
/-- what is known grows by an object that H has, that is nobody's own -/
theorem Rel.grow {o : HO} (r : Rel K e F H ρ σ) (hF : F p = none) (hH : H p = some o) (h0 : e.H0 p = none ∨ e.M p) (ap : Apart ρ σ p) : Rel K e (upd F p o) H ρ σ where
  len := r.len
  sub0 := r.sub0.trans (Ex.new hF)
  sub := fun a u h => by
    by_cases ha : a = p
    · subst ha; rw [upd_same] at h; cases h; exact hH
    · rw [upd_ne ha] at h; exact r.sub a u h
  slot := fun i s hs => by
    obtain ⟨v, hv, q⟩ := r.slot i s hs
    refine ⟨v, hv, ?_⟩
    cases s with
    | v d => exact Rep.mono (Ex.new hF) q
    | own xs =>
      obtain ⟨b, us, rfl, q1, q2, q3, q4⟩ := q
      have hb : b ≠ p := fun z => ap i _ hs rfl (by rw [hv, z])
      exact ⟨b, us, rfl, by rw [upd_ne hb]; exact q1, q2, Reps.mono (Ex.new hF) q3, q4⟩
    | io xs =>
      obtain ⟨b, us, rfl, q1, q2, q3, q4⟩ := q
      have hb : b ≠ p := fun z => ap i _ hs rfl (by rw [hv, z])
      exact ⟨b, us, rfl, by rw [upd_ne hb]; exact q1, q2, Reps.mono (Ex.new hF) q3, q4⟩
    | fz xs =>
      obtain ⟨b, rfl, q1, q2⟩ := q
      exact ⟨b, rfl, q1, Rep.mono (Ex.new hF) q2⟩
    | raw xs =>
      obtain ⟨b, us, rfl, q1, q2⟩ := q
      exact ⟨b, us, rfl, (Ex.new hF).sqL q1, Reps.mono (Ex.new hF) q2⟩
  dis := r.dis
  frm := r.frm
  old := fun a h1 h2 h3 => by
    have ha : a ≠ p := fun z => by
      subst z
      rcases h0 with h0 | h0
      · exact h2 h0
      · exact h3 h0
    rw [upd_ne ha]
    exact r.old a h1 h2 h3
  mh := r.mh
  pm := r.pm
/-- a new object is laid in the heap -/
theorem Rel.laid {o : HO} (r : Rel K e F H ρ σ) (hH : H p = none) : Rel K e F (upd H p o) ρ σ where
  len := r.len
  sub0 := r.sub0
  sub := r.sub.trans (Ex.new hH)
  slot := fun i s hs => by
    obtain ⟨v, hv, q⟩ := r.slot i s hs
    refine ⟨v, hv, ?_⟩
    cases s with
    | v d => exact q
    | own xs =>
      obtain ⟨b, us, rfl, q1, q2, q3, q4⟩ := q
      exact ⟨b, us, rfl, q1, Ex.new hH _ _ q2, q3, q4⟩
    | io xs =>
      obtain ⟨b, us, rfl, q1, q2, q3, q4⟩ := q
      exact ⟨b, us, rfl, q1, Ex.new hH _ _ q2, q3, q4⟩
    | fz xs => exact q
    | raw xs => exact q
  dis := r.dis
  frm := fun a u h1 h2 => Ex.new hH _ _ (r.frm a u h1 h2)
  old := r.old
  mh := fun q hq => by
    cases h : H q with
    | none => exact absurd h (r.mh q hq)
    | some u => rw [Ex.new hH q u h]; exact fun z => nomatch z
  pm := r.pm
theorem Rel.noneF (r : Rel K e F H ρ σ) (hH : H p = none) : F p = none := by
  cases h : F p with
  | none => rfl
  | some o => rw [r.sub p o h] at hH; cases hH
theorem Rel.apart (r : Rel K e F H ρ σ) (hH : H p = none) : Apart ρ σ p := fun i s hs hm hv => by
  obtain ⟨v, hv', q⟩ := r.slot i s hs
  rw [hv] at hv'
  cases hv'
  cases s with
  | v d => cases hm
  | own xs =>
    obtain ⟨b, us, eb, q1, q2, _⟩ := q
    cases eb
    rw [hH] at q2; cases q2
  | io xs =>
    obtain ⟨b, us, eb, q1, q2, _⟩ := q
    cases eb
    rw [hH] at q2; cases q2
  | fz xs => cases hm
  | raw xs => cases hm
theorem Rel.none0 (r : Rel K e F H ρ σ) (hH : H p = none) : e.H0 p = none ∨ e.M p := by
  cases h : e.H0 p with
  | none => exact .inl rfl
  | some o =>
    refine .inr (Classical.byContradiction fun hm => ?_)
    rw [r.frm p o h hm] at hH
    cases hH
theorem Rel.fresh (r : Rel K e F H ρ σ) (hH : H p = none) : ¬ e.M p ∧ e.pI ≠ some p := ⟨fun h => r.mh p h hH, fun h => r.mh p (r.pm p h) hH⟩
/-- a new list, tuple laid and known -/
theorem Rel.new {o : HO} (r : Rel K e F H ρ σ) (hH : H p = none) : Rel K e (upd F p o) (upd H p o) ρ σ :=
  (r.laid hH).grow (r.noneF hH) upd_same (r.none0 hH) (r.apart hH)
theorem getElem_set_ne {α : Type} {l : List α} {i j : Nat} {a : α} (h : i ≠ j) : (l.set i a)[j]? = l[j]? := List.getElem?_set_ne h
/-- a place's value is handed on: whoever holds it, nobody changes it any more -/
theorem Rel.freeze (r : Rel K e F H ρ σ) (hs : ρ[i]? = some (some s)) (hn : ∀ xs, s ≠ .raw xs) : ∃ F' v, Ex F F' ∧ σ[i]? = some (some v) ∧ Rep K F' v s.dat ∧ Rel K e F' H (ρ.set i (some s.frozen)) σ := by
  obtain ⟨v, hv, q⟩ := r.slot i s hs
  have hi : i < ρ.length := (List.getElem?_eq_some_iff.mp hs).1
  have hset : ∀ t, (ρ.set i (some t))[i]? = some (some t) := fun t => by rw [List.getElem?_set_self hi]
  cases s with
  | raw xs => exact absurd rfl (hn xs)
  | v d =>
    refine ⟨F, v, Ex.refl F, hv, q, ?_⟩
    have e1 : ρ.set i (some (Slot.v d).frozen) = ρ := by
      show ρ.set i (some (.v d)) = ρ
      apply List.ext_getElem?
      intro j
      by_cases hj : i = j
      · subst hj; rw [hset, hs]
      · rw [List.getElem?_set_ne hj]
    rw [e1]
    exact r
  | fz xs =>
    obtain ⟨p, rfl, q1, q2⟩ := q
    refine ⟨F, .ref p, Ex.refl F, hv, q2, ?_⟩
    have e1 : ρ.set i (some (Slot.fz xs).frozen) = ρ := by
      show ρ.set i (some (.fz xs)) = ρ
      apply List.ext_getElem?
      intro j
      by_cases hj : i = j
      · subst hj; rw [hset, hs]
      · rw [List.getElem?_set_ne hj]
    rw [e1]
    exact r
  | own xs =>
    obtain ⟨p, us, rfl, q1, q2, q3, q4, q5⟩ := q
    have hrep : Rep K (upd F p (.lst us)) (.ref p) (.list xs) := .lst (.inl upd_same) (Reps.mono (Ex.new q1) q3)
    refine ⟨upd F p (.lst us), .ref p, Ex.new q1, hv, hrep, ?_⟩
    have ρ0 : Rel K e F H (ρ.set i none) σ :=
      ⟨by rw [List.length_set]; exact r.len, r.sub0, r.sub, fun j t ht => by
        by_cases hj : i = j
        · subst hj; rw [List.getElem?_set_self hi] at ht; cases ht
        · rw [List.getElem?_set_ne hj] at ht; exact r.slot j t ht, fun j k t u b hjk h1 h2 => by
        by_cases hj : i = j
        · subst hj; rw [List.getElem?_set_self hi] at h1; cases h1
        · by_cases hk : i = k
          · subst hk; rw [List.getElem?_set_self hi] at h2; cases h2
          · rw [List.getElem?_set_ne hj] at h1; rw [List.getElem?_set_ne hk] at h2; exact r.dis j k t u b hjk h1 h2, r.frm, r.old, r.mh, r.pm⟩
    have ap : Apart (ρ.set i none) σ p := fun j t ht hm hvj => by
      by_cases hj : i = j
      · subst hj; rw [List.getElem?_set_self hi] at ht; cases ht
      · rw [List.getElem?_set_ne hj] at ht
        exact r.dis i j _ t p hj hs ht rfl hm hv hvj
    have r1 := ρ0.grow q1 q2 q4.symm ap
    refine ⟨by rw [List.length_set]; exact r.len, r1.sub0, r1.sub, fun j t ht => ?_, fun j k t u b hjk h1 h2 m1 m2 => ?_, r1.frm, r1.old, r1.mh, r1.pm⟩
    · by_cases hj : i = j
      · subst hj; rw [hset] at ht; cases ht; exact ⟨_, hv, hrep⟩
      · rw [List.getElem?_set_ne hj] at ht; exact r1.slot j t (by rw [List.getElem?_set_ne hj]; exact ht)
    · by_cases hj : i = j
      · subst hj; rw [hset] at h1; cases h1; cases m1
      · by_cases hk : i = k
        · subst hk; rw [hset] at h2; cases h2; cases m2
        · rw [List.getElem?_set_ne hj] at h1; rw [List.getElem?_set_ne hk] at h2; exact r.dis j k t u b hjk h1 h2 m1 m2
  | io xs =>
    obtain ⟨p, us, rfl, q1, q2, q3, q4, q5⟩ := q
    have hrep : Rep K (upd F p (.lst us)) (.ref p) (.list xs) := .lst (.inl upd_same) (Reps.mono (Ex.new q1) q3)
    refine ⟨upd F p (.lst us), .ref p, Ex.new q1, hv, hrep, ?_⟩
    have ρ0 : Rel K e F H (ρ.set i none) σ :=
      ⟨by rw [List.length_set]; exact r.len, r.sub0, r.sub, fun j t ht => by
        by_cases hj : i = j
        · subst hj; rw [List.getElem?_set_self hi] at ht; cases ht
        · rw [List.getElem?_set_ne hj] at ht; exact r.slot j t ht, fun j k t u b hjk h1 h2 => by
        by_cases hj : i = j
        · subst hj; rw [List.getElem?_set_self hi] at h1; cases h1
        · by_cases hk : i = k
          · subst hk; rw [List.getElem?_set_self hi] at h2; cases h2
          · rw [List.getElem?_set_ne hj] at h1; rw [List.getElem?_set_ne hk] at h2; exact r.dis j k t u b hjk h1 h2, r.frm, r.old, r.mh, r.pm⟩
    have ap : Apart (ρ.set i none) σ p := fun j t ht hm hvj => by
      by_cases hj : i = j
      · subst hj; rw [List.getElem?_set_self hi] at ht; cases ht
      · rw [List.getElem?_set_ne hj] at ht
        exact r.dis i j _ t p hj hs ht rfl hm hv hvj
    have r1 := ρ0.grow q1 q2 (.inr q4) ap
    refine ⟨by rw [List.length_set]; exact r.len, r1.sub0, r1.sub, fun j t ht => ?_, fun j k t u b hjk h1 h2 m1 m2 => ?_, r1.frm, r1.old, r1.mh, r1.pm⟩
    · by_cases hj : i = j
      · subst hj; rw [hset] at ht; cases ht; exact ⟨_, hv, p, rfl, q5, hrep⟩
      · rw [List.getElem?_set_ne hj] at ht; exact r1.slot j t (by rw [List.getElem?_set_ne hj]; exact ht)
    · by_cases hj : i = j
      · subst hj; rw [hset] at h1; cases h1; cases m1
      · by_cases hk : i = k
        · subst hk; rw [hset] at h2; cases h2; cases m2
        · rw [List.getElem?_set_ne hj] at h1; rw [List.getElem?_set_ne hk] at h2; exact r.dis j k t u b hjk h1 h2 m1 m2
/-- a place's value is looked at, as the heap has it now -/
theorem Rel.look (r : Rel K e F H ρ σ) (hs : ρ[i]? = some (some s)) (hn : ∀ xs, s ≠ .raw xs) : ∃ v, σ[i]? = some (some v) ∧ PkR K F H v s.dat := by
  obtain ⟨v, hv, q⟩ := r.slot i s hs
  refine ⟨v, hv, ?_⟩
  cases s with
  | raw xs => exact absurd rfl (hn xs)
  | v d => exact .inl q
  | own xs =>
    obtain ⟨p, us, rfl, q1, q2, q3, _⟩ := q
    exact .inr ⟨p, us, xs, rfl, rfl, q2, q3⟩
  | io xs =>
    obtain ⟨p, us, rfl, q1, q2, q3, _⟩ := q
    exact .inr ⟨p, us, xs, rfl, rfl, q2, q3⟩
  | fz xs =>
    obtain ⟨p, rfl, q1, q2⟩ := q
    exact .inl q2
theorem VR.freeze {x : Val} (r : Rel K e F H ρ σ) (q : VR K e F H ρ σ v x) : ∃ F', Ex F F' ∧ Rep K F' v x.dat ∧ Rel K e F' H ρ σ := by
  cases x with
  | pv d => exact ⟨F, Ex.refl F, q, r⟩
  | fr xs =>
    obtain ⟨p, us, rfl, q1, q2, q3, q4, q5, q6, q7⟩ := q
    exact ⟨upd F p (.lst us), Ex.new q1, .lst (.inl upd_same) (Reps.mono (Ex.new q1) q3), r.grow q1 q2 (.inl q4) q7⟩
end
end Pv

namespace Pv
open PySem L2 PyProof.Rows

/-! ### readings -/
section
variable (K : PySem.W.Frag) (xa : Nat → Addr) (W : WX)
def Post (e : Ent) (σ : L2.St) (F : Hp) {α : Type} (r : R α) (Q : α → Env → Hp → Hp → Prop) : Prop := match r with
  | .ok a ρ' => ∀ F' H', Ex F F' → Rel K e F' H' ρ' σ → Q a ρ' F' H'
  | .exc c none ρ' => ∀ F' H', Ex F F' → Rel K e F' H' ρ' σ → W (.ref (xa c)) none σ H'
  | .exc _ (some _) _ => False
  | .bad => False
def tV (ev : Env → R Val) : TE := fun σ H Q => ∃ e F ρ, Rel K e F H ρ σ ∧ Post K xa W e σ F (ev ρ) fun x ρ' F' H' => ∀ v, VR K e F' H' ρ' σ v x → Q v H'
def tD (ev : Env → R D) : TE := fun σ H Q => ∃ e F ρ, Rel K e F H ρ σ ∧ Post K xa W e σ F (ev ρ) fun d ρ' F' H' => ∀ v, Rep K F' v d → Q v H'
def tP (ev : Env → R D) : TE := fun σ H Q => ∃ e F ρ, Rel K e F H ρ σ ∧ Post K xa W e σ F (ev ρ) fun d ρ' F' H' => ∀ v, PkR K F' H' v d → Q v H'
def tBo (ev : Env → R Bool) : TT := fun σ H Q => ∃ e F ρ, Rel K e F H ρ σ ∧ Post K xa W e σ F (ev ρ) fun b ρ' F' H' => Q b H'
def tL (ev : Env → R (List D)) : TA := fun σ H Q => ∃ e F ρ, Rel K e F H ρ σ ∧ Post K xa W e σ F (ev ρ) fun ds ρ' F' H' => ∀ vs, Reps K F' vs ds → Q vs H'
end
section
variable {K : PySem.W.Frag} {xa : Nat → Addr} {W : WX} {e : Ent} {σ : L2.St} {F F1 H : Hp} {α β : Type} {r : R α} {Q Q' : α → Env → Hp → Hp → Prop}
theorem Post.imp (h : Post K xa W e σ F r Q) (k : ∀ a ρ F' H', Ex F F' → Rel K e F' H' ρ σ → Q a ρ F' H' → Q' a ρ F' H') : Post K xa W e σ F r Q' := by
  cases r with
  | ok a ρ => exact fun F' H' ex rel => k a ρ F' H' ex rel (h F' H' ex rel)
  | exc c x ρ =>
    cases x with
    | none => exact h
    | some d => exact h
  | bad => exact h
theorem Post.weak (ex : Ex F F1) (h : Post K xa W e σ F r Q) : Post K xa W e σ F1 r Q := by
  cases r with
  | ok a ρ => exact fun F' H' ex' rel => h F' H' (ex.trans ex') rel
  | exc c x ρ =>
    cases x with
    | none => exact fun F' H' ex' rel => h F' H' (ex.trans ex') rel
    | some d => exact h
  | bad => exact h
theorem Post.bind {f : α → Env → R β} {Q : β → Env → Hp → Hp → Prop} (h : Post K xa W e σ F (r.bind f) Q) : Post K xa W e σ F r fun a ρ1 F1 H1 => Post K xa W e σ F1 (f a ρ1) Q := by
  cases r with
  | ok a ρ => exact fun F' H' ex rel => Post.weak (r := f a ρ) ex h
  | exc c x ρ =>
    cases x with
    | none => exact h
    | some d => exact h
  | bad => exact h
theorem Post.ofO {o : Option α} {ρ : Env} (h : Post K xa W e σ F (R.ofO o ρ) Q) : ∃ a, o = some a ∧ ∀ F' H', Ex F F' → Rel K e F' H' ρ σ → Q a ρ F' H' := by
  cases o with
  | none => exact h.elim
  | some a => exact ⟨a, rfl, h⟩
end
theorem bindD_dd {β : Type} (r : R Val) (f : D → Env → R β) : bindD r f = (dd r).bind f := by
  cases r <;> rfl
theorem dd_eq (r : R Val) : (bindD r fun x ρ => R.ok x ρ) = dd r := rfl
section
variable {X : Cx} {a : Expr} {t t' : TE}
theorem pe_weak (h : PE X a t) (k : ∀ σ H Q, t' σ H Q → t σ H Q) : PE X a t' := ⟨fun pins s σ H Q I hq => h.run pins s σ H Q I (k σ H Q hq)⟩
theorem pt_weak {t t' : TT} (h : PT X a t) (k : ∀ σ H Q, t' σ H Q → t σ H Q) : PT X a t' := ⟨fun pins s σ H Q I hq => h.run pins s σ H Q I (k σ H Q hq)⟩
theorem pw_weak {t t' : TT} (h : PW X a t) (k : ∀ σ H Q, t' σ H Q → t σ H Q) : PW X a t' := ⟨fun w pins s σ H Q I hq => h.run w pins s σ H Q I (k σ H Q hq)⟩
theorem pa_weak {as : List Expr} {t t' : TA} (h : PA X as t) (k : ∀ σ H Q, t' σ H Q → t σ H Q) : PA X as t' := ⟨fun pos pins s σ H Q I hq => h.run pos pins s σ H Q I (k σ H Q hq)⟩
theorem pi_weak {tg : Expr} {t t' : TI} (h : PI X tg a t) (k : ∀ σ H Q, t' σ H Q → t σ H Q) : PI X tg a t' := ⟨fun pins s σ H Q I hq => h.run pins s σ H Q I (k σ H Q hq)⟩
theorem ps_weak {st : Stmt} {t t' : TS} (h : PS X st t) (k : ∀ D σ H, t' D σ H → t D σ H) : PS X st t' := ⟨fun pins s σ H D I hq => h.run pins s σ H D I (k D σ H hq)⟩
theorem pss_weak {st : List Stmt} {t t' : TS} (h : PSs X st t) (k : ∀ D σ H, t' D σ H → t D σ H) : PSs X st t' := ⟨fun pins s σ H D I hq => h.run pins s σ H D I (k D σ H hq)⟩
theorem pi_or {tg : Expr} {t t' : TI} (h : PI X tg a t) (h' : PI X tg a t') : PI X tg a (fun σ H R => t σ H R ∨ t' σ H R) := ⟨fun pins s σ H Q I hq => hq.elim (h.run pins s σ H Q I) (h'.run pins s σ H Q I)⟩
variable {xa : Nat → Addr} {W : WX} {ev : Env → R Val}
theorem pe_toD (h : PE X a (tV X.K xa W ev)) : PE X a (tD X.K xa W fun ρ => dd (ev ρ)) := by
  refine pe_weak h fun σ H Q ⟨e, F, ρ, rel, post⟩ => ⟨e, F, ρ, rel, ?_⟩
  refine (Post.bind post).imp fun x ρ1 F1 H1 ex1 rel1 q v hv => ?_
  obtain ⟨F2, ex2, rep, rel2⟩ := hv.freeze rel1
  exact q F2 H1 ex2 rel2 v rep
theorem pe_toP (h : PE X a (tV X.K xa W ev)) : PE X a (tP X.K xa W fun ρ => dd (ev ρ)) := by
  refine pe_weak (pe_toD h) fun σ H Q ⟨e, F, ρ, rel, post⟩ => ⟨e, F, ρ, rel, ?_⟩
  exact post.imp fun d ρ1 F1 H1 ex1 rel1 q v hv => q v (.inl hv)
/-- an operand that is looked at alone: a name as it stands -/
theorem pe_look {i : Nat} (h : PE X a (tVar i)) : PE X a (tP X.K xa W fun ρ => lookV ρ i) := by
  refine pe_weak h fun σ H Q ⟨e, F, ρ, rel, post⟩ => ?_
  have post : Post X.K xa W e σ F (lookV ρ i) _ := post
  unfold lookV at post
  split at post
  · exact post.elim
  · rename_i s hn hs
    obtain ⟨v, hv, rep⟩ := rel.look hs (fun xs z => hn xs (by rw [z]))
    exact ⟨v, hv, post F H (Ex.refl F) rel v rep⟩
  · exact post.elim
theorem pe_read {i : Nat} (h : PE X a (tVar i)) : PE X a (tV X.K xa W fun ρ => readV ρ i) := by
  refine pe_weak h fun σ H Q ⟨e, F, ρ, rel, post⟩ => ?_
  have post : Post X.K xa W e σ F (readV ρ i) _ := post
  unfold readV at post
  split at post
  · exact post.elim
  · rename_i s hn hs
    obtain ⟨F', v, ex, hv, rep, rel'⟩ := rel.freeze hs (fun xs z => hn xs (by rw [z]))
    exact ⟨v, hv, post F' H ex rel' v rep⟩
  · exact post.elim
/-- a value that is known as it stands -/
theorem pe_const {v : V} {d : D} (h : PE X a (tC v)) (r : ∀ F, Rep X.K F v d) : PE X a (tV X.K xa W fun ρ => .ok (.pv d) ρ) :=
  pe_weak h fun σ H Q ⟨e, F, ρ, rel, post⟩ => post F H (Ex.refl F) rel v (r F)
end

theorem frNew {e : Ent} {F H : Hp} {ρ : Env} {σ : L2.St} {p : Addr} {us : List V} {ds : List D} {K : PySem.W.Frag} (rel : Rel K e F H ρ σ) (hp : H p = none) (h : Reps K F us ds) : VR K e F (upd H p (.lst us)) ρ σ (.ref p) (.fr ds) :=
  ⟨p, us, rfl, rel.noneF hp, upd_same, h, (rel.none0 hp).resolve_right (rel.fresh hp).1, (rel.fresh hp).1, (rel.fresh hp).2, rel.apart hp⟩
/-! ### operators: what the layer's rule asks is there where the data's operator answers -/
/-- the answer is plain data again -/
def OpS (X : Cx) (f : Value → Value → Sem Value) (g : D → D → Option D) : Prop := ∃ r : R2, OpR X f r ∧ ∀ (e : Ent) (F H : Hp) (ρ : Env) (σ : L2.St) (dx dy z : D) (x y : V) (Q : VK), g dx dy = some z → Rel X.K e F H ρ σ → Rep X.K F x dx → Rep X.K F y dy →
  (∀ F' H' v, Ex F F' → Rel X.K e F' H' ρ σ → VR X.K e F' H' ρ σ v (frV z) → Q v H') → r x y H Q
/-- .. of things looked at: the answer hangs on nothing in the heap -/
def OpP (X : Cx) (f : Value → Value → Sem Value) (g : D → D → Option Bool) : Prop := ∃ r : R2, OpR X f r ∧ ∀ (H : Hp) (dx dy : D) (b : Bool) (x y : V) (Q : VK), g dx dy = some b → Rep X.K H x dx → Rep X.K H y dy → Q (.bl b) H → r x y H Q
section
variable {X : Cx} {a b : Expr} {xa : Nat → Addr} {W : WX} {pos : Pos}
theorem pe_binS {op : Operator} {g : D → D → Option D} {ea eb : Env → R Val} (o : OpS X (binaryOp op) g) (ha : PE X a (tV X.K xa W ea)) (hb : PE X b (tV X.K xa W eb)) :
    PE X (.BinOp a op b pos) (tV X.K xa W fun ρ => bindD (ea ρ) fun x ρ => bindD (eb ρ) fun y ρ => R.ofO ((g x y).map frV) ρ) := by
  obtain ⟨r, ho, k⟩ := o
  refine pe_weak (pe_op ho (pe_toD ha) (pe_toD hb)) fun σ H Q ⟨e, F, ρ, rel, post⟩ => ?_
  simp only [bindD_dd] at post
  refine ⟨e, F, ρ, rel, (Post.bind post).imp fun dx ρ1 F1 H1 ex1 rel1 q x hx => ⟨e, F1, ρ1, rel1, (Post.bind q).imp fun dy ρ2 F2 H2 ex2 rel2 q2 y hy => ?_⟩⟩
  obtain ⟨z, hz, q3⟩ := q2.ofO
  obtain ⟨w, hw, rfl⟩ := Option.map_eq_some_iff.mp hz
  exact k e F2 H2 ρ2 σ dx dy w x y Q hw rel2 (hx.mono ex2) hy fun F' H' v ex rel' rep => q3 F' H' ex rel' v rep
theorem pe_cmpP {op : CmpOp} {g : D → D → Option Bool} {ea : Env → R Val} {eb : Env → R D} (o : OpP X (compareOp op) g) (ha : PE X a (tV X.K xa W ea)) (hb : PE X b (tP X.K xa W eb)) (hm : behindInMarks op b = false) :
    PE X (.Compare a [op] [b] pos) (tV X.K xa W fun ρ => bindD (ea ρ) fun x ρ => (eb ρ).bind fun y ρ => R.ofO ((g x y).map fun b => .pv (.bool b)) ρ) := by
  obtain ⟨r, ho, k⟩ := o
  refine pe_weak (pe_cmpR ho (pe_toD ha) hb hm) fun σ H Q ⟨e, F, ρ, rel, post⟩ => ?_
  simp only [bindD_dd] at post
  refine ⟨e, F, ρ, rel, (Post.bind post).imp fun dx ρ1 F1 H1 ex1 rel1 q x hx => ⟨e, F1, ρ1, rel1, (Post.bind q).imp fun dy ρ2 F2 H2 ex2 rel2 q2 y hy => ?_⟩⟩
  obtain ⟨z, hz, q3⟩ := q2.ofO
  obtain ⟨w, hw, rfl⟩ := Option.map_eq_some_iff.mp hz
  exact k H2 dx dy w x y Q hw ((hx.mono ex2).mono rel2.sub) (hy.rep rel2.sub) (q3 F2 H2 (Ex.refl _) rel2 _ (.bl w))
theorem pe_chainP {c : Expr} {op op' : CmpOp} {g g' : D → D → Option Bool} {ea eb ec : Env → R Val} (o : OpP X (compareOp op) g) (o' : OpP X (compareOp op') g') (ha : PE X a (tV X.K xa W ea)) (hb : PE X b (tV X.K xa W eb)) (hc : PE X c (tV X.K xa W ec))
    (hm : lastMarks [op, op'] [b, c] = false) :
    PE X (.Compare a [op, op'] [b, c] pos) (tV X.K xa W fun ρ => bindD (ea ρ) fun x ρ => bindD (eb ρ) fun y ρ => chainD (g x y) (bindD (ec ρ) fun z ρ => R.ofO ((g' y z).map fun b => .pv (.bool b)) ρ) ρ) := by
  obtain ⟨r, ho, k⟩ := o
  obtain ⟨r', ho', k'⟩ := o'
  refine pe_weak (pe_chain ho ho' (pe_toD ha) (pe_toD hb) (pe_toD hc) hm) fun σ H Q ⟨e, F, ρ, rel, post⟩ => ?_
  simp only [bindD_dd] at post
  refine ⟨e, F, ρ, rel, (Post.bind post).imp fun dx ρ1 F1 H1 ex1 rel1 q x hx => ⟨e, F1, ρ1, rel1, (Post.bind q).imp fun dy ρ2 F2 H2 ex2 rel2 q2 y hy => ?_⟩⟩
  cases hg : g dx dy with
  | none => rw [hg] at q2; exact q2.elim
  | some w =>
    refine k H2 dx dy w x y _ hg ((hx.mono ex2).mono rel2.sub) (hy.mono rel2.sub) ⟨w, rfl, ?_⟩
    rw [hg] at q2
    cases w with
    | false => exact q2 F2 H2 (Ex.refl _) rel2 _ (.bl false)
    | true =>
      refine ⟨e, F2, ρ2, rel2, (Post.bind q2).imp fun dz ρ3 F3 H3 ex3 rel3 q3 z hz => ?_⟩
      obtain ⟨u, hu, q4⟩ := q3.ofO
      obtain ⟨w', hw', rfl⟩ := Option.map_eq_some_iff.mp hu
      exact k' H3 dy dz w' y z Q hw' ((hy.mono ex3).mono rel3.sub) (hz.mono rel3.sub) (q4 F3 H3 (Ex.refl _) rel3 _ (.bl w'))
end
section
variable {X : Cx}
theorem OpS.or {f : Value → Value → Sem Value} {g g' k : D → D → Option D} (h : OpS X f g) (h' : OpS X f g') (hk : ∀ x y z, k x y = some z → g x y = some z ∨ g' x y = some z) : OpS X f k := by
  obtain ⟨r, ho, q⟩ := h
  obtain ⟨r', ho', q'⟩ := h'
  refine ⟨_, ho.or ho', fun e F H ρ σ dx dy z x y Q hz rel rx ry c => ?_⟩
  rcases hk dx dy z hz with hz | hz
  · exact .inl (q e F H ρ σ dx dy z x y Q hz rel rx ry c)
  · exact .inr (q' e F H ρ σ dx dy z x y Q hz rel rx ry c)
theorem OpP.or {f : Value → Value → Sem Value} {g g' k : D → D → Option Bool} (h : OpP X f g) (h' : OpP X f g') (hk : ∀ x y z, k x y = some z → g x y = some z ∨ g' x y = some z) : OpP X f k := by
  obtain ⟨r, ho, q⟩ := h
  obtain ⟨r', ho', q'⟩ := h'
  refine ⟨_, ho.or ho', fun H dx dy z x y Q hz rx ry c => ?_⟩
  rcases hk dx dy z hz with hz | hz
  · exact .inl (q H dx dy z x y Q hz rx ry c)
  · exact .inr (q' H dx dy z x y Q hz rx ry c)
/-- an operator on two ints, where C holds of them -/
def gI (C : Int → Int → Prop) [∀ i j, Decidable (C i j)] (f : Int → Int → Int) : D → D → Option D
  | .int i, .int j => if C i j then some (.int (f i j)) else none
  | _, _ => none
theorem ops_int {f : Value → Value → Sem Value} {C : Int → Int → Prop} [∀ i j, Decidable (C i j)] {C' : Int → Int → Prop} {g : Int → Int → Int} (ho : OpR X f (rI C' fun i j => .int (g i j))) (hc : ∀ i j, C i j → C' i j) : OpS X f (gI C g) := by
  refine ⟨_, ho, fun e F H ρ σ dx dy z x y Q hz rel rx ry c => ?_⟩
  unfold gI at hz
  split at hz
  · rename_i i j
    split at hz
    · rename_i hh
      cases hz
      exact ⟨i, j, rx.int_inv, ry.int_inv, hc i j hh, c F H _ (Ex.refl F) rel (.int _)⟩
    · cases hz
  · cases hz
theorem ops_int0 {f : Value → Value → Sem Value} {g : Int → Int → Int} (ho : OpR X f (rI0 fun i j => .int (g i j))) : OpS X f (gI (fun _ _ => True) g) := by
  refine ⟨_, ho, fun e F H ρ σ dx dy z x y Q hz rel rx ry c => ?_⟩
  unfold gI at hz
  split at hz
  · rename_i i j
    cases hz
    exact ⟨i, j, rx.int_inv, ry.int_inv, c F H _ (Ex.refl F) rel (.int _)⟩
  · cases hz
theorem log2_big {n : Nat} {k : Nat} (h0 : 0 < k) (h : n < 2 ^ k) : n.log2 < k := PySem.Flt.log2_lt_of h0 h
theorem lim_size {n : Nat} (h : n ≤ LIM) : n ≤ sizeLine := Nat.le_trans h (by decide)
theorem lim_lt {n : Nat} (h : n < LIM) : n < sizeLine := Nat.lt_of_lt_of_le h (by decide)
theorem bigMul {i j : Int} (hi : i.natAbs < BIG) (hj : j.natAbs < BIG) : CMulX i j := by
  rw [BIG_eq] at hi hj
  exact mulx_ok hi hj (by decide)
theorem op_mulS : OpS X (binaryOp .Mult) (gI (fun i j => i.natAbs < BIG ∧ j.natAbs < BIG) (· * ·)) := ops_int op_mulX fun i j h => bigMul h.1 h.2
theorem op_divS : OpS X (binaryOp .FloorDiv) (gI (fun _ j => 0 < j ∧ j.natAbs < DIVB) (· / ·)) := ops_int op_fdivW fun i j h => ⟨h.1, log2_big (by decide) (by rw [← DIVB_eq]; exact h.2)⟩
theorem op_fdivAny : OpR X (binaryOp .FloorDiv) (rI (fun _ j => j ≠ 0 ∧ j.natAbs.log2 < 9000) fun i j => .int (i.fdiv j)) := opI fun _ _ _ _ _ _ _ hc q =>
  floordiv_int hc.1 q (.inl (PyProof.noPylong_of_log2 hc.2))
theorem op_divN : OpS X (binaryOp .FloorDiv) (gI (fun _ j => j < 0 ∧ j.natAbs < DIVB) Int.fdiv) := ops_int op_fdivAny fun i j h => ⟨by omega, log2_big (by decide) (by rw [← DIVB_eq]; exact h.2)⟩
theorem op_modS : OpS X (binaryOp .Mod) (gI (fun _ j => 0 < j) (· % ·)) := ops_int op_mod fun i j h => h
theorem op_modSN : OpS X (binaryOp .Mod) (gI (fun _ j => j < 0) Int.fmod) := ops_int op_modN fun i j h => by omega
theorem op_powS : OpS X (binaryOp .Pow) (gI (fun i j => 0 ≤ j ∧ j ≤ 1000000 ∧ i.natAbs < 2 ^ 64) fun i j => i ^ j.toNat) := ops_int op_pow fun i j h => h
theorem op_shlS : OpS X (binaryOp .LShift) (gI (fun i j => 0 ≤ j ∧ j ≤ 1000000 ∧ i.natAbs < 2 ^ 64) fun i j => i * 2 ^ j.toNat) := ops_int op_shl fun i j h => h
theorem op_shrS : OpS X (binaryOp .RShift) (gI (fun _ j => 0 ≤ j) fun i j => i / 2 ^ j.toNat) := ops_int op_shr fun i j h => h
/-- + of texts, lists, tuples -/
def gStr : D → D → Option D
  | .str a, .str b => if a.length + b.length ≤ LIM then some (.str (a ++ b)) else none
  | _, _ => none
theorem op_strS : OpS X (binaryOp .Add) gStr := by
  refine ⟨_, op_add_str, fun e F H ρ σ dx dy z x y Q hz rel rx ry c => ?_⟩
  unfold gStr at hz
  split at hz
  · split at hz
    · rename_i hh
      cases hz
      exact ⟨_, _, rx.str_inv, ry.str_inv, lim_size hh, c F H _ (Ex.refl F) rel (.str _)⟩
    · cases hz
  · cases hz
def gTup : D → D → Option D
  | .tuple xs, .tuple ys => if xs.length + ys.length ≤ LIM then some (.tuple (xs ++ ys)) else none
  | _, _ => none
theorem op_tupS : OpS X (binaryOp .Add) gTup := by
  refine ⟨_, op_catA, fun e F H ρ σ dx dy z x y Q hz rel rx ry c => ?_⟩
  unfold gTup at hz
  split at hz
  · rename_i xs ys
    split at hz
    · rename_i hh
      cases hz
      obtain ⟨a, us, rfl, ha, hs⟩ := rx.tup_inv
      obtain ⟨b, ws, rfl, hb, ht⟩ := ry.tup_inv
      refine ⟨a, b, us, ws, rfl, rfl, rel.sub.sqT ha, rel.sub.sqT hb, by rw [hs.length, ht.length]; exact lim_size hh, fun e1 => ?_, fun e1 e2 => ?_, fun e1 e2 p hp => ?_⟩
      · subst e1
        cases hs
        exact c F H _ (Ex.refl F) rel (show Rep X.K F (.ref b) (.tuple ([] ++ ys)) from ry)
      · subst e2
        cases ht
        exact c F H _ (Ex.refl F) rel (show Rep X.K F (.ref a) (.tuple (xs ++ [])) by rw [List.append_nil]; exact rx)
      · have hF := rel.noneF hp
        exact c _ _ _ (Ex.new hF) (rel.new hp) (.tup (.inl (.inl upd_same)) (Reps.mono (Ex.new hF) (hs.append ht)))
    · cases hz
  · cases hz
/-- a list that is known as it stands -/
theorem rd_list {X : Cx} {pins : List (Addr × Obj)} {σ : L2.St} {H : Hp} {s : Shared} {a : Addr} {xs : List V} (I : Inv X pins σ H s) (h : Rd H a (.lst xs)) : xs.length ≤ sizeLine ∧ ∃ (its : List Value) (n : Nat), Vals xs its ∧ s.heap.get? a = some { cls := .type "list", data := .seq its.toArray n } := h.ok I.hok
def rCatL : R2 := fun x y H Q => ∃ l b xs zs, x = .ref l ∧ y = .ref b ∧ Rd H l (.lst xs) ∧ Rd H b (.lst zs) ∧ xs.length + zs.length ≤ sizeLine ∧ ∀ p, H p = none → Q (.ref p) (upd H p (.lst (xs ++ zs)))
theorem op_catL : OpR X (binaryOp .Add) rCatL := by
  intro pins s σ H x y v u Q I rx ry h
  obtain ⟨l, b, xs, zs, rfl, rfl, hH, hB, hz, q⟩ := h
  cases rx
  cases ry
  obtain ⟨z, its, n, r, e⟩ := rd_list I hH
  obtain ⟨z2, its2, n2, r2, e2⟩ := rd_list I hB
  have hl := r.length
  have hl2 := r2.length
  refine PySem.P.add_list e e2 ?_ (by rw [List.size_toArray, List.size_toArray]; omega)
  have ea : its.toArray ++ its2.toArray = (its ++ its2).toArray := by simp
  rw [ea]
  exact ⟨.ref _, _, I.lnew (t' := s.toks) (r.append r2) (by rw [List.length_append]; omega), rfl, q _ I.fresh⟩
def gLst : D → D → Option D
  | .list xs, .list ys => if xs.length + ys.length ≤ LIM then some (.list (xs ++ ys)) else none
  | _, _ => none
theorem op_lstS : OpS X (binaryOp .Add) gLst := by
  refine ⟨_, op_catL, fun e F H ρ σ dx dy z x y Q hz rel rx ry c => ?_⟩
  unfold gLst at hz
  split at hz
  · rename_i xs ys
    split at hz
    · rename_i hh
      cases hz
      obtain ⟨a, us, rfl, ha, hs⟩ := rx.list_inv
      obtain ⟨b, ws, rfl, hb, ht⟩ := ry.list_inv
      refine ⟨a, b, us, ws, rfl, rfl, rel.sub.rd ha, rel.sub.rd hb, by rw [hs.length, ht.length]; exact lim_size hh, fun p hp => ?_⟩
      have hF := rel.noneF hp
      exact c _ _ _ (Ex.refl F) (rel.laid hp) (frNew rel hp (hs.append ht))
    · cases hz
  · cases hz
def opOf : BOp → Operator
  | .add => .Add
  | .sub => .Sub
  | .mul => .Mult
  | .fdiv => .FloorDiv
  | .mod => .Mod
  | .pow => .Pow
  | .shl => .LShift
  | .shr => .RShift
  | .band => .BitAnd
  | .bor => .BitOr
  | .bxor => .BitXor
theorem OpS.of {f : Value → Value → Sem Value} {g k : D → D → Option D} (h : OpS X f g) (hk : ∀ x y z, k x y = some z → g x y = some z) : OpS X f k := h.or h fun x y z q => .inl (hk x y z q)
theorem bin_ok (o : BOp) : OpS X (binaryOp (opOf o)) (binD o) := by
  cases o with
  | add =>
    refine (OpS.or (OpS.or (ops_int0 op_add) op_strS (k := fun x y => (gI (fun _ _ => True) (· + ·) x y).orElse fun _ => gStr x y) ?_) (OpS.or op_tupS op_lstS (k := fun x y => (gTup x y).orElse fun _ => gLst x y) ?_)) ?_
    · intro x y z h
      cases hx : gI (fun _ _ => True) (· + ·) x y with
      | some w => simp only [hx, Option.orElse] at h; exact .inl h
      | none => simp only [hx, Option.orElse] at h; exact .inr h
    · intro x y z h
      cases hx : gTup x y with
      | some w => simp only [hx, Option.orElse] at h; exact .inl h
      | none => simp only [hx, Option.orElse] at h; exact .inr h
    · intro x y z h
      cases x <;> cases y <;> first | (cases h; done) | (left; exact h) | (right; exact h) | (right; simp only [binD] at h; simp only [gTup]; split at h <;> simp_all [Option.orElse])
  | sub => exact (ops_int0 op_sub).of fun x y z h => by cases x <;> cases y <;> first | exact h | cases h
  | mul => exact op_mulS.of fun x y z h => by cases x <;> cases y <;> first | exact h | cases h
  | fdiv =>
    refine op_divS.or op_divN fun x y z h => ?_
    cases x <;> cases y <;> first | (cases h; done) | skip
    rename_i i j
    simp only [binD] at h
    by_cases h1 : 0 < j ∧ j.natAbs < DIVB
    · rw [if_pos h1] at h; left; simp only [gI]; rw [if_pos h1]; exact h
    · rw [if_neg h1] at h; right; simp only [gI]; exact h
  | mod =>
    refine op_modS.or op_modSN fun x y z h => ?_
    cases x <;> cases y <;> first | (cases h; done) | skip
    rename_i i j
    simp only [binD] at h
    by_cases h1 : 0 < j
    · rw [if_pos h1] at h; left; simp only [gI]; rw [if_pos h1]; exact h
    · rw [if_neg h1] at h; right; simp only [gI]; exact h
  | pow => exact op_powS.of fun x y z h => by cases x <;> cases y <;> first | exact h | cases h
  | shl => exact op_shlS.of fun x y z h => by cases x <;> cases y <;> first | exact h | cases h
  | shr => exact op_shrS.of fun x y z h => by cases x <;> cases y <;> first | exact h | cases h
  | band => exact (ops_int0 op_and).of fun x y z h => by cases x <;> cases y <;> first | exact h | cases h
  | bor => exact (ops_int0 op_or).of fun x y z h => by cases x <;> cases y <;> first | exact h | cases h
  | bxor => exact (ops_int0 op_xor).of fun x y z h => by cases x <;> cases y <;> first | exact h | cases h
end
end Pv

namespace Pv
open PySem L2 PyProof.Rows

/-! ### comparisons -/
def cmpOf : COp → CmpOp
  | .eq => .Eq
  | .ne => .NotEq
  | .lt => .Lt
  | .le => .LtE
  | .gt => .Gt
  | .ge => .GtE
  | .isin => .In
  | .notin => .NotIn
  | .is => .Is
  | .isnot => .IsNot
section
variable {X : Cx}
def gB (p : Int → Int → Bool) : D → D → Option Bool
  | .int i, .int j => some (p i j)
  | _, _ => none
theorem opp_int {f : Value → Value → Sem Value} {p : Int → Int → Bool} (ho : OpR X f (rI0 fun i j => .bl (p i j))) : OpP X f (gB p) := by
  refine ⟨_, ho, fun H dx dy b x y Q hz rx ry q => ?_⟩
  unfold gB at hz
  split at hz
  · cases hz
    exact ⟨_, _, rx.int_inv, ry.int_inv, q⟩
  · cases hz
theorem OpP.of {f : Value → Value → Sem Value} {g k : D → D → Option Bool} (h : OpP X f g) (hk : ∀ x y z, k x y = some z → g x y = some z) : OpP X f k := h.or h fun x y z q => .inl (hk x y z q)
def gLtT : D → D → Option Bool
  | .tuple xs, .tuple ys => lexD xs ys
  | _, _ => none
theorem opp_ltT (hu : X.A.units + 100 < cLine) : OpP X (compareOp .Lt) gLtT := by
  refine ⟨_, op_ltT (by omega), fun H dx dy b x y Q hz rx ry q => ?_⟩
  unfold gLtT at hz
  split at hz
  · rename_i xs ys
    unfold lexD at hz
    obtain ⟨ns, h1, h2⟩ := Option.bind_eq_some_iff.mp hz
    obtain ⟨ms, h3, h4⟩ := Option.map_eq_some_iff.mp h2
    obtain ⟨a, us, rfl, ha, hs⟩ := rx.tup_inv
    obtain ⟨c, ws, rfl, hb, ht⟩ := ry.tup_inv
    rw [hs.intsOf h1] at ha
    rw [ht.intsOf h3] at hb
    refine ⟨a, c, ns, ms, rfl, rfl, ha, hb, ?_⟩
    rw [h4]
    exact q
  · cases hz
def rInD (K : PySem.W.Frag) (neg : Bool) : R2 := fun x y H Q => ∃ (d : D) (xs : List D), Dp K H x d ∧ ((Dp K H y (.list xs) ∧ SeqAt.shaped (.list xs) = true) ∨ (Dp K H y (.tuple xs) ∧ SeqAt.shaped (.tuple xs) = true)) ∧ SeqAt.shaped d = true ∧ Q (.bl (if neg then !(xs.any fun y => PyData.eqv y d) else xs.any fun y => PyData.eqv y d)) H
theorem shaped_parts {d : D} (h : SeqAt.shaped d = true) : d.canLay0 = true ∧ d.depth ≤ 64 := ⟨(Bool.and_eq_true_iff.mp h).1, of_decide_eq_true (Bool.and_eq_true_iff.mp h).2⟩
theorem op_inD (hu : X.A.units + 100 < cLine) : OpR X (compareOp .In) (rInD X.K false) := by
  intro pins s σ H x y v u Q I rx ry h
  obtain ⟨d, xs, hd, hq, sd, q⟩ := h
  obtain ⟨as, r1⟩ := Dp.reads I d x v hd rx
  obtain ⟨cd, dd⟩ := shaped_parts sd
  have hm : ∀ n, X.A.units + 1 + min n d.depth < cLine := fun n => by have := Nat.min_le_right n d.depth; omega
  rcases hq with ⟨hq, sl⟩ | ⟨hq, sl⟩
  · obtain ⟨bs, r2⟩ := Dp.reads I _ y u hq ry
    exact PySem.SeqAt.in_list_reads r2 r1 (by have := (shaped_parts sl).1; rwa [PyData.canLay0] at this) cd (hm _) ⟨.bl _, H, I, rfl, q⟩
  · obtain ⟨bs, r2⟩ := Dp.reads I _ y u hq ry
    exact PySem.SeqAt.in_tuple_reads r2 r1 (by have := (shaped_parts sl).1; rwa [PyData.canLay0] at this) cd (hm _) ⟨.bl _, H, I, rfl, q⟩
theorem op_notInD (hu : X.A.units + 100 < cLine) : OpR X (compareOp .NotIn) (rInD X.K true) := by
  intro pins s σ H x y v u Q I rx ry h
  obtain ⟨d, xs, hd, hq, sd, q⟩ := h
  obtain ⟨as, r1⟩ := Dp.reads I d x v hd rx
  obtain ⟨cd, dd⟩ := shaped_parts sd
  have hm : ∀ n, X.A.units + 1 + min n d.depth < cLine := fun n => by have := Nat.min_le_right n d.depth; omega
  rcases hq with ⟨hq, sl⟩ | ⟨hq, sl⟩
  · obtain ⟨bs, r2⟩ := Dp.reads I _ y u hq ry
    exact PySem.SeqAt.notIn_list_reads r2 r1 (by have := (shaped_parts sl).1; rwa [PyData.canLay0] at this) cd (hm _) ⟨.bl _, H, I, rfl, q⟩
  · obtain ⟨bs, r2⟩ := Dp.reads I _ y u hq ry
    exact PySem.SeqAt.notIn_tuple_reads r2 r1 (by have := (shaped_parts sl).1; rwa [PyData.canLay0] at this) cd (hm _) ⟨.bl _, H, I, rfl, q⟩
theorem isN_ok {K : PySem.W.Frag} {F : Hp} {x : V} {d : D} (h : Rep K F x d) : decide (x = .non) = isNo d := by
  cases h <;> rfl
theorem cmp_ok (hu : X.A.units + 100 < cLine) (o : COp) : OpP X (compareOp (cmpOf o)) (cmpD o) := by
  cases o with
  | eq =>
    refine ⟨_, op_eqD (by omega), fun H dx dy b x y Q hz rx ry q => ?_⟩
    simp only [cmpD] at hz
    split at hz
    · rename_i h
      cases hz
      exact ⟨dx, dy, rx.dp, ry.dp, h.1, h.2, q⟩
    · cases hz
  | ne =>
    refine ⟨_, op_neD (by omega), fun H dx dy b x y Q hz rx ry q => ?_⟩
    simp only [cmpD] at hz
    split at hz
    · rename_i h
      cases hz
      exact ⟨dx, dy, rx.dp, ry.dp, h.1, h.2, q⟩
    · cases hz
  | lt =>
    refine (opp_int op_lt).or (opp_ltT hu) fun x y z h => ?_
    cases x <;> cases y <;> first | (cases h; done) | (left; exact h) | (right; exact h)
  | le => exact (opp_int op_le).of fun x y z h => by cases x <;> cases y <;> first | exact h | cases h
  | gt => exact (opp_int op_gt).of fun x y z h => by cases x <;> cases y <;> first | exact h | cases h
  | ge => exact (opp_int op_ge).of fun x y z h => by cases x <;> cases y <;> first | exact h | cases h
  | isin =>
    refine ⟨_, op_inD hu, fun H dx dy b x y Q hz rx ry q => ?_⟩
    cases dy <;> first | (cases hz; done) | skip
    · simp only [cmpD] at hz
      split at hz
      · rename_i h
        cases hz
        exact ⟨dx, _, rx.dp, .inl ⟨ry.dp, h.2⟩, h.1, q⟩
      · cases hz
    · simp only [cmpD] at hz
      split at hz
      · rename_i h
        cases hz
        exact ⟨dx, _, rx.dp, .inr ⟨ry.dp, h.2⟩, h.1, q⟩
      · cases hz
  | notin =>
    refine ⟨_, op_notInD hu, fun H dx dy b x y Q hz rx ry q => ?_⟩
    cases dy <;> first | (cases hz; done) | skip
    · simp only [cmpD] at hz
      split at hz
      · rename_i h
        cases hz
        exact ⟨dx, _, rx.dp, .inl ⟨ry.dp, h.2⟩, h.1, q⟩
      · cases hz
    · simp only [cmpD] at hz
      split at hz
      · rename_i h
        cases hz
        exact ⟨dx, _, rx.dp, .inr ⟨ry.dp, h.2⟩, h.1, q⟩
      · cases hz
  | is =>
    refine ⟨_, op_isN, fun H dx dy b x y Q hz rx ry q => ?_⟩
    cases dy <;> first | (cases hz; done) | skip
    refine ⟨ry.none_inv, ?_⟩
    rw [isN_ok rx]
    cases hz
    exact q
  | isnot =>
    refine ⟨_, op_notN, fun H dx dy b x y Q hz rx ry q => ?_⟩
    cases dy <;> first | (cases hz; done) | skip
    refine ⟨ry.none_inv, ?_⟩
    rw [isN_ok rx]
    cases hz
    exact q
end

/-! ### tests -/
section
variable {X : Cx} {a b : Expr} {xa : Nat → Addr} {W : WX} {pos : Pos}
theorem truB_bool {b : Bool} : truB (.bool b) = some b := rfl
theorem pt_cmpP {op : CmpOp} {g : D → D → Option Bool} {ea : Env → R Val} {eb : Env → R D} (o : OpP X (compareOp op) g) (ha : PE X a (tV X.K xa W ea)) (hb : PE X b (tP X.K xa W eb)) (hm : behindInMarks op b = false) :
    PT X (.Compare a [op] [b] pos) (tBo X.K xa W fun ρ => (dd (bindD (ea ρ) fun x ρ => (eb ρ).bind fun y ρ => R.ofO ((g x y).map fun b => .pv (.bool b)) ρ)).bind fun x ρ => R.ofO (truB x) ρ) := by
  obtain ⟨r, ho, k⟩ := o
  refine pt_weak (pt_cmpR ho (pe_toD ha) hb hm) fun σ H Q ⟨e, F, ρ, rel, post⟩ => ?_
  have e1 : ∀ r : R D, (dd (r.bind fun x ρ => (eb ρ).bind fun y ρ => R.ofO ((g x y).map fun b => .pv (.bool b)) ρ)) = r.bind fun x ρ => (eb ρ).bind fun y ρ => R.ofO ((g x y).map fun b => (.bool b : D)) ρ := fun r => by
    cases r with
    | bad => rfl
    | exc c x ρ => rfl
    | ok x ρ =>
      show dd ((eb ρ).bind _) = (eb ρ).bind _
      cases eb ρ with
      | bad => rfl
      | exc c x ρ => rfl
      | ok y ρ1 =>
        show dd (R.ofO ((g x y).map fun b => .pv (.bool b)) ρ1) = R.ofO ((g x y).map fun b => (.bool b : D)) ρ1
        cases g x y <;> rfl
  dsimp only at post
  rw [bindD_dd, e1] at post
  refine ⟨e, F, ρ, rel, (Post.bind (Post.bind post)).imp fun dx ρ1 F1 H1 ex1 rel1 q x hx => ⟨e, F1, ρ1, rel1, (Post.bind q).imp fun dy ρ2 F2 H2 ex2 rel2 q2 y hy => ?_⟩⟩
  obtain ⟨z, hz, q3⟩ := q2.ofO
  obtain ⟨w, hw, rfl⟩ := Option.map_eq_some_iff.mp hz
  have q4 := q3 F2 H2 (Ex.refl _) rel2
  exact k H2 dx dy w x y _ hw ((hx.mono ex2).mono rel2.sub) (hy.rep rel2.sub) ⟨w, rfl, q4 F2 H2 (Ex.refl _) rel2⟩
end

/-! ### more tests, values -/
section
variable {X : Cx} {a b c : Expr} {xa : Nat → Addr} {W : WX} {pos : Pos}
theorem dd_bind {r : R D} {f : D → Env → R Val} : dd (r.bind f) = r.bind fun x ρ => dd (f x ρ) := by cases r <;> rfl
theorem dd_ofO {β : Type} {o : Option β} {f : β → D} {ρ : Env} : dd (R.ofO (o.map fun b => Val.pv (f b)) ρ) = R.ofO (o.map f) ρ := by cases o <;> rfl
theorem R.bind_bind {α β γ : Type} {r : R α} {f : α → Env → R β} {g : β → Env → R γ} : (r.bind f).bind g = r.bind fun x ρ => (f x ρ).bind g := by cases r <;> rfl
theorem pt_chainP {op op' : CmpOp} {g g' : D → D → Option Bool} {ea eb ec : Env → R Val} (o : OpP X (compareOp op) g) (o' : OpP X (compareOp op') g') (ha : PE X a (tV X.K xa W ea)) (hb : PE X b (tV X.K xa W eb)) (hc : PE X c (tV X.K xa W ec))
    (hm : lastMarks [op, op'] [b, c] = false) :
    PT X (.Compare a [op, op'] [b, c] pos) (tBo X.K xa W fun ρ => (dd (bindD (ea ρ) fun x ρ => bindD (eb ρ) fun y ρ => chainD (g x y) (bindD (ec ρ) fun z ρ => R.ofO ((g' y z).map fun b => .pv (.bool b)) ρ) ρ)).bind fun x ρ => R.ofO (truB x) ρ) := by
  obtain ⟨r, ho, k⟩ := o
  obtain ⟨r', ho', k'⟩ := o'
  refine pt_weak (pt_chain ho ho' (pe_toD ha) (pe_toD hb) (pe_toD hc) hm) fun σ H Q ⟨e, F, ρ, rel, post⟩ => ?_
  dsimp only at post
  simp only [bindD_dd, dd_bind, R.bind_bind] at post
  refine ⟨e, F, ρ, rel, (Post.bind post).imp fun dx ρ1 F1 H1 ex1 rel1 q x hx => ⟨e, F1, ρ1, rel1, (Post.bind q).imp fun dy ρ2 F2 H2 ex2 rel2 q2 y hy => ?_⟩⟩
  cases hg : g dx dy with
  | none => rw [hg] at q2; exact q2.elim
  | some w =>
    refine k H2 dx dy w x y _ hg ((hx.mono ex2).mono rel2.sub) (hy.mono rel2.sub) ⟨w, rfl, ?_⟩
    rw [hg] at q2
    cases w with
    | false => exact ⟨false, rfl, q2 F2 H2 (Ex.refl _) rel2⟩
    | true =>
      have q2 : Post X.K xa W e σ F2 ((dd ((dd (ec ρ2)).bind fun z ρ => R.ofO ((g' dy z).map fun b => .pv (.bool b)) ρ)).bind fun x ρ => R.ofO (truB x) ρ) _ := q2
      rw [dd_bind, R.bind_bind] at q2
      refine ⟨e, F2, ρ2, rel2, (Post.bind q2).imp fun dz ρ3 F3 H3 ex3 rel3 q3 z hz => ?_⟩
      rw [dd_ofO] at q3
      obtain ⟨u, hu, q4⟩ := (Post.bind q3).ofO
      obtain ⟨w', hw', rfl⟩ := Option.map_eq_some_iff.mp hu
      exact k' H3 dy dz w' y z _ hw' ((hy.mono ex3).mono rel3.sub) (hz.mono rel3.sub) ⟨w', rfl, q4 F3 H3 (Ex.refl _) rel3 F3 H3 (Ex.refl _) rel3⟩
theorem truV_ok {K : PySem.W.Frag} {H : Hp} {x : V} {d : D} {b : Bool} (h : Rep K H x d) (e : truB d = some b) : TruV K x H b := by
  cases h with
  | non => cases e; rfl
  | bl c => cases e; rfl
  | int i => cases e; rfl
  | str x => cases e
  | lst h1 h2 =>
    cases e
    refine .inl ⟨_, .inl h1, ?_⟩
    cases h2 <;> rfl
  | tup h1 h2 =>
    cases e
    refine .inr (.inl ⟨_, h1, ?_⟩)
    cases h2 <;> rfl
theorem pt_val' {ev : Env → R D} (h : PE X a (tP X.K xa W ev)) (he : ∀ whole, isTrue a X.env whole = (do let v ← whole; standAt a.pos; holding [v] (truthy v))) :
    PT X a (tBo X.K xa W fun ρ => (ev ρ).bind fun x ρ => R.ofO (truB x) ρ) := by
  refine pt_weak (pt_truth h he) fun σ H Q ⟨e, F, ρ, rel, post⟩ => ⟨e, F, ρ, rel, ?_⟩
  refine (Post.bind post).imp fun dx ρ1 F1 H1 ex1 rel1 q x hx => ?_
  obtain ⟨w, hw, q2⟩ := q.ofO
  exact ⟨w, truV_ok (hx.rep rel1.sub) hw, q2 F1 H1 (Ex.refl _) rel1⟩
theorem pw_and' {rest : List Expr} {ea eb : Env → R Bool} (ha : PT X a (tBo X.K xa W ea)) (hb : PW X (.BoolOp .And (b :: rest) pos) (tBo X.K xa W eb)) :
    PW X (.BoolOp .And (a :: b :: rest) pos) (tBo X.K xa W fun ρ => (ea ρ).bind fun x ρ => iteR x (eb ρ) (.ok false ρ)) := by
  refine pw_weak (pw_and ha hb) fun σ H Q ⟨e, F, ρ, rel, post⟩ => ⟨e, F, ρ, rel, (Post.bind post).imp fun x ρ1 F1 H1 ex1 rel1 q => ?_⟩
  cases x with
  | true => exact iteT ⟨e, F1, ρ1, rel1, q⟩
  | false => exact iteF (q F1 H1 (Ex.refl _) rel1)
theorem pw_or' {rest : List Expr} {ea eb : Env → R Bool} (ha : PT X a (tBo X.K xa W ea)) (hb : PW X (.BoolOp .Or (b :: rest) pos) (tBo X.K xa W eb)) :
    PW X (.BoolOp .Or (a :: b :: rest) pos) (tBo X.K xa W fun ρ => (ea ρ).bind fun x ρ => iteR x (.ok true ρ) (eb ρ)) := by
  refine pw_weak (pw_or ha hb) fun σ H Q ⟨e, F, ρ, rel, post⟩ => ⟨e, F, ρ, rel, (Post.bind post).imp fun x ρ1 F1 H1 ex1 rel1 q => ?_⟩
  cases x with
  | true => exact iteT (q F1 H1 (Ex.refl _) rel1)
  | false => exact iteF ⟨e, F1, ρ1, rel1, q⟩
theorem pt_not' {ea : Env → R Bool} (ha : PT X a (tBo X.K xa W ea)) : PT X (.UnaryOp .Not a pos) (tBo X.K xa W fun ρ => (ea ρ).bind fun x ρ => .ok (!x) ρ) := by
  refine pt_weak (pt_not ha) fun σ H Q ⟨e, F, ρ, rel, post⟩ => ⟨e, F, ρ, rel, (Post.bind post).imp fun x ρ1 F1 H1 ex1 rel1 q => q F1 H1 (Ex.refl _) rel1⟩
/-! .. as values -/
theorem pe_and' {rest : List Expr} {ea eb : Env → R Val} (ha : PE X a (tV X.K xa W ea)) (hb : PE X (.BoolOp .And (b :: rest) pos) (tV X.K xa W eb)) :
    PE X (.BoolOp .And (a :: b :: rest) pos) (tV X.K xa W fun ρ => bindD (ea ρ) fun x ρ => andD x (eb ρ) ρ) := by
  refine pe_weak (pe_and (pe_toD ha) hb) fun σ H Q ⟨e, F, ρ, rel, post⟩ => ?_
  simp only [bindD_dd] at post
  refine ⟨e, F, ρ, rel, (Post.bind post).imp fun x ρ1 F1 H1 ex1 rel1 q v hv => ?_⟩
  unfold andD at q
  split at q
  · exact ⟨true, hv.bool_inv, iteT ⟨e, F1, ρ1, rel1, q⟩⟩
  · exact ⟨false, hv.bool_inv, iteF (q F1 H1 (Ex.refl _) rel1 _ (.bl false))⟩
  · exact q.elim
theorem pe_or' {rest : List Expr} {ea eb : Env → R Val} (ha : PE X a (tV X.K xa W ea)) (hb : PE X (.BoolOp .Or (b :: rest) pos) (tV X.K xa W eb)) :
    PE X (.BoolOp .Or (a :: b :: rest) pos) (tV X.K xa W fun ρ => bindD (ea ρ) fun x ρ => orD x (eb ρ) ρ) := by
  refine pe_weak (pe_or (pe_toD ha) hb) fun σ H Q ⟨e, F, ρ, rel, post⟩ => ?_
  simp only [bindD_dd] at post
  refine ⟨e, F, ρ, rel, (Post.bind post).imp fun x ρ1 F1 H1 ex1 rel1 q v hv => ?_⟩
  unfold orD at q
  split at q
  · exact ⟨false, hv.bool_inv, iteF ⟨e, F1, ρ1, rel1, q⟩⟩
  · exact ⟨true, hv.bool_inv, iteT (q F1 H1 (Ex.refl _) rel1 _ (.bl true))⟩
  · exact q.elim
theorem pe_not' {ea : Env → R Val} (ha : PE X a (tV X.K xa W ea)) : PE X (.UnaryOp .Not a pos) (tV X.K xa W fun ρ => bindD (ea ρ) fun x ρ => R.ofO ((notD x).map .pv) ρ) := by
  refine pe_weak (pe_not (pe_toD ha)) fun σ H Q ⟨e, F, ρ, rel, post⟩ => ?_
  simp only [bindD_dd] at post
  refine ⟨e, F, ρ, rel, (Post.bind post).imp fun x ρ1 F1 H1 ex1 rel1 q v hv => ?_⟩
  cases x <;> first | exact q.elim | skip
  exact ⟨_, hv.bool_inv, q F1 H1 (Ex.refl _) rel1 _ (.bl _)⟩
theorem pe_neg' {ea : Env → R Val} (ha : PE X a (tV X.K xa W ea)) : PE X (.UnaryOp .USub a pos) (tV X.K xa W fun ρ => bindD (ea ρ) fun x ρ => R.ofO ((negD x).map .pv) ρ) := by
  refine pe_weak (pe_un un_neg (pe_toD ha)) fun σ H Q ⟨e, F, ρ, rel, post⟩ => ?_
  simp only [bindD_dd] at post
  refine ⟨e, F, ρ, rel, (Post.bind post).imp fun x ρ1 F1 H1 ex1 rel1 q v hv => ?_⟩
  cases x <;> first | exact q.elim | skip
  exact ⟨_, hv.int_inv, q F1 H1 (Ex.refl _) rel1 _ (.int _)⟩
theorem pe_ife' {ec : Env → R Bool} {ea eb : Env → R Val} (hc : PT X c (tBo X.K xa W ec)) (ha : PE X a (tV X.K xa W ea)) (hb : PE X b (tV X.K xa W eb)) :
    PE X (.IfExp c a b pos) (tV X.K xa W fun ρ => (ec ρ).bind fun t ρ => iteR t (ea ρ) (eb ρ)) := by
  refine pe_weak (pe_ifExp hc ha hb) fun σ H Q ⟨e, F, ρ, rel, post⟩ => ⟨e, F, ρ, rel, (Post.bind post).imp fun x ρ1 F1 H1 ex1 rel1 q => ?_⟩
  cases x with
  | true => exact iteT ⟨e, F1, ρ1, rel1, q⟩
  | false => exact iteF ⟨e, F1, ρ1, rel1, q⟩
/-! ### arguments, displays -/
theorem pa_nil' : PA X [] (tL X.K xa W fun ρ => .ok [] ρ) := pa_weak pa_nil fun σ H Q ⟨e, F, ρ, rel, post⟩ => post F H (Ex.refl F) rel [] .nil
theorem pa_cons' {es : List Expr} {ea : Env → R Val} {el : Env → R (List D)} (ha : PE X a (tV X.K xa W ea)) (hr : PA X es (tL X.K xa W el)) (hs : starEach (a :: es) X.env = (false, eval a X.env) :: starEach es X.env) :
    PA X (a :: es) (tL X.K xa W fun ρ => bindD (ea ρ) fun x ρ => (el ρ).bind fun xs ρ => .ok (x :: xs) ρ) := by
  refine pa_weak (pa_cons (pe_toD ha) hr hs) fun σ H Q ⟨e, F, ρ, rel, post⟩ => ?_
  simp only [bindD_dd] at post
  refine ⟨e, F, ρ, rel, (Post.bind post).imp fun x ρ1 F1 H1 ex1 rel1 q v hv => ⟨e, F1, ρ1, rel1, (Post.bind q).imp fun xs ρ2 F2 H2 ex2 rel2 q2 vs hvs => ?_⟩⟩
  exact q2 F2 H2 (Ex.refl _) rel2 _ (.cons (hv.mono ex2) hvs)
theorem pe_tup' {es : List Expr} {k : Nat} {el : Env → R (List D)} (h : PA X es (tL X.K xa W el)) : PE X (.Tuple es k pos) (tV X.K xa W fun ρ => (el ρ).bind fun ds ρ => tupV ds ρ) := by
  refine pe_weak (pe_tup h) fun σ H Q ⟨e, F, ρ, rel, post⟩ => ⟨e, F, ρ, rel, (Post.bind post).imp fun ds ρ1 F1 H1 ex1 rel1 q vs hvs => ?_⟩
  unfold tupV at q
  split at q
  · rename_i hl
    refine ⟨by rw [hvs.length]; exact lim_size hl, fun p hp => ?_⟩
    have hF := rel1.noneF hp
    exact q _ _ (Ex.new hF) (rel1.new hp) _ (.tup (.inl (.inl upd_same)) (Reps.mono (Ex.new hF) hvs))
  · exact q.elim
theorem pe_lst' {es : List Expr} {el : Env → R (List D)} (h : PA X es (tL X.K xa W el)) : PE X (.List es pos) (tV X.K xa W fun ρ => (el ρ).bind fun ds ρ => lstV ds ρ) := by
  refine pe_weak (pe_lst h) fun σ H Q ⟨e, F, ρ, rel, post⟩ => ⟨e, F, ρ, rel, (Post.bind post).imp fun ds ρ1 F1 H1 ex1 rel1 q vs hvs => ?_⟩
  unfold lstV at q
  split at q
  · rename_i hl
    refine ⟨by rw [hvs.length]; exact lim_size hl, fun p hp => ?_⟩
    exact q _ _ (Ex.refl F1) (rel1.laid hp) _ (frNew rel1 hp hvs)
  · exact q.elim
end
end Pv

/-! ### sorted -/
namespace Pv
open PySem L2 PySem.Spec PyProof.Rows
theorem insI_perm (x : Int) : ∀ l, (insI x l).Perm (x :: l)
  | [] => List.Perm.refl _
  | y :: r => by
    unfold insI
    split
    · exact List.Perm.refl _
    · exact ((insI_perm x r).cons y).trans (List.Perm.swap x y r)
theorem sortI_perm : ∀ l, (sortI l).Perm l
  | [] => List.Perm.refl _
  | x :: r => (insI_perm x _).trans ((sortI_perm r).cons x)
theorem insI_sorted {x : Int} : ∀ {l : List Int}, l.Pairwise (· ≤ ·) → (insI x l).Pairwise (· ≤ ·)
  | [], _ => List.pairwise_singleton _ _
  | y :: r, h => by
    obtain ⟨h1, h2⟩ := List.pairwise_cons.mp h
    unfold insI
    split
    · rename_i c
      refine List.pairwise_cons.mpr ⟨fun z hz => ?_, h⟩
      rcases List.mem_cons.mp hz with rfl | hz
      · exact c
      · exact Int.le_trans c (h1 z hz)
    · rename_i c
      refine List.pairwise_cons.mpr ⟨fun z hz => ?_, insI_sorted h2⟩
      rcases List.mem_cons.mp ((insI_perm x r).mem_iff.mp hz) with rfl | hz
      · omega
      · exact h1 z hz
theorem sortI_sorted : ∀ l, (sortI l).Pairwise (· ≤ ·)
  | [] => List.Pairwise.nil
  | x :: r => insI_sorted (sortI_sorted r)
theorem sortI_uniq {ns ms : List Int} (p : ms.Perm ns) (s : ms.Pairwise (· ≤ ·)) : ms = sortI ns :=
  List.Perm.eq_of_pairwise (fun a b _ _ h1 h2 => by omega) s (sortI_sorted ns) (p.trans (sortI_perm ns).symm)
theorem leP_iff {p q : Int × Int} : leP p q = true ↔ p.1 < q.1 ∨ (p.1 = q.1 ∧ p.2 ≤ q.2) := by
  unfold leP
  simp
theorem insP_perm (x : Int × Int) : ∀ l, (insP x l).Perm (x :: l)
  | [] => List.Perm.refl _
  | y :: r => by
    unfold insP
    split
    · exact List.Perm.refl _
    · exact ((insP_perm x r).cons y).trans (List.Perm.swap x y r)
theorem sortP_perm : ∀ l, (sortP l).Perm l
  | [] => List.Perm.refl _
  | x :: r => (insP_perm x _).trans ((sortP_perm r).cons x)
theorem insP_sorted {x : Int × Int} : ∀ {l : List (Int × Int)}, l.Pairwise (fun p q => leP p q = true) → (insP x l).Pairwise (fun p q => leP p q = true)
  | [], _ => List.pairwise_singleton _ _
  | y :: r, h => by
    obtain ⟨h1, h2⟩ := List.pairwise_cons.mp h
    unfold insP
    split
    · rename_i c
      refine List.pairwise_cons.mpr ⟨fun z hz => ?_, h⟩
      rcases List.mem_cons.mp hz with rfl | hz
      · exact c
      · have a1 := leP_iff.mp c
        have a2 := leP_iff.mp (h1 z hz)
        exact leP_iff.mpr (by omega)
    · rename_i c
      refine List.pairwise_cons.mpr ⟨fun z hz => ?_, insP_sorted h2⟩
      rcases List.mem_cons.mp ((insP_perm x r).mem_iff.mp hz) with rfl | hz
      · have a1 : ¬ (z.1 < y.1 ∨ (z.1 = y.1 ∧ z.2 ≤ y.2)) := fun w => c (leP_iff.mpr w)
        exact leP_iff.mpr (by omega)
      · exact h1 z hz
theorem sortP_sorted : ∀ l, (sortP l).Pairwise (fun p q => leP p q = true)
  | [] => List.Pairwise.nil
  | x :: r => insP_sorted (sortP_sorted r)
theorem sortP_uniq {ns ms : List (Int × Int)} (p : ms.Perm ns) (s : ms.Pairwise (fun p q => leP p q = true)) : ms = sortP ns :=
  List.Perm.eq_of_pairwise (fun a b _ _ h1 h2 => by
    have a1 := leP_iff.mp h1
    have a2 := leP_iff.mp h2
    exact Prod.ext (by omega) (by omega)) s (sortP_sorted ns) (p.trans (sortP_perm ns).symm)
/-- sorted(xs), pairs of ints: as the data's own sort tells -/
def rSrtP (K : PySem.W.Frag) : List V → Hp → VK → Prop := fun vs H Q => ∃ (a : Addr) (xs : List V) (F : Hp) (ps : List (Int × Int)), vs = [V.ref a] ∧ SqL K H a xs ∧ Ex F H ∧ Reps K F xs (ps.map prD) ∧ ∀ ys p, Reps K F ys ((sortP ps).map prD) → H p = none → Q (.ref p) (upd H p (.lst ys))
theorem isPair_uniq {h : Heap} {v : Value} {x y x' y' : Int} (p : Srt.IsPair h v x y) (q : Srt.IsPair h v x' y') : x = x' ∧ y = y' := by
  obtain ⟨a, o, t, u, n, rfl, ho, _, hd⟩ := p
  obtain ⟨a2, o2, t2, u2, n2, e, ho2, _, hd2⟩ := q
  cases e
  rw [ho] at ho2
  cases ho2
  rw [hd] at hd2
  cases hd2
  exact ⟨rfl, rfl⟩
open Classical in
noncomputable def keyP (h : Heap) (v : Value) : Int × Int := if e : ∃ p : Int × Int, Srt.IsPair h v p.1 p.2 then e.choose else (0, 0)
theorem keyP_eq {h : Heap} {v : Value} {p : Int × Int} (q : Srt.IsPair h v p.1 p.2) : keyP h v = p := by
  have e : ∃ p : Int × Int, Srt.IsPair h v p.1 p.2 := ⟨p, q⟩
  unfold keyP
  rw [dif_pos e]
  obtain ⟨e1, e2⟩ := isPair_uniq e.choose_spec q
  exact Prod.ext e1 e2
section
variable {X : Cx} {pins : List (Addr × Obj)} {σ : L2.St} {H F : Hp} {s : Shared}
theorem pair_in (I : Inv X pins σ H s) (ex : Ex F H) {x : V} {v : Value} {p : Int × Int} (r : RelV x v) (h : Rep X.K F x (prD p)) : ∃ t, v = .ref t ∧ x = .ref t ∧ Srt.IsPair s.heap v p.1 p.2 := by
  obtain ⟨a, us, rfl, h1, h2⟩ := h.tup_inv
  cases r
  obtain ⟨its, rv, ht, _⟩ := I.tuple (ex.sqT h1)
  cases h2 with
  | cons i1 h2 =>
    cases h2 with
    | cons i2 h2 =>
      cases h2
      have e1 := i1.int_inv
      have e2 := i2.int_inv
      subst e1 e2
      obtain ⟨u1, u2, eu, ri, rj⟩ := vals2 rv
      obtain ⟨t1, rfl⟩ := ri
      obtain ⟨t2, rfl⟩ := rj
      subst eu
      obtain ⟨o, ho, hc, n, hd⟩ := ht
      exact ⟨a, rfl, rfl, a, o, t1, t2, n, rfl, ho, hc, hd⟩
theorem pairs_in (I : Inv X pins σ H s) (ex : Ex F H) : ∀ {xs : List V} {its : List Value} {ps : List (Int × Int)}, Vals xs its → Reps X.K F xs (ps.map prD) → its.map (keyP s.heap) = ps ∧ ∀ v ∈ its, (∃ t, v = .ref t) ∧ Srt.IsPair s.heap v (keyP s.heap v).1 (keyP s.heap v).2 ∧ Rep X.K F (backV v) (prD (keyP s.heap v))
  | _, _, [], .nil, _ => ⟨rfl, fun v hv => nomatch hv⟩
  | _, _, _ :: _, .nil, h => by cases h
  | _, _, [], .cons _ _, h => by cases h
  | _, _, p :: ps, .cons r rs, h => by
    cases h with
    | cons h hs =>
      obtain ⟨t, e1, e2, e3⟩ := pair_in I ex r h
      obtain ⟨i1, i2⟩ := pairs_in I ex rs hs
      have ek := keyP_eq e3
      refine ⟨by rw [List.map_cons, ek, i1], fun v hv => ?_⟩
      rcases List.mem_cons.mp hv with rfl | hv
      · rw [ek]
        refine ⟨⟨t, e1⟩, e3, ?_⟩
        rw [e1]
        rw [e2] at h
        exact h
      · exact i2 v hv
theorem cr_srtP : CallR X (.builtin "sorted") (rSrtP X.K) := by
  intro pins s σ H vs us Q I r h
  obtain ⟨a, xs, F, ps, rfl, hs, ex, hx, q⟩ := h
  obtain ⟨its, rv, hl, hz⟩ := id (I.list hs)
  obtain ⟨u, rfl, ru⟩ := vals1 r
  obtain rfl : u = Value.ref a := ru
  obtain ⟨k1, k2⟩ := pairs_in I ex rv hx
  refine SrtO.sorted_pairsO (k := keyP s.heap) hl.isList (by rw [← rv.length]; exact hz) (fun v hv => (k2 v hv).2.1) fun h' d out h1 h2 kp hd hn => ?_
  obtain ⟨n, hn⟩ := hn
  have mem : ∀ u ∈ out, u ∈ its := fun u hu => h2.perm.mem_iff.mp hu
  have es : out.map (keyP s.heap) = sortP ps := by
    refine sortP_uniq ?_ (List.pairwise_map.mpr (h1.imp fun {x y} h => ?_))
    · have := h2.perm.map (keyP s.heap)
      rwa [k1] at this
    · have a1 := SrtO.lexB_no.mp h
      exact leP_iff.mpr (by omega)
  have rp : ∀ l : List Value, (∀ u ∈ l, u ∈ its) → Reps X.K F (l.map backV) ((l.map (keyP s.heap)).map prD) := fun l => by
    induction l with
    | nil => intro _; exact .nil
    | cons u l ih => intro hu; exact .cons (k2 u (hu u List.mem_cons_self)).2.2 (ih fun w hw => hu w (List.mem_cons_of_mem _ hw))
  have rp := rp out mem
  rw [es] at rp
  refine ⟨.ref d, upd H d (.lst (out.map backV)), I.laid (t' := s.toks) kp hd ⟨?_, out, n, vals_back fun u hu => (k2 u (mem u hu)).1, hn⟩, rfl, q _ d rp (I.hok.fresh hd)⟩
  rw [List.length_map, h2.len, ← rv.length]
  exact hz
end
end Pv
namespace Pv
open PySem L2 PyProof.Rows

/-! ### built-ins on one thing -/
def CallK (X : Cx) (r : List V → Hp → VK → Prop) (g : D → Option D) (w : D → Val) : Prop := ∀ (e : Ent) (F H : Hp) (ρ : Env) (σ : L2.St) (dx z : D) (x : V) (Q : VK), g dx = some z → Rel X.K e F H ρ σ → PkR X.K F H x dx →
  (∀ F' H' v, Ex F F' → Rel X.K e F' H' ρ σ → VR X.K e F' H' ρ σ v (w z) → Q v H') → r [x] H Q
def CallK2 (X : Cx) (r : List V → Hp → VK → Prop) (g : D → D → Option D) : Prop := ∀ (F H : Hp) (dx dy z : D) (x y : V) (Q : VK), g dx dy = some z → Rep X.K F x dx → Rep X.K F y dy → (∀ v, Rep X.K F v z → Q v H) → r [x, y] H Q
section
variable {X : Cx} {a b : Expr} {xa : Nat → Addr} {W : WX} {p pos : Pos} {r : List V → Hp → VK → Prop} {g : D → Option D} {w : D → Val} {nm : Str} {id T : String} {ep : Env → R D}
theorem pe_one_of (k : CallK X r g w) (h : PE X a (tCB r (tCons (tP X.K xa W ep) tNil))) : PE X a (tV X.K xa W fun ρ => (ep ρ).bind fun x ρ => R.ofO ((g x).map w) ρ) := by
  refine pe_weak h fun σ H Q ⟨e, F, ρ, rel, post⟩ => ⟨e, F, ρ, rel, (Post.bind post).imp fun dx ρ1 F1 H1 ex1 rel1 q x hx => ?_⟩
  obtain ⟨z, hz, q2⟩ := q.ofO
  obtain ⟨z', hz', rfl⟩ := Option.map_eq_some_iff.mp hz
  exact k e F1 H1 ρ1 σ dx z' x Q hz' rel1 hx fun F' H' v ex rel' rep => q2 F' H' ex rel' v rep
theorem CallR.orK {f : Value} {r r' : List V → Hp → VK → Prop} {g g' k : D → Option D} (h : CallR X f r) (h' : CallR X f r') (c : CallK X r g w) (c' : CallK X r' g' w) (hk : ∀ x z, k x = some z → g x = some z ∨ g' x = some z) : CallR X f (fun xs H Q => r xs H Q ∨ r' xs H Q) ∧ CallK X (fun xs H Q => r xs H Q ∨ r' xs H Q) k w :=
  ⟨h.or h', fun e F H ρ σ dx z x Q hz rel hx q => (hk dx z hz).elim (fun hz => .inl (c e F H ρ σ dx z x Q hz rel hx q)) fun hz => .inr (c' e F H ρ σ dx z x Q hz rel hx q)⟩
/-- the built-in's rule -/
def BltR (X : Cx) (f : Value) (g : D → Option D) (w : D → Val) : Prop := ∃ r, CallR X f r ∧ CallK X r g w
theorem BltR.or {f : Value} {g g' k : D → Option D} (h : BltR X f g w) (h' : BltR X f g' w) (hk : ∀ x z, k x = some z → g x = some z ∨ g' x = some z) : BltR X f k w := by
  obtain ⟨r, h1, h2⟩ := h
  obtain ⟨r', h3, h4⟩ := h'
  exact ⟨_, CallR.orK h1 h3 h2 h4 hk⟩
theorem BltR.of {f : Value} {g k : D → Option D} (h : BltR X f g w) (hk : ∀ x z, k x = some z → g x = some z) : BltR X f k w := h.or h fun x z q => .inl (hk x z q)
end
section
variable {X : Cx}
theorem sq_pk {K : PySem.W.Frag} {F H : Hp} {x : V} {xs : List D} (e : Ex F H) (h : PkR K F H x (.list xs)) : ∃ a us, x = .ref a ∧ SqL K H a us ∧ Reps K F us xs := by
  obtain ⟨a, us, rfl, h1, h2⟩ := h.list e
  exact ⟨a, us, rfl, .inl h1, h2⟩
theorem tq_pk {K : PySem.W.Frag} {F H : Hp} {x : V} {xs : List D} (e : Ex F H) (h : PkR K F H x (.tuple xs)) : ∃ a us, x = .ref a ∧ SqT K H a us ∧ SqT K F a us ∧ Reps K F us xs := by
  obtain ⟨a, us, rfl, h1, h2⟩ := (h.plain fun ys z => nomatch z).tup_inv
  exact ⟨a, us, rfl, e.sqT h1, h1, h2⟩
def gLenS : D → Option D
  | .list xs => some (.int xs.length)
  | .tuple xs => some (.int xs.length)
  | _ => none
theorem blt_len1 : BltR X (.builtin "len") gLenS .pv := by
  refine ⟨_, call_len_seq, fun e F H ρ σ dx z x Q hz rel hx q => ?_⟩
  cases dx <;> first | (cases hz; done) | skip
  · cases hz
    obtain ⟨a, us, rfl, h1, h2⟩ := sq_pk rel.sub hx
    refine ⟨a, us, rfl, .inl h1, ?_⟩
    rw [h2.length]
    exact q F H _ (Ex.refl F) rel (.int _)
  · cases hz
    obtain ⟨a, us, rfl, h1, h2, h3⟩ := tq_pk rel.sub hx
    refine ⟨a, us, rfl, .inr h1, ?_⟩
    rw [h3.length]
    exact q F H _ (Ex.refl F) rel (.int _)
def gLenT : D → Option D
  | .str s => if s.length ≤ LIM then some (.int s.length) else none
  | _ => none
theorem blt_len2 : BltR X (.builtin "len") gLenT .pv := by
  refine ⟨_, call_len_str, fun e F H ρ σ dx z x Q hz rel hx q => ?_⟩
  cases dx <;> first | (cases hz; done) | skip
  simp only [gLenT] at hz
  split at hz
  · rename_i hl
    cases hz
    exact ⟨_, by rw [(hx.plain fun ys z => nomatch z).str_inv], lim_size hl, q F H _ (Ex.refl F) rel (.int _)⟩
  · cases hz
theorem blt_len : BltR X (.builtin "len") (fun x => bltD .len [x]) (bltV .len) := by
  have e1 : bltV .len = .pv := by funext d; cases d <;> rfl
  rw [e1]
  refine blt_len1.or blt_len2 fun x z h => ?_
  cases x <;> first | (cases h; done) | (left; exact h) | (right; exact h)
theorem blt_abs : BltR X (.builtin "abs") (fun x => bltD .abs [x]) (bltV .abs) := by
  refine ⟨_, call_abs, fun e F H ρ σ dx z x Q hz rel hx q => ?_⟩
  cases dx <;> first | (cases hz; done) | skip
  cases hz
  exact ⟨_, by rw [(hx.plain fun ys z => nomatch z).int_inv], q F H _ (Ex.refl F) rel (.int _)⟩
theorem blt_int : BltR X (.type "int") (fun x => bltD .int [x]) (bltV .int) := by
  refine ⟨_, call_int1, fun e F H ρ σ dx z x Q hz rel hx q => ?_⟩
  cases dx <;> first | (cases hz; done) | skip
  · cases hz
    exact .inr ⟨_, by rw [(hx.plain fun ys z => nomatch z).bool_inv], q F H _ (Ex.refl F) rel (.int _)⟩
  · cases hz
    exact .inl ⟨_, by rw [(hx.plain fun ys z => nomatch z).int_inv], q F H _ (Ex.refl F) rel (.int _)⟩
theorem blt_tuple : BltR X (.type "tuple") (fun x => bltD .tuple [x]) (bltV .tuple) := by
  refine ⟨_, call_tuple_of, fun e F H ρ σ dx z x Q hz rel hx q => ?_⟩
  cases dx <;> first | (cases hz; done) | skip
  · cases hz
    obtain ⟨a, us, rfl, h1, h2⟩ := sq_pk rel.sub hx
    refine ⟨a, us, rfl, .inl ⟨h1, fun p hp => ?_⟩⟩
    have hF := rel.noneF hp
    exact q _ _ _ (Ex.new hF) (rel.new hp) (.tup (.inl (.inl upd_same)) (Reps.mono (Ex.new hF) h2))
  · cases hz
    obtain ⟨a, us, rfl, h1, h2, h3⟩ := tq_pk rel.sub hx
    exact ⟨a, us, rfl, .inr ⟨h1, q F H _ (Ex.refl F) rel (.tup h2 h3)⟩⟩
theorem blt_list : BltR X (.type "list") (fun x => bltD .list [x]) (bltV .list) := by
  refine ⟨_, call_list_of, fun e F H ρ σ dx z x Q hz rel hx q => ?_⟩
  cases dx <;> first | (cases hz; done) | skip
  · cases hz
    obtain ⟨a, us, rfl, h1, h2⟩ := sq_pk rel.sub hx
    exact ⟨a, us, rfl, .inl h1, fun p hp => q _ _ _ (Ex.refl F) (rel.laid hp) (frNew rel hp h2)⟩
  · cases hz
    obtain ⟨a, us, rfl, h1, h2, h3⟩ := tq_pk rel.sub hx
    exact ⟨a, us, rfl, .inr h1, fun p hp => q _ _ _ (Ex.refl F) (rel.laid hp) (frNew rel hp h3)⟩
theorem blt_sum (hc : X.calm = true) : BltR X (.builtin "sum") (fun x => bltD .sum [x]) (bltV .sum) := by
  refine ⟨_, cr_sum hc, fun e F H ρ σ dx z x Q hz rel hx q => ?_⟩
  cases dx <;> first | (cases hz; done) | skip
  obtain ⟨ns, h, rfl⟩ := Option.map_eq_some_iff.mp hz
  obtain ⟨a, us, rfl, h1, h2⟩ := sq_pk rel.sub hx
  rw [h2.intsOf h] at h1
  exact ⟨a, ns, rfl, h1, q F H _ (Ex.refl F) rel (.int _)⟩
theorem leastI_spec : ∀ (r : List Int) (m : Int), (leastI r m = m ∨ leastI r m ∈ r) ∧ leastI r m ≤ m ∧ ∀ y ∈ r, leastI r m ≤ y
  | [], m => ⟨.inl rfl, Int.le_refl _, fun _ h => nomatch h⟩
  | x :: r, m => by
    unfold leastI
    by_cases h : x < m
    · rw [if_pos h]
      obtain ⟨a, b, c⟩ := leastI_spec r x
      refine ⟨.inr ?_, by omega, fun y hy => ?_⟩
      · rcases a with a | a
        · rw [a]; exact List.mem_cons_self
        · exact List.mem_cons_of_mem _ a
      · rcases List.mem_cons.mp hy with rfl | hy
        · exact b
        · exact c y hy
    · rw [if_neg h]
      obtain ⟨a, b, c⟩ := leastI_spec r m
      refine ⟨a.imp id (List.mem_cons_of_mem _), b, fun y hy => ?_⟩
      rcases List.mem_cons.mp hy with rfl | hy
      · omega
      · exact c y hy
theorem mostI_spec : ∀ (r : List Int) (m : Int), (mostI r m = m ∨ mostI r m ∈ r) ∧ m ≤ mostI r m ∧ ∀ y ∈ r, y ≤ mostI r m
  | [], m => ⟨.inl rfl, Int.le_refl _, fun _ h => nomatch h⟩
  | x :: r, m => by
    unfold mostI
    by_cases h : m < x
    · rw [if_pos h]
      obtain ⟨a, b, c⟩ := mostI_spec r x
      refine ⟨.inr ?_, by omega, fun y hy => ?_⟩
      · rcases a with a | a
        · rw [a]; exact List.mem_cons_self
        · exact List.mem_cons_of_mem _ a
      · rcases List.mem_cons.mp hy with rfl | hy
        · exact b
        · exact c y hy
    · rw [if_neg h]
      obtain ⟨a, b, c⟩ := mostI_spec r m
      refine ⟨a.imp id (List.mem_cons_of_mem _), b, fun y hy => ?_⟩
      rcases List.mem_cons.mp hy with rfl | hy
      · omega
      · exact c y hy
theorem blt_min (hc : X.calm = true) : BltR X (.builtin "min") (fun x => bltD .min [x]) (bltV .min) := by
  refine ⟨_, cr_min hc, fun e F H ρ σ dx z x Q hz rel hx q => ?_⟩
  cases dx <;> first | (cases hz; done) | skip
  obtain ⟨ns, h, hz⟩ := Option.bind_eq_some_iff.mp hz
  obtain ⟨m, hm, rfl⟩ := Option.map_eq_some_iff.mp hz
  obtain ⟨a, us, rfl, h1, h2⟩ := sq_pk rel.sub hx
  rw [h2.intsOf h] at h1
  cases ns with
  | nil => cases hm
  | cons y r =>
    cases hm
    obtain ⟨s1, s2, s3⟩ := leastI_spec r y
    refine ⟨a, _, rfl, h1, by simp, fun m hm hle => ?_⟩
    have e1 : m = leastI r y := by
      have h4 := hle y List.mem_cons_self
      rcases List.mem_cons.mp hm with rfl | hm
      · rcases s1 with s1 | s1
        · exact s1.symm
        · have := hle _ (List.mem_cons_of_mem _ s1); omega
      · have h5 := s3 m hm
        rcases s1 with s1 | s1
        · omega
        · have := hle _ (List.mem_cons_of_mem _ s1); omega
    rw [e1]
    exact q F H _ (Ex.refl F) rel (.int _)
theorem blt_max (hc : X.calm = true) : BltR X (.builtin "max") (fun x => bltD .max [x]) (bltV .max) := by
  refine ⟨_, cr_max hc, fun e F H ρ σ dx z x Q hz rel hx q => ?_⟩
  cases dx <;> first | (cases hz; done) | skip
  obtain ⟨ns, h, hz⟩ := Option.bind_eq_some_iff.mp hz
  obtain ⟨m, hm, rfl⟩ := Option.map_eq_some_iff.mp hz
  obtain ⟨a, us, rfl, h1, h2⟩ := sq_pk rel.sub hx
  rw [h2.intsOf h] at h1
  cases ns with
  | nil => cases hm
  | cons y r =>
    cases hm
    obtain ⟨s1, s2, s3⟩ := mostI_spec r y
    refine ⟨a, _, rfl, h1, by simp, fun m hm hle => ?_⟩
    have e1 : m = mostI r y := by
      have h4 := hle y List.mem_cons_self
      rcases List.mem_cons.mp hm with rfl | hm
      · rcases s1 with s1 | s1
        · exact s1.symm
        · have := hle _ (List.mem_cons_of_mem _ s1); omega
      · have h5 := s3 m hm
        rcases s1 with s1 | s1
        · omega
        · have := hle _ (List.mem_cons_of_mem _ s1); omega
    rw [e1]
    exact q F H _ (Ex.refl F) rel (.int _)
theorem blt_all (hc : X.calm = true) : BltR X (.builtin "all") (fun x => bltD .all [x]) (bltV .all) := by
  refine ⟨_, cr_all hc, fun e F H ρ σ dx z x Q hz rel hx q => ?_⟩
  cases dx <;> first | (cases hz; done) | skip
  obtain ⟨ns, h, rfl⟩ := Option.map_eq_some_iff.mp hz
  obtain ⟨a, us, rfl, h1, h2⟩ := sq_pk rel.sub hx
  rw [h2.boolsOf h] at h1
  exact ⟨a, ns, rfl, h1, q F H _ (Ex.refl F) rel (.bl _)⟩
theorem blt_any (hc : X.calm = true) : BltR X (.builtin "any") (fun x => bltD .any [x]) (bltV .any) := by
  refine ⟨_, cr_any hc, fun e F H ρ σ dx z x Q hz rel hx q => ?_⟩
  cases dx <;> first | (cases hz; done) | skip
  obtain ⟨ns, h, rfl⟩ := Option.map_eq_some_iff.mp hz
  obtain ⟨a, us, rfl, h1, h2⟩ := sq_pk rel.sub hx
  rw [h2.boolsOf h] at h1
  exact ⟨a, ns, rfl, h1, q F H _ (Ex.refl F) rel (.bl _)⟩
end
section
variable {X : Cx}
def gSrt1 : D → Option D
  | .list xs => (intsOf xs).map fun ns => .list ((sortI ns).map .int)
  | _ => none
def gSrt2 : D → Option D
  | .list xs => (pairsOf xs).map fun ps => .list ((sortP ps).map prD)
  | _ => none
theorem reps_srt {K : PySem.W.Frag} {F : Hp} : ∀ ns : List Int, Reps K F (ns.map V.int) (ns.map PyData.int)
  | [] => .nil
  | i :: r => .cons (.int i) (reps_srt r)
theorem pairsOf_eq : ∀ {xs : List D} {ps : List (Int × Int)}, pairsOf xs = some ps → xs = ps.map prD
  | [], ps, h => by cases h; rfl
  | x :: xs, ps, h => by
    unfold pairsOf at h
    split at h
    · rename_i e
      cases e
    · rename_i a b r e
      cases e
      cases hr : pairsOf xs with
      | none => rw [hr] at h; cases h
      | some qs =>
        rw [hr] at h
        cases h
        rw [pairsOf_eq hr]
        rfl
    · cases h
theorem blt_srt1 : BltR X (.builtin "sorted") gSrt1 (bltV .sorted) := by
  refine ⟨_, cr_sortedI, fun e F H ρ σ dx z x Q hz rel hx q => ?_⟩
  cases dx <;> first | (cases hz; done) | skip
  obtain ⟨ns, h, rfl⟩ := Option.map_eq_some_iff.mp hz
  obtain ⟨a, us, rfl, h1, h2⟩ := sq_pk rel.sub hx
  rw [h2.intsOf h] at h1
  refine ⟨a, ns, rfl, h1, fun ms p hp hs hn => ?_⟩
  rw [sortI_uniq hp hs]
  exact q F _ _ (Ex.refl F) (rel.laid hn) (frNew rel hn (reps_srt _))
theorem blt_srt2 : BltR X (.builtin "sorted") gSrt2 (bltV .sorted) := by
  refine ⟨_, cr_srtP, fun e F H ρ σ dx z x Q hz rel hx q => ?_⟩
  cases dx <;> first | (cases hz; done) | skip
  obtain ⟨ps, h, rfl⟩ := Option.map_eq_some_iff.mp hz
  obtain ⟨a, us, rfl, h1, h2⟩ := sq_pk rel.sub hx
  rw [pairsOf_eq h] at h2
  exact ⟨a, us, F, ps, rfl, h1, rel.sub, h2, fun ys p hr hn => q F _ _ (Ex.refl F) (rel.laid hn) (frNew rel hn hr)⟩
theorem blt_sorted : BltR X (.builtin "sorted") (fun x => bltD .sorted [x]) (bltV .sorted) := by
  refine blt_srt1.or blt_srt2 fun x z h => ?_
  cases x <;> first | (cases h; done) | skip
  rename_i xs
  have h : sortD xs = some z := h
  unfold sortD at h
  cases hi : intsOf xs with
  | some ns =>
    rw [hi] at h
    left
    show (intsOf xs).map _ = some z
    rw [hi]
    exact h
  | none =>
    rw [hi] at h
    right
    exact h
end
def bltName : Blt → Str
  | .len => "len"
  | .abs => "abs"
  | .int => "int"
  | .tuple => "tuple"
  | .list => "list"
  | .sum => "sum"
  | .min => "min"
  | .max => "max"
  | .all => "all"
  | .any => "any"
  | .sorted => "sorted"
def bltVal : Blt → Value
  | .len => .builtin "len"
  | .abs => .builtin "abs"
  | .int => .type "int"
  | .tuple => .type "tuple"
  | .list => .type "list"
  | .sum => .builtin "sum"
  | .min => .builtin "min"
  | .max => .builtin "max"
  | .all => .builtin "all"
  | .any => .builtin "any"
  | .sorted => .builtin "sorted"
theorem blt_rule {X : Cx} (hc : X.calm = true) (b : Blt) : BltR X (bltVal b) (fun x => bltD b [x]) (bltV b) := by
  cases b with
  | len => exact blt_len
  | abs => exact blt_abs
  | int => exact blt_int
  | tuple => exact blt_tuple
  | list => exact blt_list
  | sum => exact blt_sum hc
  | min => exact blt_min hc
  | max => exact blt_max hc
  | all => exact blt_all hc
  | any => exact blt_any hc
  | sorted => exact blt_sorted
theorem blt_boot (b : Blt) : bootBuiltins (bltName b) = some (bltVal b) := by cases b <;> decide +kernel
theorem blt_nn (b : Blt) : bltName b ≠ "__name__" := by cases b <;> decide
theorem blt_nd (b : Blt) : (bltName b == ("__debug__" : Str)) = false := by cases b <;> decide
section
variable {X : Cx} {a c : Expr} {xa : Nat → Addr} {W : WX} {p pos : Pos} {ep : Env → R D}
theorem pe_b1 {b : Blt} (hc : X.calm = true) (hg : Gl X (bltName b)) (hm : X.mg (bltName b) = none) (ha : PE X a (tP X.K xa W ep)) (hs : starEach [a] X.env = (false, eval a X.env) :: starEach [] X.env) :
    PE X (.Call (.Name (bltName b) p) [a] [] pos) (tV X.K xa W fun ρ => (ep ρ).bind fun x ρ => R.ofO ((bltD b [x]).map (bltV b)) ρ) := by
  obtain ⟨r, h1, h2⟩ := blt_rule hc b
  have hbt := blt_boot b
  have key : PE X (.Call (.Name (bltName b) p) [a] [] pos) (tCB r (tCons (tP X.K xa W ep) tNil)) := by
    cases b with
    | len => exact pe_callB h1 hg hm hbt (pa_cons ha pa_nil hs) (blt_nn _) (blt_nd _) hs rfl
    | abs => exact pe_callB h1 hg hm hbt (pa_cons ha pa_nil hs) (blt_nn _) (blt_nd _) hs rfl
    | int => exact pe_callTy h1 hg hm hbt (pa_cons ha pa_nil hs) (blt_nn _) (blt_nd _) hs rfl
    | tuple => exact pe_callTy h1 hg hm hbt (pa_cons ha pa_nil hs) (blt_nn _) (blt_nd _) hs rfl
    | list => exact pe_callTy h1 hg hm hbt (pa_cons ha pa_nil hs) (blt_nn _) (blt_nd _) hs rfl
    | sum => exact pe_callB h1 hg hm hbt (pa_cons ha pa_nil hs) (blt_nn _) (blt_nd _) hs rfl
    | min => exact pe_callB h1 hg hm hbt (pa_cons ha pa_nil hs) (blt_nn _) (blt_nd _) hs rfl
    | max => exact pe_callB h1 hg hm hbt (pa_cons ha pa_nil hs) (blt_nn _) (blt_nd _) hs rfl
    | all => exact pe_callB h1 hg hm hbt (pa_cons ha pa_nil hs) (blt_nn _) (blt_nd _) hs rfl
    | any => exact pe_callB h1 hg hm hbt (pa_cons ha pa_nil hs) (blt_nn _) (blt_nd _) hs rfl
    | sorted => exact pe_callB h1 hg hm hbt (pa_cons ha pa_nil hs) (blt_nn _) (blt_nd _) hs rfl
  exact pe_one_of h2 key
end
end Pv

namespace Pv
open PySem L2 PySem.Spec PyProof.Rows
/-! ### t[::-1] of a tuple -/
theorem adj_back (m : Nat) : Builtin.Slice.sliceAdjust none none (-1) (m : Int) = ((m : Int) - 1, -1) := by
  unfold Builtin.Slice.sliceAdjust
  simp
theorem plc_back (m : Nat) : Builtin.Slice.slicePlaces ((m : Int) - 1) (-1) (-1) = m := by
  unfold Builtin.Slice.slicePlaces
  rw [if_neg (by omega)]
  by_cases h : (m : Int) - 1 > -1
  · rw [if_pos h, show -(-1 : Int) = 1 from rfl, Int.ediv_one]
    omega
  · rw [if_neg h]
    omega
theorem pick_back (xs : Array Value) : ((List.range xs.size).filterMap fun (m : Nat) => xs[(((xs.size : Int) - 1) + (m : Int) * (-1)).toNat]?) = xs.toList.reverse := by
  have e : (List.range xs.size).map (fun (m : Nat) => xs[(((xs.size : Int) - 1) + (m : Int) * (-1)).toNat]?) = xs.toList.reverse.map some := by
    apply List.ext_getElem
    · simp
    · intro i h1 h2
      simp at h1 h2
      simp only [List.getElem_map, List.getElem_range, List.getElem_reverse, Array.length_toList]
      have e2 : (((xs.size : Int) - 1) + (i : Int) * (-1)).toNat = xs.size - 1 - i := by omega
      rw [e2, Array.getElem?_eq_getElem (by omega)]
      simp
  have key : ∀ (l : List Nat) (f : Nat → Option Value) (r : List Value), l.map f = r.map some → l.filterMap f = r := by
    intro l f
    induction l with
    | nil =>
      intro r h
      cases r with
      | nil => rfl
      | cons _ _ => simp at h
    | cons a l ih =>
      intro r h
      cases r with
      | nil => simp at h
      | cons b r =>
        simp only [List.map_cons, List.cons.injEq] at h
        rw [List.filterMap_cons, h.1]
        simp only
        rw [ih r h.2]
  exact key _ _ _ e
section
variable {prog : Program} {w : World} {A : Around} {E : Value → Shared → Prop} {s : Shared}
theorem applied_back {sl : Addr} {m : Nat} {u : Tok} {Q : Int × Int × Nat → Shared → Prop} (hs : s.heap.IsSliceOf sl .none .none (.int (-1) u))
    (h : Q ((m : Int) - 1, -1, m) s) : wpAny (model prog w) A (Builtin.Slice.sliceApplied (.ref sl) (pure (m : Int))) Q E s := by
  obtain ⟨ob, g1, g2, g3⟩ := id hs
  unfold Builtin.Slice.sliceApplied Builtin.Slice.sliceFields
  refine wpAny_bind (wpAny_bind (wpAny_field g1 g3 (x := .none) rfl (wpAny_bind (wpAny_field g1 g3 (x := .none) rfl (wpAny_bind (wpAny_field g1 g3 (x := .int (-1) u) rfl (wpAny_pure ?_)))))))
  refine wpAny_bind (slicePart_int ?_)
  show wpAny _ _ (if ((-1 : Int) == 0) = true then _ else _) _ _ s
  rw [if_neg (by decide)]
  refine wpAny_bind (slicePart_none (wpAny_bind (slicePart_none (wpAny_bind (wpAny_pure ?_)))))
  show wpAny _ _ (match Builtin.Slice.sliceAdjust none none (-1) (m : Int) with | (lo, hi) => pure (lo, (-1 : Int), Builtin.Slice.slicePlaces lo hi (-1))) _ _ s
  rw [adj_back]
  show wpAny _ _ (pure ((m : Int) - 1, (-1 : Int), Builtin.Slice.slicePlaces ((m : Int) - 1) (-1) (-1))) _ _ s
  rw [plc_back]
  exact wpAny_pure h
theorem tup_back {t sl : Addr} {items : Array Value} {u : Tok} {Q : Value → Shared → Prop} (ht : IsTup s.heap t items) (hs : s.heap.IsSliceOf sl .none .none (.int (-1) u))
    (h : Q (.ref s.heap.objs.size) { s with heap := s.heap.push { cls := .type "tuple", data := .seq items.toList.reverse.toArray } })
    (hz : items.size ≤ sizeLine) : wpAny (model prog w) A (getItem (.ref t) (.ref sl)) Q E s := by
  have hfit : sizeOk (.seq items.toList.reverse.toArray) := by
    show items.toList.reverse.toArray.size ≤ sizeLine
    rw [List.size_toArray, List.length_reverse, Array.length_toList]
    exact hz
  obtain ⟨ob, g1, g2, g3⟩ := id hs
  have isS : s.TypeIs (.ref sl) "slice" := ⟨ob, g1, g2⟩
  unfold getItem
  try with_reducible refine wpAny_holding ?_
  first | refine wpAny_bind (wpAny_pure ?_) | skip
  refine wpAny_bind (wpAny_sequenceKey ht.typeIs (by decide) ?_)
  refine wpAny_bind (wpAny_callSpecial?_slot (name := Str.ofString "__getitem__") ht.typeIs slot_tuple_getitem (wpAny_call_entry slot_tuple_getitem ht.typeIs entry_tuple_getitem ?_ (args_tuple_getitem _ _)))
  show wpAny _ _ (Builtin.Tuple.tupleItemsOf (.ref t) >>= _) _ _ s
  refine wpAny_bind (tupleItemsOf_ ht (wpAny_bind (wpAny_typeOf isS ?_)))
  rw [if_pos (by decide)]
  refine wpAny_bind (applied_back (m := items.size) hs ?_)
  have no1 : ¬ ((((items.size : Int) - 1) == 0 && (-1 : Int) == 1 && items.size == items.size) = true) := by simp
  show wpAny _ _ (if (((items.size : Int) - 1) == 0 && (-1 : Int) == 1 && items.size == items.size) = true then _ else _) _ _ s
  rw [if_neg no1, pick_back]
  first
    | exact wpAny_bind (m := Builtin.Tuple.tupleExact _) (wpAny_newObj_type (wpAny_pure ⟨_, rfl, wpAny_pure h⟩) hfit)
    | exact wpAny_bind (m := Builtin.Tuple.tupleExact _) (wpAny_newObj_type (wpAny_bind (wpAny_pure (wpAny_pure ⟨_, rfl, wpAny_pure h⟩))) hfit)
    | exact wpAny_bind (wpAny_bind (m := Builtin.Tuple.tupleExact _) (wpAny_newObj_type (wpAny_pure (wpAny_pure ⟨_, rfl, wpAny_pure h⟩)) hfit))
    | exact wpAny_bind (wpAny_bind (m := Builtin.Tuple.tupleExact _) (wpAny_newObj_type (wpAny_pure ⟨_, rfl, wpAny_pure h⟩) hfit))
end
/-- either of the two, turned -/
def tBack (K : PySem.W.Frag) (te : TE) : TE := fun σ H Q => te σ H fun x H1 => (∃ a xs, x = .ref a ∧ SqL K H1 a xs ∧ ∀ p, H1 p = none → Q (.ref p) (upd H1 p (.lst xs.reverse))) ∨ (∃ a xs, x = .ref a ∧ SqT K H1 a xs ∧ ∀ p, H1 p = none → Q (.ref p) (upd H1 p (.tup xs.reverse)))
theorem pe_back {X : Cx} {e : Expr} {te : TE} {k : Nat} {p1 p2 p3 pos : Pos} (he : PE X e te) : PE X (.Subscript e (.Slice none none (some (.UnaryOp .USub (.Constant (.int 1) k p1) p2)) p3) pos) (tBack X.K te) := by
  refine ⟨fun pins s σ H Q I h => Subscript_ (thn (he.run pins s σ H _ I h) fun v s1 ⟨x, H1, I1, r1, q1⟩ => ?_)⟩
  have part : PO X (some (.UnaryOp .USub (.Constant (.int 1) k p1) p2)) (tPart (tUn (rU fun i => .int (-i)) (tC (.int 1)))) := po_some (pe_un un_neg pe_int)
  refine wpAny_Slice (thn (po_none.run pins s1 σ H1 (fun o H2 => o = none ∧ H2 = H1) I1 ⟨rfl, rfl⟩) fun w1 s2 ⟨o1, H2, I2, c1, d1, f1⟩ => ?_)
  subst d1 f1
  refine thn (po_none.run pins s2 σ H2 (fun o H3 => o = none ∧ H3 = H2) I2 ⟨rfl, rfl⟩) fun w2 s3 ⟨o2, H3, I3, c2, d2, f2⟩ => ?_
  subst d2 f2
  refine thn (part.run pins s3 σ H3 (fun o H4 => o = some (-1) ∧ H4 = H3) I3 ⟨1, rfl, -1, rfl, rfl, rfl⟩) fun w3 s4 ⟨o3, H4, I4, c3, d3, f3⟩ => ?_
  subst d3 f3
  have I5 : Inv X pins σ H4 { s4 with heap := s4.heap.push { cls := .type "slice", data := .fields #[w1, w2, w3] } } := I4.kept (t' := s4.toks) fun b ob q => Heap.get?_push_of_some _ q
  have old : ∀ (b : Addr) (ob u : Obj), ({ s4 with heap := s4.heap.push { cls := .type "slice", data := .fields #[w1, w2, w3] } } : Shared).heap.get? b = some ob → (({ s4 with heap := s4.heap.push { cls := .type "slice", data := .fields #[w1, w2, w3] } } : Shared).heap.push u).get? b = some ob := fun b ob u q => Heap.get?_push_of_some _ q
  rcases q1 with ⟨a, xs, ex, hx, q⟩ | ⟨a, xs, ex, hx, q⟩
  · subst ex
    cases r1
    obtain ⟨its, r, ht, hz⟩ := I5.list hx
    have hlen := r.length
    show wpAny _ _ (subscriptTail e (.Slice none none (some (.UnaryOp .USub (.Constant (.int 1) k p1) p2)) p3) (.ref a) (.ref s4.heap.objs.size)) _ _ _
    refine tail_any (ops := [.ref a, .ref s4.heap.objs.size]) ht.isList.typeIs (PySem.slot_list_getitem.lookup) ?_ (by with_unfolding_all rfl)
    refine wpAny_getItem_list_slice ht.isList (Heap.IsSliceOf.new _ w1 w2 w3) c1 c2 c3 (by decide) ?_ (by rw [List.size_toArray]; omega)
    rw [PySem.W.krv_pick]
    refine ⟨.ref _, _, I5.laid (t' := s4.toks) (o := .lst xs.reverse) (fun b ob q => old b ob _ q) (Nat.le_refl _) ?_, rfl, q _ (I5.hok.fresh (Nat.le_refl _))⟩
    exact ⟨by rw [List.length_reverse]; exact hz, _, 0, r.reverse, Heap.get?_push_size _ rfl⟩
  · subst ex
    cases r1
    obtain ⟨its, r, ht, hz⟩ := I5.tuple hx
    have hlen := r.length
    cases c1
    cases c2
    cases c3 with
    | int _ u =>
      show wpAny _ _ (subscriptTail e (.Slice none none (some (.UnaryOp .USub (.Constant (.int 1) k p1) p2)) p3) (.ref a) (.ref s4.heap.objs.size)) _ _ _
      refine tail_any (ops := [.ref a, .ref s4.heap.objs.size]) ht.typeIs (slot_tuple_getitem.lookup) ?_ (by with_unfolding_all rfl)
      refine tup_back ht (Heap.IsSliceOf.new _ .none .none (.int (-1) u)) ?_ (by rw [List.size_toArray]; omega)
      refine ⟨.ref _, _, I5.laid (t' := s4.toks) (o := .tup xs.reverse) (fun b ob q => old b ob _ q) (Nat.le_refl _) ?_, rfl, q _ (I5.hok.fresh (Nat.le_refl _))⟩
      exact ⟨by rw [List.length_reverse]; exact hz, _, r.reverse, IsTup.new _ _⟩
end Pv
namespace Pv
open PySem L2 PyProof.Rows

section
variable {X : Cx} {a c : Expr} {xa : Nat → Addr} {W : WX} {p pos : Pos}
/-! ### min, max of two -/
theorem pe_min2 {ea eb : Env → R Val} (hc : X.calm = true) (hg : Gl X "min") (hm : X.mg "min" = none) (ha : PE X a (tV X.K xa W ea)) (hb : PE X c (tV X.K xa W eb)) (hs : starEach [a, c] X.env = (false, eval a X.env) :: starEach [c] X.env) (hs2 : starEach [c] X.env = (false, eval c X.env) :: starEach [] X.env)
    (hpl : (backTo pos (starEach [c] X.env)).any (·.1) = false) :
    PE X (.Call (.Name "min" p) [a, c] [] pos) (tV X.K xa W fun ρ => bindD (ea ρ) fun x ρ => bindD (eb ρ) fun y ρ => R.ofO ((bltD .min [x, y]).map .pv) ρ) := by
  refine pe_weak (pe_callB (call_min2 hc) hg hm (by decide +kernel) (pa_cons (pe_toD ha) (pa_cons (pe_toD hb) pa_nil hs2) hs) (by decide) (by decide) hs hpl) fun σ H Q ⟨e, F, ρ, rel, post⟩ => ?_
  simp only [bindD_dd] at post
  refine ⟨e, F, ρ, rel, (Post.bind post).imp fun dx ρ1 F1 H1 ex1 rel1 q x hx => ⟨e, F1, ρ1, rel1, (Post.bind q).imp fun dy ρ2 F2 H2 ex2 rel2 q2 y hy => ?_⟩⟩
  cases dx <;> cases dy <;> first | exact q2.elim | skip
  exact ⟨_, _, by rw [hx.int_inv, hy.int_inv], q2 F2 H2 (Ex.refl _) rel2 _ (.int _)⟩
theorem pe_max2 {ea eb : Env → R Val} (hc : X.calm = true) (hg : Gl X "max") (hm : X.mg "max" = none) (ha : PE X a (tV X.K xa W ea)) (hb : PE X c (tV X.K xa W eb)) (hs : starEach [a, c] X.env = (false, eval a X.env) :: starEach [c] X.env) (hs2 : starEach [c] X.env = (false, eval c X.env) :: starEach [] X.env)
    (hpl : (backTo pos (starEach [c] X.env)).any (·.1) = false) :
    PE X (.Call (.Name "max" p) [a, c] [] pos) (tV X.K xa W fun ρ => bindD (ea ρ) fun x ρ => bindD (eb ρ) fun y ρ => R.ofO ((bltD .max [x, y]).map .pv) ρ) := by
  refine pe_weak (pe_callB (call_max2 hc) hg hm (by decide +kernel) (pa_cons (pe_toD ha) (pa_cons (pe_toD hb) pa_nil hs2) hs) (by decide) (by decide) hs hpl) fun σ H Q ⟨e, F, ρ, rel, post⟩ => ?_
  simp only [bindD_dd] at post
  refine ⟨e, F, ρ, rel, (Post.bind post).imp fun dx ρ1 F1 H1 ex1 rel1 q x hx => ⟨e, F1, ρ1, rel1, (Post.bind q).imp fun dy ρ2 F2 H2 ex2 rel2 q2 y hy => ?_⟩⟩
  cases dx <;> cases dy <;> first | exact q2.elim | skip
  exact ⟨_, _, by rw [hx.int_inv, hy.int_inv], q2 F2 H2 (Ex.refl _) rel2 _ (.int _)⟩
end

/-! ### isinstance -/
def tyName : D → String
  | .none => "NoneType"
  | .bool _ => "bool"
  | .int _ => "int"
  | .str _ => "str"
  | .list _ => "list"
  | .tuple _ => "tuple"
  | .dict _ => "dict"
def tyStr : Ty → String
  | .int => "int"
  | .bool => "bool"
  | .str => "str"
  | .tup => "tuple"
  | .lst => "list"
  | .dic => "dict"
  | .non => "NoneType"
theorem kit_all (t : Ty) (d : D) : kitB (tyName d) (tyStr t) = some (t.is d) := by
  cases d <;> cases t <;> (simp only [tyName, tyStr, Ty.is]; decide +kernel)
theorem tyx_of {K : PySem.W.Frag} {H : Hp} {x : V} {d : D} (h : Rep K H x d) : TyX K H x (.type (tyName d)) := by
  cases h with
  | non => exact .base .non
  | bl b => exact .base (.bl b)
  | int i => exact .base (.int i)
  | str s => exact .base (.str s)
  | lst h1 h2 =>
    rcases h1 with h1 | ⟨o, h1⟩
    · exact .base (.lst h1)
    · exact .base (.frz h1)
  | tup h1 h2 =>
    rcases h1 with (h1 | ⟨o, h1⟩) | ⟨o, its, n, h1, h3, _⟩
    · exact .base (.tup h1)
    · exact .fTuple h1
    · exact .kTuple h1 h3
/-- a name of a built-in class -/
structure TyNm (X : Cx) (t : Ty) (e : Expr) : Prop where
  pe : PE X e (tC (.ty (tyStr t)))
inductive TyNms (X : Cx) : List Ty → List Expr → Prop
  | nil : TyNms X [] []
  | cons {t : Ty} {ts : List Ty} {e : Expr} {es : List Expr} : PE X e (tC (.ty (tyStr t))) → starEach (e :: es) X.env = (false, eval e X.env) :: starEach es X.env → TyNms X ts es → TyNms X (t :: ts) (e :: es)
section
variable {X : Cx} {a c : Expr} {xa : Nat → Addr} {W : WX} {p pos : Pos} {ep : Env → R D}
theorem pe_isi1 {t : Ty} (hg : Gl X "isinstance") (hm : X.mg "isinstance" = none) (ha : PE X a (tP X.K xa W ep)) (hc : PE X c (tC (.ty (tyStr t)))) (hs : starEach [a, c] X.env = (false, eval a X.env) :: starEach [c] X.env) (hs2 : starEach [c] X.env = (false, eval c X.env) :: starEach [] X.env)
    (hpl : (backTo pos (starEach [c] X.env)).any (·.1) = false) :
    PE X (.Call (.Name "isinstance" p) [a, c] [] pos) (tV X.K xa W fun ρ => (ep ρ).bind fun x ρ => .ok (.pv (.bool ([t].any fun t => t.is x))) ρ) := by
  refine pe_weak (pe_callB call_isi hg hm (by decide +kernel) (pa_cons ha (pa_cons hc pa_nil hs2) hs) (by decide) (by decide) hs hpl) fun σ H Q ⟨e, F, ρ, rel, post⟩ => ⟨e, F, ρ, rel, (Post.bind post).imp fun d ρ1 F1 H1 ex1 rel1 q x hx => ?_⟩
  refine ⟨x, _, _, _, _, rfl, .ty _, tyx_of (hx.rep rel1.sub), kit_ty (kit_all t d), ?_⟩
  have q := q F1 H1 (Ex.refl _) rel1 _ (.bl _)
  simpa using q
theorem kitAny_all {K : PySem.W.Frag} (d : D) : ∀ ts : List Ty, PySem.W.kitAny K (.type (tyName d)) (ts.map fun t => .type (tyStr t)) = some (ts.any fun t => t.is d)
  | [] => rfl
  | t :: ts => by
    have ih := kitAny_all (K := K) d ts
    refine kitAny_cons (kit_ty (kit_all t d)) (fun hb => ?_) (fun hb => ?_)
    · rw [ih, List.any_cons, hb, Bool.false_or]
    · rw [List.any_cons, hb, Bool.true_or]
def tTys : List Ty → TA
  | [] => tNil
  | t :: ts => tCons (tC (.ty (tyStr t))) (tTys ts)
theorem pa_tys {ts : List Ty} {es : List Expr} (h : TyNms X ts es) : PA X es (tTys ts) := by
  induction h with
  | nil => exact pa_nil
  | cons h1 h2 _ ih => exact pa_cons h1 ih h2
theorem tTys_run : ∀ (ts : List Ty) {σ : L2.St} {H : Hp} {Q : List V → Hp → Prop}, Q (ts.map fun t => .ty (tyStr t)) H → tTys ts σ H Q
  | [], _, _, _, h => h
  | t :: ts, σ, H, Q, h => tTys_run ts (Q := fun xs H2 => Q (.ty (tyStr t) :: xs) H2) h
theorem cls_tys : ∀ ts : List Ty, Paired ClsV (ts.map fun t => V.ty (tyStr t)) (ts.map fun t => .type (tyStr t))
  | [] => .nil
  | t :: ts => .cons (.ty _) (cls_tys ts)
theorem pe_isiT {ts : List Ty} {es : List Expr} {k : Nat} {p2 : Pos} (hg : Gl X "isinstance") (hm : X.mg "isinstance" = none) (ha : PE X a (tP X.K xa W ep)) (hc : TyNms X ts es) (hl : ts.length ≤ LIM) (hs : starEach [a, .Tuple es k p2] X.env = (false, eval a X.env) :: starEach [.Tuple es k p2] X.env)
    (hpl : (backTo pos (starEach [.Tuple es k p2] X.env)).any (·.1) = false) :
    PE X (.Call (.Name "isinstance" p) [a, .Tuple es k p2] [] pos) (tV X.K xa W fun ρ => (ep ρ).bind fun x ρ => .ok (.pv (.bool (ts.any fun t => t.is x))) ρ) := by
  refine pe_weak (pe_callB call_isiT hg hm (by decide +kernel) (pa_cons ha (pa_cons (pe_tup (pa_tys hc)) pa_nil rfl) hs) (by decide) (by decide) hs hpl) fun σ H Q ⟨e, F, ρ, rel, post⟩ => ⟨e, F, ρ, rel, (Post.bind post).imp fun d ρ1 F1 H1 ex1 rel1 q x hx => ?_⟩
  refine tTys_run ts ⟨by rw [List.length_map]; exact lim_size hl, fun tp htp => ?_⟩
  refine ⟨x, tp, _, _, _, _, rfl, upd_same, cls_tys ts, tyx_of ((hx.rep rel1.sub).mono (Ex.new htp)), kitAny_all d ts, ?_⟩
  exact q F1 _ (Ex.refl _) (rel1.laid htp) _ (.bl _)
end

/-! ### items, slices -/
section
variable {X : Cx} {a b : Expr} {xa : Nat → Addr} {W : WX} {pos : Pos}
theorem atI_map {α β : Type} (f : α → β) (xs : List α) (i : Int) : atI (xs.map f) i = (atI xs i).map f := by
  unfold atI
  rw [List.length_map]
  cases ixN xs.length i with
  | none => rfl
  | some j => simp
theorem ix_ok {F H : Hp} {dx dy z : D} {x y : V} {Q : VK} (hz : ixD dx dy = some z) (ex : Ex F H) (hx : PkR X.K F H x dx) (hy : Rep X.K F y dy) (q : ∀ v, Rep X.K F v z → Q v H) : rIx X.K x y H Q := by
  cases dx <;> cases dy <;> first | (cases hz; done) | skip
  · rename_i s i
    simp only [ixD] at hz
    split at hz
    · rename_i hl
      obtain ⟨c, hc, rfl⟩ := Option.map_eq_some_iff.mp hz
      exact .inr (.inr ⟨s, i, c, (hx.plain fun ys z => nomatch z).str_inv, hy.int_inv, lim_size hl, hc, q _ (.str _)⟩)
    · cases hz
  · rename_i xs i
    obtain ⟨l, us, rfl, h1, h2⟩ := sq_pk ex hx
    obtain ⟨v, hv, rv⟩ := h2.atI hz
    exact .inl ⟨l, us, i, v, rfl, hy.int_inv, h1, hv, q v rv⟩
  · rename_i xs i
    obtain ⟨l, us, rfl, h1, _, h2⟩ := tq_pk ex hx
    obtain ⟨v, hv, rv⟩ := h2.atI hz
    exact .inr (.inl ⟨l, us, i, v, rfl, hy.int_inv, h1, hv, q v rv⟩)
theorem pe_ixE {ea eb : Env → R Val} (ha : PE X a (tV X.K xa W ea)) (hb : PE X b (tV X.K xa W eb)) (hs : PlainIx b) :
    PE X (.Subscript a b pos) (tV X.K xa W fun ρ => bindD (ea ρ) fun x ρ => bindD (eb ρ) fun y ρ => R.ofO ((ixD x y).map .pv) ρ) := by
  refine pe_weak (pe_ix ix_seq (pe_toD ha) (pe_toD hb) hs) fun σ H Q ⟨e, F, ρ, rel, post⟩ => ?_
  simp only [bindD_dd] at post
  refine ⟨e, F, ρ, rel, (Post.bind post).imp fun dx ρ1 F1 H1 ex1 rel1 q x hx => ⟨e, F1, ρ1, rel1, (Post.bind q).imp fun dy ρ2 F2 H2 ex2 rel2 q2 y hy => ?_⟩⟩
  obtain ⟨z, hz, q3⟩ := q2.ofO
  obtain ⟨w, hw, rfl⟩ := Option.map_eq_some_iff.mp hz
  exact ix_ok hw rel2.sub (.inl (hx.mono ex2)) hy fun v hv => q3 F2 H2 (Ex.refl _) rel2 v hv
theorem lookV_some {ρ : Env} {j : Nat} {K : PySem.W.Frag} {e : Ent} {σ : L2.St} {F : Hp} {α : Type} {f : D → Env → R α} {Q : α → Env → Hp → Hp → Prop} {xa : Nat → Addr} {W : WX} (h : Post K xa W e σ F ((lookV ρ j).bind f) Q) : ∃ s, ρ[j]? = some (some s) ∧ (∀ xs, s ≠ .raw xs) ∧ Post K xa W e σ F (f s.dat ρ) Q := by
  unfold lookV at h
  split at h
  · exact h.elim
  · rename_i s hn hs
    exact ⟨s, hs, fun xs z => hn xs (by rw [z]), h⟩
  · exact h.elim
theorem pe_ixv {j : Nat} {eb : Env → R Val} (ha : PE X a (tVar j)) (hb : PE X b (tV X.K xa W eb)) (hs : PlainIx b) :
    PE X (.Subscript a b pos) (tV X.K xa W fun ρ => (lookV ρ j).bind fun _ ρ => bindD (eb ρ) fun y ρ => (lookV ρ j).bind fun x ρ => R.ofO ((ixD x y).map .pv) ρ) := by
  refine pe_weak (pe_ix ix_seq ha (pe_toD hb) hs) fun σ H Q ⟨e, F, ρ, rel, post⟩ => ?_
  simp only [bindD_dd] at post
  obtain ⟨s, hs, hn, post⟩ := lookV_some post
  obtain ⟨v, hv, _⟩ := rel.look hs hn
  refine ⟨v, hv, e, F, ρ, rel, (Post.bind post).imp fun dy ρ1 F1 H1 ex1 rel1 q y hy => ?_⟩
  obtain ⟨s', hs', hn', q2⟩ := lookV_some q
  obtain ⟨v', hv', pk⟩ := rel1.look hs' hn'
  have ev : v' = v := by rw [hv] at hv'; cases hv'; rfl
  subst ev
  obtain ⟨z, hz, q3⟩ := q2.ofO
  obtain ⟨w, hw, rfl⟩ := Option.map_eq_some_iff.mp hz
  exact ix_ok hw rel1.sub pk hy fun v hv => q3 F1 H1 (Ex.refl _) rel1 v hv
/-- a slice's bound -/
def tO (K : PySem.W.Frag) (xa : Nat → Addr) (W : WX) (ev : Env → R (Option Int)) : TO := fun σ H Q => ∃ e F ρ, Rel K e F H ρ σ ∧ Post K xa W e σ F (ev ρ) fun o ρ' F' H' => Q o H'
theorem po_weak {oe : Option Expr} {t t' : TO} (h : PO X oe t) (k : ∀ σ H Q, t' σ H Q → t σ H Q) : PO X oe t' := ⟨fun pins s σ H Q I hq => h.run pins s σ H Q I (k σ H Q hq)⟩
theorem po_none' : PO X none (tO X.K xa W fun ρ => partR true (.ok (.pv .none) ρ)) := po_weak po_none fun σ H Q ⟨e, F, ρ, rel, post⟩ => post F H (Ex.refl F) rel
theorem po_some' {ea : Env → R Val} (ha : PE X a (tV X.K xa W ea)) : PO X (some a) (tO X.K xa W fun ρ => partR false (ea ρ)) := by
  refine po_weak (po_some (pe_toD ha)) fun σ H Q ⟨e, F, ρ, rel, post⟩ => ?_
  have post : Post X.K xa W e σ F (partR false (ea ρ)) _ := post
  unfold partR at post
  rw [bindD_dd] at post
  refine ⟨e, F, ρ, rel, (Post.bind post).imp fun d ρ1 F1 H1 ex1 rel1 q v hv => ?_⟩
  cases d <;> first | exact q.elim | skip
  exact ⟨_, hv.int_inv, q F1 H1 (Ex.refl _) rel1⟩
theorem cut_rep {K : PySem.W.Frag} {F : Hp} {us : List V} {ds : List D} (h : Reps K F us ds) (lo hi : Option Int) : Reps K F (cutV us lo hi) (cut ds lo hi) := by
  unfold cutV cut
  rw [h.length]
  exact (h.drop _).take _
theorem cut_whole {ds : List D} {lo hi : Option Int} (h : HT.sIx ds.length 0 lo = 0 ∧ HT.sIx ds.length ds.length hi = ds.length) : cut ds lo hi = ds := by
  unfold cut
  rw [h.1, h.2, List.drop_zero, Nat.sub_zero, List.take_length]
theorem sl_ok {e : Ent} {F H : Hp} {ρ : Env} {σ : L2.St} {dx z : D} {x : V} {lo hi : Option Int} {Q : VK} (hz : slD dx lo hi = some z) (rel : Rel X.K e F H ρ σ) (hx : PkR X.K F H x dx)
    (q : ∀ F' H' v, Ex F F' → Rel X.K e F' H' ρ σ → VR X.K e F' H' ρ σ v (frV z) → Q v H') : rSlL X.K x lo hi H Q ∨ rSlA X.K x lo hi H Q := by
  cases dx <;> first | (cases hz; done) | skip
  · cases hz
    obtain ⟨l, us, rfl, h1, h2⟩ := sq_pk rel.sub hx
    exact .inl ⟨l, us, rfl, h1, fun p hp => q _ _ _ (Ex.refl F) (rel.laid hp) (frNew rel hp (cut_rep h2 lo hi))⟩
  · rename_i xs
    cases hz
    obtain ⟨l, us, rfl, h1, h3, h2⟩ := tq_pk rel.sub hx
    refine .inr ⟨l, us, rfl, h1, fun hw => ?_, fun _ p hp => ?_⟩
    · refine q F H _ (Ex.refl F) rel ?_
      rw [h2.length] at hw
      rw [cut_whole hw]
      exact .tup h3 h2
    · have hF := rel.noneF hp
      exact q _ _ _ (Ex.new hF) (rel.new hp) (.tup (.inl (.inl upd_same)) (Reps.mono (Ex.new hF) (cut_rep h2 lo hi)))
theorem pe_slE {ea : Env → R Val} {el eh : Env → R (Option Int)} {lo hi : Option Expr} {p2 : Pos} (ha : PE X a (tV X.K xa W ea)) (hl : PO X lo (tO X.K xa W el)) (hh : PO X hi (tO X.K xa W eh)) :
    PE X (.Subscript a (.Slice lo hi none p2) pos) (tV X.K xa W fun ρ => bindD (ea ρ) fun x ρ => (el ρ).bind fun l ρ => (eh ρ).bind fun h ρ => R.ofO ((slD x l h).map frV) ρ) := by
  refine pe_weak (pe_slice (sl_list.or sl_tupA) (pe_toD ha) hl hh) fun σ H Q ⟨e, F, ρ, rel, post⟩ => ?_
  simp only [bindD_dd] at post
  refine ⟨e, F, ρ, rel, (Post.bind post).imp fun dx ρ1 F1 H1 ex1 rel1 q x hx => ⟨e, F1, ρ1, rel1, (Post.bind q).imp fun l ρ2 F2 H2 ex2 rel2 q2 => ⟨e, F2, ρ2, rel2, (Post.bind q2).imp fun h ρ3 F3 H3 ex3 rel3 q3 => ?_⟩⟩⟩
  obtain ⟨z, hz, q4⟩ := q3.ofO
  obtain ⟨w, hw, rfl⟩ := Option.map_eq_some_iff.mp hz
  exact sl_ok hw rel3 (.inl (hx.mono (ex2.trans ex3))) fun F' H' v ex rel' rep => q4 F' H' ex rel' v rep
theorem pe_slv {j : Nat} {el eh : Env → R (Option Int)} {lo hi : Option Expr} {p2 : Pos} (ha : PE X a (tVar j)) (hl : PO X lo (tO X.K xa W el)) (hh : PO X hi (tO X.K xa W eh)) :
    PE X (.Subscript a (.Slice lo hi none p2) pos) (tV X.K xa W fun ρ => (lookV ρ j).bind fun _ ρ => (el ρ).bind fun l ρ => (eh ρ).bind fun h ρ => (lookV ρ j).bind fun x ρ => R.ofO ((slD x l h).map frV) ρ) := by
  refine pe_weak (pe_slice (sl_list.or sl_tupA) ha hl hh) fun σ H Q ⟨e, F, ρ, rel, post⟩ => ?_
  obtain ⟨s, hs, hn, post⟩ := lookV_some post
  obtain ⟨v, hv, _⟩ := rel.look hs hn
  refine ⟨v, hv, e, F, ρ, rel, (Post.bind post).imp fun l ρ2 F2 H2 ex2 rel2 q2 => ⟨e, F2, ρ2, rel2, (Post.bind q2).imp fun h ρ3 F3 H3 ex3 rel3 q3 => ?_⟩⟩
  obtain ⟨s', hs', hn', q4⟩ := lookV_some q3
  obtain ⟨v', hv', pk⟩ := rel3.look hs' hn'
  have ev : v' = v := by rw [hv] at hv'; cases hv'; rfl
  subst ev
  obtain ⟨z, hz, q5⟩ := q4.ofO
  obtain ⟨w, hw, rfl⟩ := Option.map_eq_some_iff.mp hz
  exact sl_ok hw rel3 pk fun F' H' v ex rel' rep => q5 F' H' ex rel' v rep
/-- a[::-1] -/
theorem pe_rev' {ep : Env → R D} {k : Nat} {p1 p2 p3 : Pos} (ha : PE X a (tP X.K xa W ep)) : PE X (.Subscript a (.Slice none none (some (.UnaryOp .USub (.Constant (.int 1) k p1) p2)) p3) pos) (tV X.K xa W fun ρ => (ep ρ).bind fun x ρ => R.ofO ((revD x).map frV) ρ) := by
  refine pe_weak (pe_back ha) fun σ H Q ⟨e, F, ρ, rel, post⟩ => ⟨e, F, ρ, rel, (Post.bind post).imp fun dx ρ1 F1 H1 ex1 rel1 q x hx => ?_⟩
  obtain ⟨z, hz, q2⟩ := q.ofO
  obtain ⟨w, hw, rfl⟩ := Option.map_eq_some_iff.mp hz
  cases dx <;> first | (cases hw; done) | skip
  · cases hw
    obtain ⟨l, us, rfl, h1, h2⟩ := sq_pk rel1.sub hx
    exact .inl ⟨l, us, rfl, h1, fun p hp => q2 _ _ (Ex.refl F1) (rel1.laid hp) _ (frNew rel1 hp h2.reverse)⟩
  · cases hw
    obtain ⟨l, us, rfl, h1, h3, h2⟩ := tq_pk rel1.sub hx
    refine .inr ⟨l, us, rfl, h1, fun p hp => ?_⟩
    have hF := rel1.noneF hp
    exact q2 _ _ (Ex.new hF) (rel1.new hp) _ (.tup (.inl (.inl upd_same)) (Reps.mono (Ex.new hF) h2.reverse))
end

/-! ### calls -/
def ArgR (K : PySem.W.Frag) (F H : Hp) : List V → List Slot → Prop
  | [], [] => True
  | v :: vs, .v d :: ss => Rep K F v d ∧ ArgR K F H vs ss
  | v :: vs, .io xs :: ss => (∃ p us, v = .ref p ∧ F p = none ∧ H p = some (.lst us) ∧ Reps K F us xs) ∧ ArgR K F H vs ss
  | v :: vs, .raw xs :: ss => (∃ p us, v = .ref p ∧ SqL K F p us ∧ Reps K F us xs) ∧ ArgR K F H vs ss
  | _, _ => False
def ioAddr : List V → List Slot → Option Addr
  | .ref p :: _, .io _ :: _ => some p
  | _, _ => none
def Frame (F H : Hp) (pI : Option Addr) (F' H' : Hp) : Prop := (∀ a o, H a = some o → pI ≠ some a → H' a = some o) ∧ ∀ a, F a = none → H a ≠ none → pI ≠ some a → F' a = none
def OutR (K : PySem.W.Frag) (F' H' : Hp) (pI : Option Addr) : Option Slot → Prop
  | none => pI = none
  | some (.io xs) => ∃ p us, pI = some p ∧ F' p = none ∧ H' p = some (.lst us) ∧ Reps K F' us xs
  | some (.fz xs) => ∃ p, pI = some p ∧ Rep K F' (.ref p) (.list xs)
  | _ => False
def VRc (K : PySem.W.Frag) (H F' H' : Hp) (pI : Option Addr) (v : V) : Val → Prop
  | .pv d => Rep K F' v d
  | .fr xs => ∃ p us, v = .ref p ∧ F' p = none ∧ H' p = some (.lst us) ∧ Reps K F' us xs ∧ H p = none ∧ pI ≠ some p
/-- what a call promises: what the pure run tells -/
def spOf (K : PySem.W.Frag) (xa : Nat → Addr) (call : Nat → List Slot → FR) (j : Nat) : Sp := fun vs H Q E => ∃ (F : Hp) (as : List Slot), Ex F H ∧ ArgR K F H vs as ∧ match call j as with
  | .ret x o => ∀ F' H' v, Ex F F' → Ex F' H' → Frame F H (ioAddr vs as) F' H' → OutR K F' H' (ioAddr vs as) o → VRc K H F' H' (ioAddr vs as) v x → Q v H'
  | .exc c none o => ∀ F' H', Ex F F' → Ex F' H' → Frame F H (ioAddr vs as) F' H' → OutR K F' H' (ioAddr vs as) o → E (.ref (xa c)) none H'
  | .exc _ (some _) _ => False
  | .bad => False
theorem argR_v {K : PySem.W.Frag} {F H : Hp} : ∀ {vs : List V} {ds : List D}, Reps K F vs ds → ArgR K F H vs (ds.map .v)
  | _, _, .nil => trivial
  | _, _, .cons h hs => ⟨h, argR_v hs⟩
theorem ioAddr_v (vs : List V) (ds : List D) : ioAddr vs (ds.map .v) = none := by
  cases ds with
  | nil => cases vs <;> (first | rfl | (rename_i v vs; cases v <;> rfl))
  | cons d ds => cases vs <;> (first | rfl | (rename_i v vs; cases v <;> rfl))
section
variable {K : PySem.W.Frag} {e : Ent} {F F' H H' : Hp} {ρ : Env} {σ : L2.St}
theorem ex_of_frame {pI : Option Addr} {a : Addr} {o : HO} (fr : Frame F H pI F' H') (h : H a = some o) (n : pI ≠ some a) : H' a = some o := fr.1 a o h n
/-- behind a call that was handed none of the lists -/
theorem Rel.called (r : Rel K e F H ρ σ) (ex : Ex F F') (ex' : Ex F' H') (fr : Frame F H none F' H') : Rel K e F' H' ρ σ where
  len := r.len
  sub0 := r.sub0.trans ex
  sub := ex'
  slot := fun i s hs => by
    obtain ⟨v, hv, q⟩ := r.slot i s hs
    refine ⟨v, hv, ?_⟩
    cases s with
    | v d => exact q.mono ex
    | own xs =>
      obtain ⟨b, us, rfl, q1, q2, q3, q4⟩ := q
      exact ⟨b, us, rfl, fr.2 b q1 (by rw [q2]; exact fun z => nomatch z) (fun z => nomatch z), fr.1 b _ q2 (fun z => nomatch z), q3.mono ex, q4⟩
    | io xs =>
      obtain ⟨b, us, rfl, q1, q2, q3, q4⟩ := q
      exact ⟨b, us, rfl, fr.2 b q1 (by rw [q2]; exact fun z => nomatch z) (fun z => nomatch z), fr.1 b _ q2 (fun z => nomatch z), q3.mono ex, q4⟩
    | fz xs =>
      obtain ⟨b, rfl, q1, q2⟩ := q
      exact ⟨b, rfl, q1, q2.mono ex⟩
    | raw xs =>
      obtain ⟨b, us, rfl, q1, q2⟩ := q
      exact ⟨b, us, rfl, ex.sqL q1, q2.mono ex⟩
  dis := r.dis
  frm := fun a o h1 h2 => fr.1 a o (r.frm a o h1 h2) (fun z => nomatch z)
  old := fun a h1 h2 h3 => fr.2 a (r.old a h1 h2 h3) (fun z => by
    cases h : e.H0 a with
    | none => exact h2 h
    | some o => rw [r.frm a o h h3] at z; cases z) (fun z => nomatch z)
  mh := fun p hp z => by
    cases h : H p with
    | none => exact r.mh p hp h
    | some o => rw [fr.1 p o h (fun z => nomatch z)] at z; cases z
  pm := r.pm
/-- behind a call that was handed the list at p, the place i: what the list has become -/
theorem Rel.calledIo {p : Addr} {i : Nat} {s s' : Slot} (r : Rel K e F H ρ σ) (ex : Ex F F') (ex' : Ex F' H') (fr : Frame F H (some p) F' H') (hs : ρ[i]? = some (some s)) (hm : s.isM = true) (hσ : σ[i]? = some (some (.ref p)))
    (hn : SlotR K e F' H' s' (.ref p)) (hpn : H' p ≠ none) : Rel K e F' H' (ρ.set i (some s')) σ := by
  have hi : i < ρ.length := (List.getElem?_eq_some_iff.mp hs).1
  have hp0 : e.M p ∨ e.H0 p = none := by
    obtain ⟨v, hv, q⟩ := r.slot i s hs
    rw [hσ] at hv
    cases hv
    cases s with
    | v d => cases hm
    | own xs => obtain ⟨b, us, eb, _, _, _, q4, _⟩ := q; cases eb; exact q4
    | io xs => obtain ⟨b, us, eb, _, _, _, q4, _⟩ := q; cases eb; exact .inl q4
    | fz xs => cases hm
    | raw xs => cases hm
  have ne : ∀ a o, e.H0 a = some o → ¬ e.M a → (some p : Option Addr) ≠ some a := fun a o h1 h2 z => by
    cases z
    rcases hp0 with h | h
    · exact h2 h
    · rw [h] at h1; cases h1
  exact {
    len := by rw [List.length_set]; exact r.len
    sub0 := r.sub0.trans ex
    sub := ex'
    slot := fun j t ht => by
      by_cases hj : i = j
      · subst hj
        rw [List.getElem?_set_self hi] at ht
        cases ht
        exact ⟨_, hσ, hn⟩
      · rw [List.getElem?_set_ne hj] at ht
        obtain ⟨v, hv, q⟩ := r.slot j t ht
        refine ⟨v, hv, ?_⟩
        cases t with
        | v d => exact q.mono ex
        | own xs =>
          obtain ⟨b, us, rfl, q1, q2, q3, q4⟩ := q
          have nb : (some p : Option Addr) ≠ some b := fun z => by cases z; exact r.dis i j _ _ _ hj hs ht hm rfl hσ hv
          exact ⟨b, us, rfl, fr.2 b q1 (by rw [q2]; exact fun z => nomatch z) nb, fr.1 b _ q2 nb, q3.mono ex, q4⟩
        | io xs =>
          obtain ⟨b, us, rfl, q1, q2, q3, q4⟩ := q
          have nb : (some p : Option Addr) ≠ some b := fun z => by cases z; exact r.dis i j _ _ _ hj hs ht hm rfl hσ hv
          exact ⟨b, us, rfl, fr.2 b q1 (by rw [q2]; exact fun z => nomatch z) nb, fr.1 b _ q2 nb, q3.mono ex, q4⟩
        | fz xs =>
          obtain ⟨b, rfl, q1, q2⟩ := q
          exact ⟨b, rfl, q1, q2.mono ex⟩
        | raw xs =>
          obtain ⟨b, us, rfl, q1, q2⟩ := q
          exact ⟨b, us, rfl, ex.sqL q1, q2.mono ex⟩
    dis := fun j k t u b hjk h1 h2 m1 m2 => by
      by_cases hj : i = j
      · subst hj
        have hk : i ≠ k := hjk
        rw [List.getElem?_set_ne hk] at h2
        exact r.dis i k s u b hjk hs h2 hm m2
      · by_cases hk : i = k
        · subst hk
          rw [List.getElem?_set_ne hj] at h1
          exact r.dis j i t s b hjk h1 hs m1 hm
        · rw [List.getElem?_set_ne hj] at h1
          rw [List.getElem?_set_ne hk] at h2
          exact r.dis j k t u b hjk h1 h2 m1 m2
    frm := fun a o h1 h2 => fr.1 a o (r.frm a o h1 h2) (ne a o h1 h2)
    old := fun a h1 h2 h3 => by
      cases h : e.H0 a with
      | none => exact absurd h h2
      | some o => exact fr.2 a (r.old a h1 h2 h3) (by rw [r.frm a o h h3]; exact fun z => nomatch z) (ne a o h h3)
    mh := fun q hq z => by
      by_cases hqp : q = p
      · subst hqp
        exact hpn z
      · cases h : H q with
        | none => exact r.mh q hq h
        | some o => rw [fr.1 q o h (fun z => by cases z; exact hqp rfl)] at z; cases z
    pm := r.pm }

theorem exc_post {α : Type} {xa : Nat → Addr} {W : WX} {c : Nat} {x : Option D} {ρ : Env} {Q : α → Env → Hp → Hp → Prop} (h : Post K xa W e σ F (R.exc c x ρ : R α) Q) : x = none ∧ ∀ F' H', Ex F F' → Rel K e F' H' ρ σ → W (.ref (xa c)) none σ H' := by
  cases x with
  | none => exact ⟨rfl, h⟩
  | some d => exact h.elim
end
section
variable {X : Cx} {CX : CXT} {k : Nat} {f : Addr} {fd : FuncData} {ps : List Str} {x : Str} {p pos : Pos} {a : Expr} {es : List Expr} {xa : Nat → Addr} {W : WX} {call : Nat → List Slot → FR} {j : Nat} {el : Env → R (List D)}
/-- a call's reading, from the promise: nothing of ours is handed over -/
theorem call_plain {e : Ent} {F H : Hp} {ρ : Env} {σ : L2.St} {vs : List V} {ds : List D} {Q : VK} (rel : Rel X.K e F H ρ σ) (h : Reps X.K F vs ds)
    (q : Post X.K xa W e σ F (backR none ρ (call j (ds.map .v))) fun x ρ' F' H' => ∀ v, VR X.K e F' H' ρ' σ v x → Q v H') : spOf X.K xa call j vs H Q (WE W σ) := by
  refine ⟨F, ds.map .v, rel.sub, argR_v h, ?_⟩
  rw [ioAddr_v]
  cases hc : call j (ds.map .v) with
  | ret x o =>
    rw [hc] at q
    intro F' H' v ex ex' fr out vr
    have rel' := rel.called ex ex' fr
    refine q F' H' ex rel' v ?_
    cases x with
    | pv d => exact vr
    | fr xs =>
      obtain ⟨p, us, rfl, h1, h2, h3, h4, _⟩ := vr
      exact ⟨p, us, rfl, h1, h2, h3, (rel.none0 h4).resolve_right (rel.fresh h4).1, (rel.fresh h4).1, (rel.fresh h4).2, rel.apart h4⟩
  | exc c x o =>
    rw [hc] at q
    obtain ⟨rfl, q⟩ := exc_post q
    intro F' H' ex ex' fr out
    exact q F' H' ex (rel.called ex ex' fr)
  | bad => rw [hc] at q; exact q.elim
theorem pe_callE (G : FnOk X.prog X.w X.K X.mg X.base (L2.CX X.prog X.w) k f fd ps (spOf X.K xa call j)) (hr : Room k X.A) (hg : Gl X x) (hm : X.mg x = some (.ref f)) (hk : PySem.W.keepIn X.K (.ref f) = true) (hb : Binds X.K fd ps []) (tk : Takes X W)
    (ha : PA X (a :: es) (tL X.K xa W el)) (hdb : (x == ("__debug__" : Str)) = false) (he : starEach (a :: es) X.env = (false, eval a X.env) :: starEach es X.env) (hpl : (backTo pos (starEach es X.env)).any (·.1) = false) :
    PE X (.Call (.Name x p) (a :: es) [] pos) (tV X.K xa W fun ρ => (el ρ).bind fun ds ρ => backR none ρ (call j (ds.map .v))) := by
  refine pe_weak (pe_callS (E := WE W) G hr hg hm hk hb (fun σ => passAt tk σ) ha hdb he hpl) fun σ H Q ⟨e, F, ρ, rel, post⟩ => ⟨e, F, ρ, rel, (Post.bind post).imp fun ds ρ1 F1 H1 ex1 rel1 q vs hvs => ?_⟩
  exact call_plain rel1 hvs q
theorem ioArg_some {ρ : Env} {i : Nat} {xs : List D} (h : ioArg ρ i = some xs) : (ρ[i]? = some (some (.own xs)) ∨ ρ[i]? = some (some (.io xs))) := by
  unfold ioArg at h
  split at h
  · cases h; exact .inl (by assumption)
  · cases h; exact .inr (by assumption)
  · cases h
/-- .. the place i is handed over -/
theorem call_io {e : Ent} {F H : Hp} {ρ : Env} {σ : L2.St} {v0 : V} {vs : List V} {ds : List D} {xs : List D} {i : Nat} {Q : VK} (rel : Rel X.K e F H ρ σ) (hv : σ[i]? = some (some v0)) (hi : ioArg ρ i = some xs) (h : Reps X.K F vs ds)
    (q : Post X.K xa W e σ F (backR (some i) ρ (call j (.io xs :: ds.map .v))) fun x ρ' F' H' => ∀ v, VR X.K e F' H' ρ' σ v x → Q v H') : spOf X.K xa call j (v0 :: vs) H Q (WE W σ) := by
  have key : ∃ s p us, ρ[i]? = some (some s) ∧ (s = .own xs ∨ s = .io xs) ∧ v0 = .ref p ∧ F p = none ∧ H p = some (.lst us) ∧ Reps X.K F us xs := by
    rcases ioArg_some hi with hs | hs
    · obtain ⟨v, hv', p, us, rfl, q1, q2, q3, _⟩ := rel.slot i _ hs
      rw [hv] at hv'; cases hv'
      exact ⟨_, p, us, hs, .inl rfl, rfl, q1, q2, q3⟩
    · obtain ⟨v, hv', p, us, rfl, q1, q2, q3, _⟩ := rel.slot i _ hs
      rw [hv] at hv'; cases hv'
      exact ⟨_, p, us, hs, .inr rfl, rfl, q1, q2, q3⟩
  obtain ⟨s, p, us, hs, hss, rfl, q1, q2, q3⟩ := key
  have hm : s.isM = true := by rcases hss with rfl | rfl <;> rfl
  refine ⟨F, .io xs :: ds.map .v, rel.sub, ⟨⟨p, us, rfl, q1, q2, q3⟩, argR_v h⟩, ?_⟩
  have back : ∀ {F' H' : Hp} {o : Option Slot}, Ex F F' → Ex F' H' → Frame F H (some p) F' H' → OutR X.K F' H' (some p) o → ∃ ρ', backS ρ (some i) o = some ρ' ∧ Rel X.K e F' H' ρ' σ := by
    intro F' H' o ex ex' fr out
    have slotAt : ∃ v, σ[i]? = some (some v) ∧ SlotR X.K e F H s v := rel.slot i s hs
    obtain ⟨v, hv', sl⟩ := slotAt
    rw [hv] at hv'; cases hv'
    cases o with
    | none => exact absurd out (fun z => nomatch z)
    | some s' =>
      cases s' with
      | v d => exact out.elim
      | own ys => exact out.elim
      | raw ys => exact out.elim
      | io ys =>
        obtain ⟨p', us', ep, o1, o2, o3⟩ := out
        cases ep
        rcases hss with rfl | rfl
        · refine ⟨ρ.set i (some (.own ys)), by simp only [backS, hs], rel.calledIo ex ex' fr hs hm hv ?_ (by rw [o2]; exact fun z => nomatch z)⟩
          obtain ⟨b, _, eb, _, _, _, q4, q5⟩ := sl
          cases eb
          exact ⟨p, us', rfl, o1, o2, o3, q4, q5⟩
        · refine ⟨ρ.set i (some (.io ys)), by simp only [backS, hs], rel.calledIo ex ex' fr hs hm hv ?_ (by rw [o2]; exact fun z => nomatch z)⟩
          obtain ⟨b, _, eb, _, _, _, q4, q5⟩ := sl
          cases eb
          exact ⟨p, us', rfl, o1, o2, o3, q4, q5⟩
      | fz ys =>
        obtain ⟨p', ep, o1⟩ := out
        cases ep
        have hpn : H' p ≠ none := by
          cases o1 with
          | lst h1 h2 => rcases ex'.rd h1 with h | ⟨o, h⟩ <;> (rw [h]; exact fun z => nomatch z)
        rcases hss with rfl | rfl
        · exact ⟨ρ.set i (some (.v (.list ys))), by simp only [backS, hs], rel.calledIo ex ex' fr hs hm hv o1 hpn⟩
        · refine ⟨ρ.set i (some (.fz ys)), by simp only [backS, hs], rel.calledIo ex ex' fr hs hm hv ?_ hpn⟩
          obtain ⟨b, _, eb, _, _, _, q4, q5⟩ := sl
          cases eb
          exact ⟨p, rfl, q5, o1⟩
  show match call j (.io xs :: ds.map .v) with
    | .ret x o => ∀ F' H' v, Ex F F' → Ex F' H' → Frame F H (some p) F' H' → OutR X.K F' H' (some p) o → VRc X.K H F' H' (some p) v x → Q v H'
    | .exc c none o => ∀ F' H', Ex F F' → Ex F' H' → Frame F H (some p) F' H' → OutR X.K F' H' (some p) o → WE W σ (.ref (xa c)) none H'
    | .exc _ (some _) _ => False
    | .bad => False
  cases hc : call j (.io xs :: ds.map .v) with
  | ret x o =>
    rw [hc] at q
    intro F' H' v ex ex' fr out vr
    obtain ⟨ρ', hb, rel'⟩ := back ex ex' fr out
    simp only [backR, hb] at q
    refine q F' H' ex rel' v ?_
    cases x with
    | pv d => exact vr
    | fr xs =>
      obtain ⟨p, us, rfl, h1, h2, h3, h4, h5⟩ := vr
      refine ⟨p, us, rfl, h1, h2, h3, (rel.none0 h4).resolve_right (rel.fresh h4).1, (rel.fresh h4).1, (rel.fresh h4).2, fun m t ht htm hσ => ?_⟩
      by_cases hmi : i = m
      · subst hmi
        rw [hv] at hσ
        cases hσ
        exact h5 rfl
      · have ht' : ρ[m]? = some (some t) := by
          cases o with
          | none => exact absurd out (fun z => nomatch z)
          | some s' =>
            cases s' with
            | v d => exact out.elim
            | own ys => exact out.elim
            | raw ys => exact out.elim
            | io ys => rcases hss with rfl | rfl <;> (simp only [backS, hs] at hb; cases hb; rwa [List.getElem?_set_ne hmi] at ht)
            | fz ys => rcases hss with rfl | rfl <;> (simp only [backS, hs] at hb; cases hb; rwa [List.getElem?_set_ne hmi] at ht)
        exact rel.apart h4 m t ht' htm hσ
  | exc c x o =>
    rw [hc] at q
    cases x with
    | none =>
      intro F' H' ex ex' fr out
      obtain ⟨ρ', hb, rel'⟩ := back ex ex' fr out
      simp only [backR, hb] at q
      exact q F' H' ex rel'
    | some d =>
      simp only [backR] at q
      split at q
      · exact q
      · exact q
  | bad => rw [hc] at q; exact q.elim
theorem pe_cioE {i : Nat} (G : FnOk X.prog X.w X.K X.mg X.base (L2.CX X.prog X.w) k f fd ps (spOf X.K xa call j)) (hr : Room k X.A) (hg : Gl X x) (hm : X.mg x = some (.ref f)) (hk : PySem.W.keepIn X.K (.ref f) = true) (hb : Binds X.K fd ps []) (tk : Takes X W)
    (hv : PE X a (tVar i)) (ha : PA X es (tL X.K xa W el)) (hdb : (x == ("__debug__" : Str)) = false) (he : starEach (a :: es) X.env = (false, eval a X.env) :: starEach es X.env) (hpl : (backTo pos (starEach es X.env)).any (·.1) = false) :
    PE X (.Call (.Name x p) (a :: es) [] pos) (tV X.K xa W fun ρ => cioGo (call j) i el ρ) := by
  refine pe_weak (pe_callS (E := WE W) G hr hg hm hk hb (fun σ => passAt tk σ) (pa_cons hv ha he) hdb he hpl) fun σ H Q ⟨e, F, ρ, rel, post⟩ => ?_
  have post : Post X.K xa W e σ F (cioGo (call j) i el ρ) _ := post
  unfold cioGo at post
  cases hi : ioArg ρ i with
  | some xs0 =>
    rw [hi] at post
    have hs : ∃ s, ρ[i]? = some (some s) ∧ ∀ xs, s ≠ .raw xs := by
      rcases ioArg_some hi with h | h <;> exact ⟨_, h, fun _ z => nomatch z⟩
    obtain ⟨s, hs, hn⟩ := hs
    obtain ⟨v, hv, _⟩ := rel.look hs hn
    refine ⟨v, hv, e, F, ρ, rel, (Post.bind post).imp fun ds ρ1 F1 H1 ex1 rel1 q vs hvs => ?_⟩
    cases hi1 : ioArg ρ1 i with
    | none => rw [hi1] at q; exact q.elim
    | some xs =>
      rw [hi1] at q
      exact call_io rel1 hv hi1 hvs q
  | none =>
    rw [hi] at post
    have post : Post X.K xa W e σ F (bindD (readV ρ i) fun x ρ => (el ρ).bind fun ds ρ => backR none ρ (call j (.v x :: ds.map .v))) _ := post
    unfold readV at post
    split at post
    · exact post.elim
    · rename_i s hn hs
      obtain ⟨F1, v, ex1, hv, rep, rel1⟩ := rel.freeze hs (fun xs z => hn xs (by rw [z]))
      have post : Post X.K xa W e σ F ((el (ρ.set i (some s.frozen))).bind fun ds ρ => backR none ρ (call j (.v s.dat :: ds.map .v))) _ := post
      refine ⟨v, hv, e, F1, _, rel1, (Post.bind (Post.weak ex1 post)).imp fun ds ρ2 F2 H2 ex2 rel2 q vs hvs => ?_⟩
      exact call_plain (ds := s.dat :: ds) rel2 (.cons (rep.mono ex2) hvs) q
    · exact post.elim
/-- the script handed over -/
theorem pe_craw {i : Nat} (G : FnOk X.prog X.w X.K X.mg X.base (L2.CX X.prog X.w) k f fd ps (spOf X.K xa call j)) (hr : Room k X.A) (hg : Gl X x) (hm : X.mg x = some (.ref f)) (hk : PySem.W.keepIn X.K (.ref f) = true) (hb : Binds X.K fd ps []) (tk : Takes X W)
    (hv : PE X a (tVar i)) (hdb : (x == ("__debug__" : Str)) = false) (he : starEach [a] X.env = (false, eval a X.env) :: starEach [] X.env) (hpl : (backTo pos (starEach [] X.env)).any (·.1) = false) :
    PE X (.Call (.Name x p) [a] [] pos) (tV X.K xa W fun ρ => crawGo (call j) i ρ) := by
  refine pe_weak (pe_callS (E := WE W) G hr hg hm hk hb (fun σ => passAt tk σ) (pa_cons hv pa_nil he) hdb he hpl) fun σ H Q ⟨e, F, ρ, rel, post⟩ => ?_
  have post : Post X.K xa W e σ F (crawGo (call j) i ρ) _ := post
  unfold crawGo at post
  split at post
  · rename_i xs hs
    obtain ⟨v, hv, q, us, rfl, q1, q2⟩ := rel.slot i _ hs
    refine ⟨_, hv, F, [.raw xs], rel.sub, ⟨⟨q, us, rfl, q1, q2⟩, trivial⟩, ?_⟩
    show match call j [.raw xs] with
      | .ret x o => ∀ F' H' v, Ex F F' → Ex F' H' → Frame F H none F' H' → OutR X.K F' H' none o → VRc X.K H F' H' none v x → Q v H'
      | .exc c none o => ∀ F' H', Ex F F' → Ex F' H' → Frame F H none F' H' → OutR X.K F' H' none o → WE W σ (.ref (xa c)) none H'
      | .exc _ (some _) _ => False
      | .bad => False
    cases hc : call j [.raw xs] with
    | ret x o =>
      rw [hc] at post
      intro F' H' v ex ex' fr out vr
      refine post F' H' ex (rel.called ex ex' fr) v ?_
      cases x with
      | pv d => exact vr
      | fr xs =>
        obtain ⟨p, us, rfl, h1, h2, h3, h4, _⟩ := vr
        exact ⟨p, us, rfl, h1, h2, h3, (rel.none0 h4).resolve_right (rel.fresh h4).1, (rel.fresh h4).1, (rel.fresh h4).2, rel.apart h4⟩
    | exc c x o =>
      rw [hc] at post
      obtain ⟨rfl, q⟩ := exc_post post
      intro F' H' ex ex' fr out
      exact q F' H' ex (rel.called ex ex' fr)
    | bad => rw [hc] at post; exact post.elim
  · exact post.elim
/-- the script cut -/
theorem pe_scr {i : Nat} {n : Int} {b : Expr} {p2 : Pos} (ha : PE X a (tVar i)) (hb : PE X b (tC (.int n))) : PE X (.Subscript a (.Slice none (some b) none p2) pos) (tV X.K xa W fun ρ => scrV ρ i n) := by
  refine pe_weak (pe_slice sl_list ha po_none (po_some hb)) fun σ H Q ⟨e, F, ρ, rel, post⟩ => ?_
  have post : Post X.K xa W e σ F (scrV ρ i n) _ := post
  unfold scrV at post
  split at post
  · rename_i xs hs
    obtain ⟨v, hv, q, us, rfl, q1, q2⟩ := rel.slot i _ hs
    refine ⟨_, hv, n, rfl, q, us, rfl, rel.sub.sqL q1, fun p hp => ?_⟩
    exact post F _ (Ex.refl F) (rel.laid hp) _ (frNew rel hp (cut_rep q2 none (some n)))
  · exact post.elim
end
end Pv

namespace Pv
open PySem L2 PyProof.Rows

/-! ### places stored -/
section
variable {K : PySem.W.Frag} {e : Ent} {F F' H H' : Hp} {ρ ρ' : Env} {σ σ' : L2.St} {v : V} {i : Nat}
theorem Rel.put {x : Val} (r : Rel K e F H ρ σ) (h : VR K e F H ρ σ v x) (hp : putV ρ i x = .ok () ρ') : Rel K e F H ρ' (σ.set i (some v)) ∧ i < σ.length := by
  unfold putV at hp
  split at hp
  · rename_i hf
    have hi : i < ρ.length := by
      unfold freeAt at hf
      cases hx : ρ[i]? with
      | none => rw [hx] at hf; cases hf
      | some s => exact (List.getElem?_eq_some_iff.mp hx).1
    have hiσ : i < σ.length := by rw [← r.len]; exact hi
    refine ⟨?_, hiσ⟩
    cases hp
    cases x with
    | pv d =>
      refine ⟨by rw [List.length_set, List.length_set]; exact r.len, r.sub0, r.sub, fun j t ht => ?_, fun j k t u p hjk h1 h2 m1 m2 hσ => ?_, r.frm, r.old, r.mh, r.pm⟩
      · by_cases hj : i = j
        · subst hj
          rw [List.getElem?_set_self hi] at ht
          cases ht
          exact ⟨v, List.getElem?_set_self hiσ, h⟩
        · rw [List.getElem?_set_ne hj] at ht
          rw [List.getElem?_set_ne hj]
          exact r.slot j t ht
      · have hj : i ≠ j := fun z => by subst z; rw [List.getElem?_set_self hi] at h1; cases h1; cases m1
        have hk : i ≠ k := fun z => by subst z; rw [List.getElem?_set_self hi] at h2; cases h2; cases m2
        rw [List.getElem?_set_ne hj] at h1 hσ
        rw [List.getElem?_set_ne hk] at h2 ⊢
        exact r.dis j k t u p hjk h1 h2 m1 m2 hσ
    | fr xs =>
      obtain ⟨q, us, rfl, q1, q2, q3, q4, q5, q6, q7⟩ := h
      refine ⟨by rw [List.length_set, List.length_set]; exact r.len, r.sub0, r.sub, fun j t ht => ?_, fun j k t u p hjk h1 h2 m1 m2 hσ => ?_, r.frm, r.old, r.mh, r.pm⟩
      · by_cases hj : i = j
        · subst hj
          rw [List.getElem?_set_self hi] at ht
          cases ht
          exact ⟨_, List.getElem?_set_self hiσ, q, us, rfl, q1, q2, q3, .inr q4, q6⟩
        · rw [List.getElem?_set_ne hj] at ht
          rw [List.getElem?_set_ne hj]
          exact r.slot j t ht
      · by_cases hj : i = j
        · subst hj
          have hk : i ≠ k := hjk
          rw [List.getElem?_set_self hiσ] at hσ
          rw [List.getElem?_set_ne hk] at h2 ⊢
          cases hσ
          exact q7 k u h2 m2
        · by_cases hk : i = k
          · subst hk
            rw [List.getElem?_set_ne hj] at h1 hσ
            rw [List.getElem?_set_self hiσ]
            intro z
            cases z
            exact q7 j t h1 m1 hσ
          · rw [List.getElem?_set_ne hj] at h1 hσ
            rw [List.getElem?_set_ne hk] at h2 ⊢
            exact r.dis j k t u p hjk h1 h2 m1 m2 hσ
  · cases hp
/-- a list of our own is changed -/
theorem Rel.write {p : Addr} {us' : List V} {xs' : List D} {s s' : Slot} (r : Rel K e F H ρ σ) (hs : ρ[i]? = some (some s)) (hss : (∃ xs, s = .own xs ∧ s' = .own xs') ∨ ∃ xs, s = .io xs ∧ s' = .io xs') (hσ : σ[i]? = some (some (.ref p))) (hq : Reps K F us' xs') :
    Rel K e F (upd H p (.lst us')) (ρ.set i (some s')) σ := by
  have hi : i < ρ.length := (List.getElem?_eq_some_iff.mp hs).1
  have hm : s.isM = true := by rcases hss with ⟨xs, rfl, _⟩ | ⟨xs, rfl, _⟩ <;> rfl
  obtain ⟨v, hv, sl⟩ := r.slot i s hs
  rw [hσ] at hv
  cases hv
  have hF : F p = none := by rcases hss with ⟨xs, rfl, _⟩ | ⟨xs, rfl, _⟩ <;> (obtain ⟨b, us, eb, q1, _⟩ := sl; cases eb; exact q1)
  have hp0 : e.M p ∨ e.H0 p = none := by
    rcases hss with ⟨xs, rfl, _⟩ | ⟨xs, rfl, _⟩
    · obtain ⟨b, us, eb, _, _, _, q4, _⟩ := sl; cases eb; exact q4
    · obtain ⟨b, us, eb, _, _, _, q4, _⟩ := sl; cases eb; exact .inl q4
  refine ⟨by rw [List.length_set]; exact r.len, r.sub0, fun a o h => ?_, fun j t ht => ?_, fun j k t u b hjk h1 h2 m1 m2 => ?_, fun a o h1 h2 => ?_, r.old, fun q hq' z => ?_, r.pm⟩
  · have ha : a ≠ p := fun z => by subst z; rw [hF] at h; cases h
    rw [upd_ne ha]
    exact r.sub a o h
  · by_cases hj : i = j
    · subst hj
      rw [List.getElem?_set_self hi] at ht
      cases ht
      refine ⟨_, hσ, ?_⟩
      rcases hss with ⟨xs, rfl, rfl⟩ | ⟨xs, rfl, rfl⟩
      · obtain ⟨b, us, eb, q1, q2, q3, q4, q5⟩ := sl
        cases eb
        exact ⟨p, us', rfl, hF, upd_same, hq, q4, q5⟩
      · obtain ⟨b, us, eb, q1, q2, q3, q4, q5⟩ := sl
        cases eb
        exact ⟨p, us', rfl, hF, upd_same, hq, q4, q5⟩
    · rw [List.getElem?_set_ne hj] at ht
      obtain ⟨v, hv, q⟩ := r.slot j t ht
      refine ⟨v, hv, ?_⟩
      cases t with
      | v d => exact q
      | own xs =>
        obtain ⟨b, us, rfl, q1, q2, q3⟩ := q
        have nb : b ≠ p := fun z => by subst z; exact r.dis i j _ _ _ hj hs ht hm rfl hσ hv
        exact ⟨b, us, rfl, q1, by rw [upd_ne nb]; exact q2, q3⟩
      | io xs =>
        obtain ⟨b, us, rfl, q1, q2, q3⟩ := q
        have nb : b ≠ p := fun z => by subst z; exact r.dis i j _ _ _ hj hs ht hm rfl hσ hv
        exact ⟨b, us, rfl, q1, by rw [upd_ne nb]; exact q2, q3⟩
      | fz xs => exact q
      | raw xs => exact q
  · by_cases hj : i = j
    · subst hj
      rw [List.getElem?_set_ne hjk] at h2
      exact r.dis i k s u b hjk hs h2 hm m2
    · by_cases hk : i = k
      · subst hk
        rw [List.getElem?_set_ne hj] at h1
        exact r.dis j i t s b hjk h1 hs m1 hm
      · rw [List.getElem?_set_ne hj] at h1
        rw [List.getElem?_set_ne hk] at h2
        exact r.dis j k t u b hjk h1 h2 m1 m2
  · have ha : a ≠ p := fun z => by
      subst z
      rcases hp0 with h | h
      · exact h2 h
      · rw [h] at h1; cases h1
    rw [upd_ne ha]
    exact r.frm a o h1 h2
  · by_cases hqp : q = p
    · subst hqp; rw [upd_same] at z; cases z
    · rw [upd_ne hqp] at z; exact r.mh q hq' z
/-- another object, that is nobody's here, is changed -/
theorem Rel.apartUpd {p : Addr} {o : HO} (r : Rel K e F H ρ σ) (hF : F p = none) (h0 : e.H0 p = none) (ap : Apart ρ σ p) : Rel K e F (upd H p o) ρ σ := by
  refine ⟨r.len, r.sub0, fun a u h => ?_, fun j t ht => ?_, r.dis, fun a u h1 h2 => ?_, r.old, fun q hq z => ?_, r.pm⟩
  · have ha : a ≠ p := fun z => by subst z; rw [hF] at h; cases h
    rw [upd_ne ha]
    exact r.sub a u h
  · obtain ⟨v, hv, q⟩ := r.slot j t ht
    refine ⟨v, hv, ?_⟩
    cases t with
    | v d => exact q
    | own xs =>
      obtain ⟨b, us, rfl, q1, q2, q3⟩ := q
      have nb : b ≠ p := fun z => by subst z; exact ap j _ ht rfl hv
      exact ⟨b, us, rfl, q1, by rw [upd_ne nb]; exact q2, q3⟩
    | io xs =>
      obtain ⟨b, us, rfl, q1, q2, q3⟩ := q
      have nb : b ≠ p := fun z => by subst z; exact ap j _ ht rfl hv
      exact ⟨b, us, rfl, q1, by rw [upd_ne nb]; exact q2, q3⟩
    | fz xs => exact q
    | raw xs => exact q
  · have ha : a ≠ p := fun z => by subst z; rw [h0] at h1; cases h1
    rw [upd_ne ha]
    exact r.frm a u h1 h2
  · by_cases hqp : q = p
    · subst hqp; rw [upd_same] at z; cases z
    · rw [upd_ne hqp] at z; exact r.mh q hq z
end

/-! ### targets -/
def Chg (is : List Nat) (σ σ' : L2.St) : Prop := σ'.length = σ.length ∧ ∀ j, j ∉ is → σ'[j]? = σ[j]?
def PostU (K : PySem.W.Frag) (e : Ent) (F H : Hp) (is : List Nat) (σ : L2.St) (r : R Unit) (Q : L2.St → Hp → Prop) : Prop := match r with
  | .ok () ρ' => ∀ σ', Chg is σ σ' → Rel K e F H ρ' σ' → Q σ' H
  | _ => False
def tG (K : PySem.W.Frag) (t : Tg) : TG := fun v σ H Q => ∃ e F ρ d, Rel K e F H ρ σ ∧ Rep K F v d ∧ PostU K e F H t.slots σ (putT ρ t d) Q
theorem Chg.set (i : Nat) (is : List Nat) (h : i ∈ is) (σ : L2.St) (v : Option V) : Chg is σ (σ.set i v) := ⟨List.length_set, fun j hj => List.getElem?_set_ne fun z => by subst z; exact hj h⟩
theorem Chg.trans {is : List Nat} {σ σ1 σ2 : L2.St} (a : Chg is σ σ1) (b : Chg is σ1 σ2) : Chg is σ σ2 := ⟨b.1.trans a.1, fun j hj => (b.2 j hj).trans (a.2 j hj)⟩
theorem Chg.mono {is js : List Nat} {σ σ1 : L2.St} (a : Chg is σ σ1) (h : ∀ i ∈ is, i ∈ js) : Chg js σ σ1 := ⟨a.1, fun j hj => a.2 j fun z => hj (h j z)⟩
theorem pg_weak {X : Cx} {tg : Expr} {t t' : TG} (h : PG X tg t) (k : ∀ v σ H Q, t' v σ H Q → t v σ H Q) : PG X tg t' := ⟨fun pins s σ H v u Q I r hq => h.run pins s σ H v u Q I r (k v σ H Q hq)⟩
theorem pg_or {X : Cx} {tg : Expr} {t t' : TG} (h : PG X tg t) (h' : PG X tg t') : PG X tg (fun v σ H Q => t v σ H Q ∨ t' v σ H Q) := ⟨fun pins s σ H v u Q I r hq => hq.elim (h.run pins s σ H v u Q I r) (h'.run pins s σ H v u Q I r)⟩
def gNs : List Nat → TGs
  | [] => gNil
  | i :: is => gCons (gName i) (gNs is)
theorem gNs_ok {K : PySem.W.Frag} {e : Ent} {F H : Hp} {js : List Nat} : ∀ {is : List Nat} {vs : List V} {ds : List D} {ρ : Env} {σ : L2.St} {Q : L2.St → Hp → Prop}, (∀ i ∈ is, i ∈ js) → Rel K e F H ρ σ → Reps K F vs ds → PostU K e F H js σ (putAll ρ is ds) Q → gNs is vs σ H Q
  | [], _, _, ρ, σ, Q, _, rel, .nil, post => ⟨rfl, post σ ⟨rfl, fun _ _ => rfl⟩ rel⟩
  | [], _, _, ρ, σ, Q, _, rel, .cons _ _, post => post.elim
  | i :: is, _, _, ρ, σ, Q, _, rel, .nil, post => post.elim
  | i :: is, v :: vs, d :: ds, ρ, σ, Q, hj, rel, .cons h hs, post => by
    refine ⟨v, vs, rfl, ?_⟩
    have post : PostU K e F H js σ ((putD ρ i d).bind fun _ ρ => putAll ρ is ds) Q := post
    cases hp : putD ρ i d with
    | ok u ρ1 =>
      rw [hp] at post
      obtain ⟨rel1, hi⟩ := rel.put (x := .pv d) h hp
      refine gNs_ok (fun k hk => hj k (List.mem_cons_of_mem _ hk)) rel1 hs ?_
      have post : PostU K e F H js σ (putAll ρ1 is ds) Q := post
      cases hq : putAll ρ1 is ds with
      | ok u ρ2 => rw [hq] at post; exact fun σ' c r => post σ' ((Chg.set i js (hj i List.mem_cons_self) σ (some v)).trans c) r
      | exc c x ρ2 => rw [hq] at post; exact post.elim
      | bad => rw [hq] at post; exact post.elim
    | exc c x ρ1 => rw [hp] at post; exact post.elim
    | bad => rw [hp] at post; exact post.elim
section
variable {X : Cx} {pos : Pos}
inductive NmOk (X : Cx) : List Nat → List Expr → Prop
  | nil : NmOk X [] []
  | cons {i : Nat} {is : List Nat} {e : Expr} {es : List Expr} : PG X e (gName i) → (assignEach (e :: es) X.env).map (·.2) = assign e X.env :: (assignEach es X.env).map (·.2) → NmOk X is es → NmOk X (i :: is) (e :: es)
theorem pgs_nm {is : List Nat} {es : List Expr} (h : NmOk X is es) : PGs X es (gNs is) := by
  induction h with
  | nil => exact pgs_nil
  | cons h hs _ ih => exact pgs_cons h ih hs
theorem pg_n {i : Nat} {e : Expr} (h : PG X e (gName i)) : PG X e (tG X.K (.n i)) := by
  refine pg_weak h fun v σ H Q ⟨e, F, ρ, d, rel, rep, post⟩ => ?_
  have post : PostU X.K e F H [i] σ (putD ρ i d) Q := post
  cases hp : putD ρ i d with
  | ok u ρ1 =>
    rw [hp] at post
    obtain ⟨rel1, hi⟩ := rel.put (x := .pv d) rep hp
    exact post _ (Chg.set i [i] List.mem_cons_self σ (some v)) rel1
  | exc c x ρ1 => rw [hp] at post; exact post.elim
  | bad => rw [hp] at post; exact post.elim
theorem pg_t {is : List Nat} {es : List Expr} {k : Nat} (hc : X.calm = true) (h : NmOk X is es) (hn : (assignEach es X.env).length = is.length) (hst : (assignEach es X.env).findIdx? (·.1) = none) : PG X (.Tuple es k pos) (tG X.K (.t is)) := by
  refine pg_weak (pg_or (pg_tup hc (pgs_nm h) hn hst) (pg_lst hc (pgs_nm h) hn hst)) fun v σ H Q ⟨e, F, ρ, d, rel, rep, post⟩ => ?_
  have post : PostU X.K e F H is σ (putT ρ (.t is) d) Q := post
  cases d with
  | list ds =>
    have post : PostU X.K e F H is σ (if ds.length = is.length then putAll ρ is ds else .bad) Q := post
    split at post
    · rename_i hl
      obtain ⟨a, us, rfl, h1, h2⟩ := rep.list_inv
      exact .inr ⟨a, us, rfl, .inl (rel.sub.rd h1), by rw [h2.length]; exact hl, gNs_ok (fun _ h => h) rel h2 post⟩
    · exact post.elim
  | tuple ds =>
    have post : PostU X.K e F H is σ (if ds.length = is.length then putAll ρ is ds else .bad) Q := post
    split at post
    · rename_i hl
      obtain ⟨a, us, rfl, h1, h2⟩ := rep.tup_inv
      exact .inl ⟨a, us, rfl, rel.sub.sqT h1, by rw [h2.length]; exact hl, gNs_ok (fun _ h => h) rel h2 post⟩
    · exact post.elim
  | _ => exact post.elim
end

/-! ### what is walked -/
def Yl (K : PySem.W.Frag) (F H : Hp) (x : V) (H' : Hp) (d : D) : Prop := (H' = H ∧ Rep K F x d) ∨ ∃ T us ds, x = .ref T ∧ H T = none ∧ H' = upd H T (.tup us) ∧ d = .tuple ds ∧ Reps K F us ds
def Walks (K : PySem.W.Frag) (F : Hp) (J : L2.It) (ds : List D) : Prop := (∀ (i : Nat) (d : D) (H : Hp), ds[i]? = some d → Ex F H → J.go i H ∧ ∀ x H', J.yld i H x H' → Yl K F H x H' d) ∧ ∀ H, Ex F H → J.stop ds.length H
def tI (K : PySem.W.Frag) (xa : Nat → Addr) (W : WX) (ev : Env → R (List D)) : TI := fun σ H R => ∃ e F ρ, Rel K e F H ρ σ ∧ Post K xa W e σ F (ev ρ) fun ds ρ' F' H' => ∀ J, Walks K F' J ds → R J H'
theorem SqL.inj {K : PySem.W.Frag} {H : Hp} {a : Addr} {us ws : List V} (h : Rd H a (.lst us)) (h' : Rd H a (.lst ws)) : us = ws := by
  rcases h with h | ⟨o, h⟩ <;> rcases h' with h' | ⟨o', h'⟩ <;> (rw [h] at h'; cases h') <;> rfl
theorem walks_list {K : PySem.W.Frag} {F : Hp} {a : Addr} {us : List V} {ds : List D} (h : Rd F a (.lst us)) (hs : Reps K F us ds) : Walks K F (Itl K a) ds := by
  refine ⟨fun i d H hd ex => ?_, fun H ex => ⟨us, .inl (ex.rd h), by rw [hs.length]; exact Nat.le_refl _⟩⟩
  obtain ⟨v, hv, rv⟩ := hs.get hd
  refine ⟨⟨us, v, .inl (ex.rd h), hv⟩, fun x H' ⟨e1, e2⟩ => .inl ⟨e1, ?_⟩⟩
  have := e2 us (.inl (ex.rd h))
  rw [hv] at this
  cases this
  exact rv
theorem walks_tup {K : PySem.W.Frag} {F : Hp} {a : Addr} {us : List V} {ds : List D} (h : SqT K F a us) (hs : Reps K F us ds) : Walks K F (Itt K a) ds := by
  refine ⟨fun i d H hd ex => ?_, fun H ex => ⟨us, ex.sqT h, by rw [hs.length]; exact Nat.le_refl _⟩⟩
  obtain ⟨v, hv, rv⟩ := hs.get hd
  refine ⟨⟨us, v, ex.sqT h, hv⟩, fun x H' ⟨e1, e2⟩ => .inl ⟨e1, ?_⟩⟩
  have := e2 us (ex.sqT h)
  rw [hv] at this
  cases this
  exact rv
theorem walks_str {K : PySem.W.Frag} {F : Hp} {s : Str} : Walks K F (Its s) (signsD s) := by
  refine ⟨fun i d H hd ex => ?_, fun H ex => ?_⟩
  · unfold signsD at hd
    rw [List.getElem?_map] at hd
    obtain ⟨c, hc, rfl⟩ := Option.map_eq_some_iff.mp hd
    have hc' : s.cps[i]? = some c := by rw [← Array.getElem?_toList]; exact hc
    refine ⟨(Array.getElem?_eq_some_iff.mp hc').1, fun x H' ⟨e1, c', e2, e3⟩ => .inl ⟨e1, ?_⟩⟩
    rw [hc'] at e2
    cases e2
    rw [e3]
    exact .str _
  · show s.cps.size ≤ (signsD s).length
    unfold signsD
    rw [List.length_map, Array.length_toList]
    exact Nat.le_refl _
theorem rangeD_len : ∀ (n : Nat) (lo c : Int), (rangeD lo n c).length = n
  | 0, _, _ => rfl
  | n + 1, lo, c => by unfold rangeD; rw [List.length_cons, rangeD_len n]
theorem rangeD_get : ∀ (n : Nat) (lo c : Int) (i : Nat), i < n → (rangeD lo n c)[i]? = some (.int (lo + i * c))
  | 0, _, _, _, h => by omega
  | n + 1, lo, c, 0, h => by unfold rangeD; simp
  | n + 1, lo, c, i + 1, h => by
    unfold rangeD
    rw [List.getElem?_cons_succ, rangeD_get n (lo + c) c i (by omega)]
    congr 2
    rw [Int.add_assoc]
    congr 1
    rw [show ((i + 1 : Nat) : Int) = (i : Int) + 1 by omega, Int.add_mul, Int.one_mul, Int.add_comm]
theorem rangeD_some {n : Nat} {lo c : Int} {i : Nat} {d : D} (h : (rangeD lo n c)[i]? = some d) : i < n ∧ d = .int (lo + i * c) := by
  have hi : i < n := by have := (List.getElem?_eq_some_iff.mp h).1; rwa [rangeD_len] at this
  rw [rangeD_get n lo c i hi] at h
  cases h
  exact ⟨hi, rfl⟩
theorem walks_range {K : PySem.W.Frag} {F : Hp} {lo : Int} {n : Nat} : Walks K F (Itr lo n) (rangeD lo n 1) := by
  refine ⟨fun i d H hd ex => ?_, fun H ex => by rw [rangeD_len]; exact Nat.le_refl _⟩
  obtain ⟨hi, rfl⟩ := rangeD_some hd
  refine ⟨hi, fun x H' ⟨e1, e2⟩ => .inl ⟨e1, ?_⟩⟩
  rw [e2, Int.mul_one]
  exact .int _
theorem walks_rangeC {K : PySem.W.Frag} {F : Hp} {lo c : Int} {n : Nat} : Walks K F (Itc lo c n) (rangeD lo n c) := by
  refine ⟨fun i d H hd ex => ?_, fun H ex => by rw [rangeD_len]; exact Nat.le_refl _⟩
  obtain ⟨hi, rfl⟩ := rangeD_some hd
  refine ⟨hi, fun x H' ⟨e1, e2⟩ => .inl ⟨e1, ?_⟩⟩
  rw [e2]
  exact .int _
theorem zipD_len : ∀ xs ys : List D, (zipD xs ys).length = min xs.length ys.length
  | [], _ => by simp [zipD]
  | _ :: _, [] => by simp [zipD]
  | x :: xs, y :: ys => by simp only [zipD, List.length_cons, zipD_len xs ys]; omega
theorem zipD_some : ∀ {xs ys : List D} {i : Nat} {d : D}, (zipD xs ys)[i]? = some d → ∃ x y, xs[i]? = some x ∧ ys[i]? = some y ∧ d = .tuple [x, y]
  | [], _, _, _, h => by simp [zipD] at h
  | _ :: _, [], _, _, h => by simp [zipD] at h
  | x :: xs, y :: ys, 0, d, h => by simp [zipD] at h; exact ⟨x, y, rfl, rfl, h.symm⟩
  | x :: xs, y :: ys, i + 1, d, h => by
    simp only [zipD, List.getElem?_cons_succ] at h ⊢
    exact zipD_some h
theorem walks_zipL {K : PySem.W.Frag} {F : Hp} {a b : Addr} {us ws : List V} {xs ys : List D} (h : Rd F a (.lst us)) (hs : Reps K F us xs) (h' : Rd F b (.lst ws)) (hs' : Reps K F ws ys) : Walks K F (Itz K a b) (zipD xs ys) := by
  refine ⟨fun i d H hd ex => ?_, fun H ex => ⟨us, ws, .inl (ex.rd h), .inl (ex.rd h'), by rw [zipD_len, hs.length, hs'.length]; omega⟩⟩
  obtain ⟨x, y, hx, hy, rfl⟩ := zipD_some hd
  obtain ⟨v, hv, rv⟩ := hs.get hx
  obtain ⟨w, hw, rw'⟩ := hs'.get hy
  refine ⟨⟨us, ws, v, w, .inl (ex.rd h), .inl (ex.rd h'), hv, hw⟩, fun z H' ⟨T, x', y', e1, e2, e3, e4, e5⟩ => .inr ⟨T, [x', y'], _, e1, e2, e3, rfl, ?_⟩⟩
  have h1 := e4 us (.inl (ex.rd h))
  have h2 := e5 ws (.inl (ex.rd h'))
  rw [hv] at h1
  rw [hw] at h2
  cases h1
  cases h2
  exact .cons rv (.cons rw' .nil)
theorem walks_zipT {K : PySem.W.Frag} {F : Hp} {a b : Addr} {us ws : List V} {xs ys : List D} (h : SqT K F a us) (hs : Reps K F us xs) (h' : SqT K F b ws) (hs' : Reps K F ws ys) : Walks K F (RZ.ItzT K a b) (zipD xs ys) := by
  refine ⟨fun i d H hd ex => ?_, fun H ex => ⟨us, ws, ex.sqT h, ex.sqT h', by rw [zipD_len, hs.length, hs'.length]; omega⟩⟩
  obtain ⟨x, y, hx, hy, rfl⟩ := zipD_some hd
  obtain ⟨v, hv, rv⟩ := hs.get hx
  obtain ⟨w, hw, rw'⟩ := hs'.get hy
  refine ⟨⟨us, ws, v, w, ex.sqT h, ex.sqT h', hv, hw⟩, fun z H' ⟨T, x', y', e1, e2, e3, e4, e5⟩ => .inr ⟨T, [x', y'], _, e1, e2, e3, rfl, ?_⟩⟩
  have h1 := e4 us (ex.sqT h)
  have h2 := e5 ws (ex.sqT h')
  rw [hv] at h1
  rw [hw] at h2
  cases h1
  cases h2
  exact .cons rv (.cons rw' .nil)
theorem enumD_len : ∀ (xs : List D) (k : Nat), (enumD k xs).length = xs.length
  | [], _ => rfl
  | x :: xs, k => by simp only [enumD, List.length_cons, enumD_len xs]
theorem enumD_some : ∀ {xs : List D} {k i : Nat} {d : D}, (enumD k xs)[i]? = some d → ∃ x, xs[i]? = some x ∧ d = .tuple [.int ((k + i : Nat) : Int), x]
  | [], _, _, _, h => by simp [enumD] at h
  | x :: xs, k, 0, d, h => by simp [enumD] at h; exact ⟨x, rfl, by rw [← h]; simp⟩
  | x :: xs, k, i + 1, d, h => by
    simp only [enumD, List.getElem?_cons_succ] at h ⊢
    obtain ⟨y, h1, h2⟩ := enumD_some h
    exact ⟨y, h1, by rw [h2]; congr 4; omega⟩
theorem walks_enum {K : PySem.W.Frag} {F : Hp} {a : Addr} {us : List V} {xs : List D} (h : Rd F a (.lst us)) (hs : Reps K F us xs) : Walks K F (Ite K a) (enumD 0 xs) := by
  refine ⟨fun i d H hd ex => ?_, fun H ex => ⟨us, .inl (ex.rd h), by rw [enumD_len, hs.length]; exact Nat.le_refl _⟩⟩
  obtain ⟨x, hx, rfl⟩ := enumD_some hd
  obtain ⟨v, hv, rv⟩ := hs.get hx
  refine ⟨⟨us, v, .inl (ex.rd h), hv⟩, fun z H' ⟨T, x', e1, e2, e3, e4⟩ => .inr ⟨T, [.int ((i : Nat) : Int), x'], _, e1, e2, e3, rfl, ?_⟩⟩
  have h1 := e4 us (.inl (ex.rd h))
  rw [hv] at h1
  cases h1
  rw [show (((0 + i : Nat)) : Int) = (i : Int) by omega]
  exact .cons (.int _) (.cons rv .nil)
section
variable {X : Cx} {tg a b c : Expr} {xa : Nat → Addr} {W : WX} {p pos : Pos} {ev : Env → R Val} {el : Env → R (List D)}
theorem pi_of (h : PE X a (tV X.K xa W ev)) : PI X tg a (tI X.K xa W fun ρ => bindD (ev ρ) fun x ρ => R.ofO (walkD x) ρ) := by
  refine pi_weak (pi_or (pi_or (pi_list (pe_toD h)) (pi_tup (pe_toD h))) (pi_str (pe_toD h))) fun σ H R ⟨e, F, ρ, rel, post⟩ => ?_
  simp only [bindD_dd] at post
  cases hv : dd (ev ρ) with
  | bad => rw [hv] at post; exact post.elim
  | exc c x ρ1 =>
    refine .inl (.inl ⟨e, F, ρ, rel, ?_⟩)
    have post := Post.bind post
    dsimp only
    rw [hv] at post ⊢
    obtain ⟨rfl, q⟩ := exc_post post
    exact q
  | ok d ρ1 =>
    have post := Post.bind post
    rw [hv] at post
    cases d with
    | list xs =>
      refine .inl (.inl ⟨e, F, ρ, rel, ?_⟩)
      dsimp only
      rw [hv]
      intro F' H' ex rel' v hv'
      obtain ⟨l, us, rfl, h1, h2⟩ := hv'.list_inv
      exact ⟨l, rfl, ⟨us, .inl (rel'.sub.rd h1)⟩, post F' H' ex rel' F' H' (Ex.refl _) rel' _ (walks_list h1 h2)⟩
    | tuple xs =>
      refine .inl (.inr ⟨e, F, ρ, rel, ?_⟩)
      dsimp only
      rw [hv]
      intro F' H' ex rel' v hv'
      obtain ⟨l, us, rfl, h1, h2⟩ := hv'.tup_inv
      exact ⟨l, rfl, ⟨us, rel'.sub.sqT h1⟩, post F' H' ex rel' F' H' (Ex.refl _) rel' _ (walks_tup h1 h2)⟩
    | str s =>
      refine .inr ⟨e, F, ρ, rel, ?_⟩
      dsimp only
      rw [hv]
      intro F' H' ex rel' v hv'
      exact ⟨s, hv'.str_inv, post F' H' ex rel' F' H' (Ex.refl _) rel' _ walks_str⟩
    | none => refine .inl (.inl ⟨e, F, ρ, rel, ?_⟩); dsimp only; rw [hv]; exact fun F' H' ex rel' v hv' => (post F' H' ex rel').elim
    | bool b => refine .inl (.inl ⟨e, F, ρ, rel, ?_⟩); dsimp only; rw [hv]; exact fun F' H' ex rel' v hv' => (post F' H' ex rel').elim
    | int i => refine .inl (.inl ⟨e, F, ρ, rel, ?_⟩); dsimp only; rw [hv]; exact fun F' H' ex rel' v hv' => (post F' H' ex rel').elim
    | dict kvs => refine .inl (.inl ⟨e, F, ρ, rel, ?_⟩); dsimp only; rw [hv]; exact fun F' H' ex rel' v hv' => (post F' H' ex rel').elim
end
end Pv

namespace Pv
open PySem L2 PyProof.Rows
section
variable {X : Cx} {tg a b c : Expr} {xa : Nat → Addr} {W : WX} {p pos : Pos} {ev eb : Env → R Val} {el : Env → R (List D)}
theorem rng_bind {r : R (List D)} {e : Ent} {σ : L2.St} {F : Hp} {Q : List D → Env → Hp → Hp → Prop} (h : Post X.K xa W e σ F (r.bind fun ds ρ => R.ofO ((rngOf ds).map fun p => rangeD p.1 p.2.1 p.2.2) ρ) Q) :
    Post X.K xa W e σ F r fun ds ρ1 F1 H1 => ∃ lo n st, rngOf ds = some (lo, n, st) ∧ ∀ F' H', Ex F1 F' → Rel X.K e F' H' ρ1 σ → Q (rangeD lo n st) ρ1 F' H' :=
  (Post.bind h).imp fun ds ρ1 F1 H1 ex1 rel1 q => by
    obtain ⟨z, hz, q2⟩ := q.ofO
    obtain ⟨⟨lo, n, st⟩, hw, rfl⟩ := Option.map_eq_some_iff.mp hz
    exact ⟨lo, n, st, hw, q2⟩
theorem pi_rng1 (hg : Gl X "range") (hm : X.mg "range" = none) (ha : PA X [a] (tL X.K xa W el)) (hs : starEach [a] X.env = [(false, eval a X.env)]) (hone : ∀ vs : List V, vs.length = 1 → True) :
    PI X tg (.Call (.Name "range" p) [a] [] pos) (fun σ H R => tL X.K xa W el σ H fun vs H1 => ∃ j : Int, vs = [.int j] ∧ -(2 ^ 62) ≤ j ∧ j < 2 ^ 62 ∧ R (Itr 0 j.toNat) H1) := pi_range1 hg hm ha hs
theorem reps_ints {K : PySem.W.Frag} {F : Hp} {vs : List V} {i j k : Int} : (Reps K F vs [.int i] → vs = [.int i]) ∧ (Reps K F vs [.int i, .int j] → vs = [.int i, .int j]) ∧ (Reps K F vs [.int i, .int j, .int k] → vs = [.int i, .int j, .int k]) := by
  refine ⟨fun h => ?_, fun h => ?_, fun h => ?_⟩
  · cases h with | cons h hs => cases hs; rw [h.int_inv]
  · cases h with | cons h hs => cases hs with | cons h2 hs => cases hs; rw [h.int_inv, h2.int_inv]
  · cases h with | cons h hs => cases hs with | cons h2 hs => cases hs with | cons h3 hs => cases hs; rw [h.int_inv, h2.int_inv, h3.int_inv]
theorem rngOf_1 {ds : List D} {lo : Int} {n : Nat} {st : Int} (hl : ds.length = 1) (h : rngOf ds = some (lo, n, st)) : ∃ j, ds = [.int j] ∧ -(2 ^ 62) ≤ j ∧ j < 2 ^ 62 ∧ lo = 0 ∧ n = j.toNat ∧ st = 1 := by
  match ds, hl with
  | [d], _ =>
    cases d <;> first | (cases h; done) | skip
    simp only [rngOf] at h
    split at h
    · rename_i hh
      cases h
      exact ⟨_, rfl, hh.1, hh.2, rfl, rfl, rfl⟩
    · cases h
theorem rngOf_2 {ds : List D} {lo : Int} {n : Nat} {st : Int} (hl : ds.length = 2) (h : rngOf ds = some (lo, n, st)) : ∃ i j, ds = [.int i, .int j] ∧ (-(2 ^ 62) ≤ i ∧ i < 2 ^ 62 ∧ -(2 ^ 62) ≤ j ∧ j < 2 ^ 62) ∧ lo = i ∧ n = (j - i).toNat ∧ st = 1 := by
  match ds, hl with
  | [d, d'], _ =>
    cases d <;> cases d' <;> first | (cases h; done) | skip
    simp only [rngOf] at h
    split at h
    · rename_i hh
      cases h
      exact ⟨_, _, rfl, ⟨hh.1.1, hh.1.2, hh.2.1, hh.2.2⟩, rfl, rfl, rfl⟩
    · cases h
theorem rngOf_3 {ds : List D} {lo : Int} {n : Nat} {st : Int} (hl : ds.length = 3) (h : rngOf ds = some (lo, n, st)) : ∃ i j, ds = [.int i, .int j, .int (-1)] ∧ (-(2 ^ 62) ≤ i ∧ i < 2 ^ 62 ∧ -(2 ^ 62) ≤ j ∧ j < 2 ^ 62) ∧ lo = i ∧ n = (i - j).toNat ∧ st = -1 := by
  match ds, hl with
  | [d, d', d''], _ =>
    cases d <;> cases d' <;> cases d'' <;> first | (cases h; done) | skip
    simp only [rngOf] at h
    split at h
    · rename_i hh
      cases h
      exact ⟨_, _, by rw [hh.1], ⟨hh.2.1.1, hh.2.1.2, hh.2.2.1, hh.2.2.2⟩, rfl, rfl, rfl⟩
    · cases h
/-- the list's length is the number of arguments -/
def LenIs (el : Env → R (List D)) (n : Nat) : Prop := ∀ ρ ds ρ', el ρ = .ok ds ρ' → ds.length = n
theorem post_len {e : Ent} {σ : L2.St} {F : Hp} {ρ : Env} {n : Nat} {Q : List D → Env → Hp → Hp → Prop} (hl : LenIs el n) (h : Post X.K xa W e σ F (el ρ) Q) : Post X.K xa W e σ F (el ρ) fun ds ρ1 F1 H1 => ds.length = n ∧ Q ds ρ1 F1 H1 := by
  cases he : el ρ with
  | ok ds ρ1 => rw [he] at h; exact fun F' H' ex rel => ⟨hl ρ ds ρ1 he, h F' H' ex rel⟩
  | exc c x ρ1 => rw [he] at h; obtain ⟨rfl, q⟩ := exc_post h; exact q
  | bad => rw [he] at h; exact h
theorem pi_rngA (hg : Gl X "range") (hm : X.mg "range" = none) (ha : PA X [a] (tL X.K xa W el)) (hl : LenIs el 1) (hs : starEach [a] X.env = [(false, eval a X.env)]) :
    PI X tg (.Call (.Name "range" p) [a] [] pos) (tI X.K xa W fun ρ => (el ρ).bind fun ds ρ => R.ofO ((rngOf ds).map fun p => rangeD p.1 p.2.1 p.2.2) ρ) := by
  refine pi_weak (pi_range1 hg hm ha hs) fun σ H R ⟨e, F, ρ, rel, post⟩ => ⟨e, F, ρ, rel, (post_len hl (rng_bind post)).imp fun ds ρ1 F1 H1 ex1 rel1 ⟨hln, lo, n, st, hr, q⟩ vs hvs => ?_⟩
  obtain ⟨j, rfl, h1, h2, rfl, rfl, rfl⟩ := rngOf_1 hln hr
  exact ⟨j, (reps_ints (j := 0) (k := 0)).1 hvs, h1, h2, q F1 H1 (Ex.refl _) rel1 _ walks_range⟩
theorem pi_rngB (hg : Gl X "range") (hm : X.mg "range" = none) (ha : PA X [a, b] (tL X.K xa W el)) (hl : LenIs el 2) (hs : starEach [a, b] X.env = [(false, eval a X.env), (false, eval b X.env)]) (hs2 : starEach [b] X.env = [(false, eval b X.env)]) :
    PI X tg (.Call (.Name "range" p) [a, b] [] pos) (tI X.K xa W fun ρ => (el ρ).bind fun ds ρ => R.ofO ((rngOf ds).map fun p => rangeD p.1 p.2.1 p.2.2) ρ) := by
  refine pi_weak (pi_range2 hg hm ha hs hs2) fun σ H R ⟨e, F, ρ, rel, post⟩ => ⟨e, F, ρ, rel, (post_len hl (rng_bind post)).imp fun ds ρ1 F1 H1 ex1 rel1 ⟨hln, lo, n, st, hr, q⟩ vs hvs => ?_⟩
  obtain ⟨i, j, rfl, h1, rfl, rfl, rfl⟩ := rngOf_2 hln hr
  exact ⟨_, j, (reps_ints (k := 0)).2.1 hvs, h1, q F1 H1 (Ex.refl _) rel1 _ walks_range⟩
theorem pi_rngC (hg : Gl X "range") (hm : X.mg "range" = none) (ha : PA X [a, b, c] (tL X.K xa W el)) (hl : LenIs el 3) (hs : starEach [a, b, c] X.env = (false, eval a X.env) :: starEach [b, c] X.env) (hpl : (backTo pos (starEach [b, c] X.env)).any (·.1) = false) :
    PI X tg (.Call (.Name "range" p) [a, b, c] [] pos) (tI X.K xa W fun ρ => (el ρ).bind fun ds ρ => R.ofO ((rngOf ds).map fun p => rangeD p.1 p.2.1 p.2.2) ρ) := by
  refine pi_weak (pi_range3 hg hm ha hs hpl) fun σ H R ⟨e, F, ρ, rel, post⟩ => ⟨e, F, ρ, rel, (post_len hl (rng_bind post)).imp fun ds ρ1 F1 H1 ex1 rel1 ⟨hln, lo, n, st, hr, q⟩ vs hvs => ?_⟩
  obtain ⟨i, j, rfl, ⟨h1, h2, h3, h4⟩, rfl, rfl, rfl⟩ := rngOf_3 hln hr
  exact ⟨_, j, -1, _, reps_ints.2.2 hvs, RgC.neg h1 h2 h3 h4, q F1 H1 (Ex.refl _) rel1 _ walks_rangeC⟩
theorem pi_zip' {elts : List Expr} {kk : Nat} {tpos : Pos} (hg : Gl X "zip") (hm : X.mg "zip" = none) (ha : PE X a (tV X.K xa W ev)) (hb : PE X b (tV X.K xa W eb)) (hs : starEach [a, b] X.env = (false, eval a X.env) :: starEach [b] X.env) (hs2 : starEach [b] X.env = (false, eval b X.env) :: starEach [] X.env) (hpl : (backTo pos (starEach [b] X.env)).any (·.1) = false) :
    PI X (.Tuple elts kk tpos) (.Call (.Name "zip" p) [a, b] [] pos) (tI X.K xa W fun ρ => bindD (ev ρ) fun x ρ => bindD (eb ρ) fun y ρ => R.ofO (zipO x y) ρ) := by
  refine pi_weak (RZ.pi_zipA hg hm (pa_cons (pe_toD ha) (pa_cons (pe_toD hb) pa_nil hs2) hs) hs hpl) fun σ H R ⟨e, F, ρ, rel, post⟩ => ?_
  simp only [bindD_dd] at post
  refine ⟨e, F, ρ, rel, (Post.bind post).imp fun dx ρ1 F1 H1 ex1 rel1 q x hx => ⟨e, F1, ρ1, rel1, (Post.bind q).imp fun dy ρ2 F2 H2 ex2 rel2 q2 y hy => ?_⟩⟩
  obtain ⟨zs, hz, q3⟩ := q2.ofO
  cases dx <;> cases dy <;> first | (cases hz; done) | skip
  · cases hz
    obtain ⟨l, us, rfl, h1, h2⟩ := (hx.mono ex2).list_inv
    obtain ⟨m, ws, rfl, h3, h4⟩ := hy.list_inv
    exact ⟨l, m, us, ws, rfl, .inl ⟨.inl (rel2.sub.rd h1), .inl (rel2.sub.rd h3), q3 F2 H2 (Ex.refl _) rel2 _ (walks_zipL h1 h2 h3 h4)⟩⟩
  · cases hz
    obtain ⟨l, us, rfl, h1, h2⟩ := (hx.mono ex2).tup_inv
    obtain ⟨m, ws, rfl, h3, h4⟩ := hy.tup_inv
    exact ⟨l, m, us, ws, rfl, .inr ⟨rel2.sub.sqT h1, rel2.sub.sqT h3, q3 F2 H2 (Ex.refl _) rel2 _ (walks_zipT h1 h2 h3 h4)⟩⟩
theorem pi_enum' {elts : List Expr} {kk : Nat} {tpos : Pos} (hg : Gl X "enumerate") (hm : X.mg "enumerate" = none) (ha : PE X a (tV X.K xa W ev)) (hs : starEach [a] X.env = [(false, eval a X.env)]) :
    PI X (.Tuple elts kk tpos) (.Call (.Name "enumerate" p) [a] [] pos) (tI X.K xa W fun ρ => bindD (ev ρ) fun x ρ => R.ofO (enumO x) ρ) := by
  refine pi_weak (pi_enum hg hm (pa_cons (pe_toD ha) pa_nil hs) hs) fun σ H R ⟨e, F, ρ, rel, post⟩ => ?_
  simp only [bindD_dd] at post
  refine ⟨e, F, ρ, rel, (Post.bind post).imp fun dx ρ1 F1 H1 ex1 rel1 q x hx => ?_⟩
  obtain ⟨zs, hz, q3⟩ := q.ofO
  cases dx <;> first | (cases hz; done) | skip
  cases hz
  obtain ⟨l, us, rfl, h1, h2⟩ := hx.list_inv
  exact ⟨l, us, rfl, .inl (rel1.sub.rd h1), q3 F1 H1 (Ex.refl _) rel1 _ (walks_enum h1 h2)⟩
end

/-! ### statements -/
section
variable (K : PySem.W.Frag) (xa : Nat → Addr) (W : WX)
def PostS (e : Ent) (F : Hp) (D : Ends) (r : SR) : Prop := match r with
  | .nx ρ' => ∀ F' H' σ', Ex F F' → Rel K e F' H' ρ' σ' → D.nx σ' H'
  | .brk ρ' => ∀ F' H' σ', Ex F F' → Rel K e F' H' ρ' σ' → D.bk σ' H'
  | .ct ρ' => ∀ F' H' σ', Ex F F' → Rel K e F' H' ρ' σ' → D.ct σ' H'
  | .ret x ρ' => ∀ F' H' σ' v, Ex F F' → Rel K e F' H' ρ' σ' → VR K e F' H' ρ' σ' v x → D.rt v H'
  | .exc c none ρ' => ∀ F' H' σ', Ex F F' → Rel K e F' H' ρ' σ' → W (.ref (xa c)) none σ' H'
  | .exc _ (some _) _ => False
  | .bad => False
/-- only the caller's list may change -/
def EntF (e : Ent) : Prop := ∀ a, e.M a → e.pI = some a
def tS (ev : Env → SR) : TS := fun D σ H => ∃ e F ρ, EntF e ∧ Rel K e F H ρ σ ∧ PostS K xa W e F D (ev ρ)
end
section
variable {K : PySem.W.Frag} {xa : Nat → Addr} {W : WX} {e : Ent} {F F1 H : Hp} {σ : L2.St} {D : Ends} {α : Type}
theorem PostS.weak {r : SR} (ex : Ex F F1) (h : PostS K xa W e F D r) : PostS K xa W e F1 D r := by
  cases r with
  | nx ρ => exact fun F' H' σ' ex' rel => h F' H' σ' (ex.trans ex') rel
  | brk ρ => exact fun F' H' σ' ex' rel => h F' H' σ' (ex.trans ex') rel
  | ct ρ => exact fun F' H' σ' ex' rel => h F' H' σ' (ex.trans ex') rel
  | ret x ρ => exact fun F' H' σ' v ex' rel => h F' H' σ' v (ex.trans ex') rel
  | exc c x ρ =>
    cases x with
    | none => exact fun F' H' σ' ex' rel => h F' H' σ' (ex.trans ex') rel
    | some d => exact h
  | bad => exact h
theorem PostS.toS {r : R α} {f : α → Env → SR} (h : PostS K xa W e F D (r.toS f)) : Post K xa W e σ F r fun a ρ1 F1 H1 => PostS K xa W e F1 D (f a ρ1) := by
  cases r with
  | ok a ρ => exact fun F' H' ex rel => PostS.weak (r := f a ρ) ex h
  | exc c x ρ =>
    cases x with
    | none => exact fun F' H' ex rel => h F' H' σ ex rel
    | some d => exact h
  | bad => exact h
theorem PostS.bind {r : SR} {f : Env → SR} {N : L2.St → Hp → Prop} (h : PostS K xa W e F D (r.bind f)) (hN : ∀ ρ F' H' σ', Ex F F' → Rel K e F' H' ρ σ' → PostS K xa W e F' D (f ρ) → N σ' H') : PostS K xa W e F { D with nx := N } r := by
  cases r with
  | nx ρ => exact fun F' H' σ' ex rel => hN ρ F' H' σ' ex rel (PostS.weak ex h)
  | brk ρ => exact h
  | ct ρ => exact h
  | ret x ρ => exact h
  | exc c x ρ =>
    cases x with
    | none => exact h
    | some d => exact h
  | bad => exact h
end
section
variable {X : Cx} {a b c : Expr} {st : Stmt} {sts : List Stmt} {xa : Nat → Addr} {W : WX} {p pos : Pos} {ev : Env → R Val} {el : Env → R (List D)} {t : TE}
theorem pss_nil' : PSs X [] (tS X.K xa W fun ρ => .nx ρ) := pss_weak pss_nil fun D σ H ⟨e, F, ρ, ef, rel, post⟩ => post F H σ (Ex.refl F) rel
theorem pss_cons' {es : Env → SR} {er : Env → SR} (h : PS X st (tS X.K xa W es)) (hr : PSs X sts (tS X.K xa W er)) : PSs X (st :: sts) (tS X.K xa W fun ρ => (es ρ).bind er) := by
  refine pss_weak (pss_cons h hr) fun D σ H ⟨e, F, ρ, ef, rel, post⟩ => ⟨e, F, ρ, ef, rel, ?_⟩
  exact PostS.bind post fun ρ1 F1 H1 σ1 ex1 rel1 q => ⟨e, F1, ρ1, ef, rel1, q⟩
theorem ps_pass' : PS X (.Pass pos) (tS X.K xa W fun ρ => .nx ρ) := ps_weak ps_pass fun D σ H ⟨e, F, ρ, ef, rel, post⟩ => post F H σ (Ex.refl F) rel
theorem ps_brk' : PS X (.Break pos) (tS X.K xa W fun ρ => .brk ρ) := ps_weak ps_break fun D σ H ⟨e, F, ρ, ef, rel, post⟩ => post F H σ (Ex.refl F) rel
theorem ps_ct' : PS X (.Continue pos) (tS X.K xa W fun ρ => .ct ρ) := ps_weak ps_continue fun D σ H ⟨e, F, ρ, ef, rel, post⟩ => post F H σ (Ex.refl F) rel
theorem ps_retN' : PS X (.Return none pos) (tS X.K xa W fun ρ => .ret (.pv .none) ρ) := ps_weak ps_retN fun D σ H ⟨e, F, ρ, ef, rel, post⟩ => post F H σ .non (Ex.refl F) rel .non
theorem ps_ret' (h : PE X a (tV X.K xa W ev)) : PS X (.Return (some a) pos) (tS X.K xa W fun ρ => (ev ρ).toS fun x ρ => .ret x ρ) := by
  refine ps_weak (ps_ret h) fun D σ H ⟨e, F, ρ, ef, rel, post⟩ => ⟨e, F, ρ, rel, (PostS.toS post).imp fun x ρ1 F1 H1 ex1 rel1 q v hv => ?_⟩
  exact q F1 H1 σ v (Ex.refl _) rel1 hv
theorem Rel.unset {K : PySem.W.Frag} {e : Ent} {F H : Hp} {ρ : Env} {σ : L2.St} {i : Nat} (r : Rel K e F H ρ σ) (hi : i < ρ.length) : Rel K e F H (ρ.set i none) σ :=
  ⟨by rw [List.length_set]; exact r.len, r.sub0, r.sub, fun j t ht => by
    by_cases hj : i = j
    · subst hj; rw [List.getElem?_set_self hi] at ht; cases ht
    · rw [List.getElem?_set_ne hj] at ht; exact r.slot j t ht, fun j k t u b hjk h1 h2 => by
    by_cases hj : i = j
    · subst hj; rw [List.getElem?_set_self hi] at h1; cases h1
    · by_cases hk : i = k
      · subst hk; rw [List.getElem?_set_self hi] at h2; cases h2
      · rw [List.getElem?_set_ne hj] at h1; rw [List.getElem?_set_ne hk] at h2; exact r.dis j k t u b hjk h1 h2, r.frm, r.old, r.mh, r.pm⟩
theorem ps_retv' {i : Nat} (h : PE X a (tVar i)) : PS X (.Return (some a) pos) (tS X.K xa W fun ρ => retV ρ i) := by
  refine ps_weak (ps_ret h) fun D σ H ⟨e, F, ρ, ef, rel, post⟩ => ?_
  have post : PostS X.K xa W e F D (retV ρ i) := post
  have other : ∀ s, ρ[i]? = some (some s) → (∀ xs, s ≠ .raw xs) → PostS X.K xa W e F D (.ret (.pv s.dat) (ρ.set i (some s.frozen))) → tRet (tVar i) D σ H := fun s hs hn post => by
    obtain ⟨F1, v, ex1, hv, rep, rel1⟩ := rel.freeze hs hn
    exact ⟨v, hv, post F1 H σ v ex1 rel1 rep⟩
  unfold retV at post
  split at post
  · rename_i xs hs
    have hi : i < ρ.length := (List.getElem?_eq_some_iff.mp hs).1
    obtain ⟨v, hv, q, us, rfl, q1, q2, q3, q4, q5⟩ := rel.slot i _ hs
    have hM : ¬ e.M q := fun h => q5 (ef q h)
    refine ⟨_, hv, post F H σ _ (Ex.refl F) (rel.unset hi) ⟨q, us, rfl, q1, q2, q3, q4.resolve_left hM, hM, q5, fun j t ht htm hσ => ?_⟩⟩
    by_cases hj : i = j
    · subst hj; rw [List.getElem?_set_self hi] at ht; cases ht
    · rw [List.getElem?_set_ne hj] at ht
      exact rel.dis i j _ t q hj hs ht rfl htm hv hσ
  · exact post.elim
  · rename_i s hne hn hs
    exact other s hs (fun xs z => hn xs (by rw [z])) post
  · exact post.elim
theorem ps_expr' (h : PE X a (tV X.K xa W ev)) (hs : swapsWith a none pos.line X.env = pure false) : PS X (.Expr a pos) (tS X.K xa W fun ρ => (ev ρ).toS fun _ ρ => .nx ρ) := by
  refine ps_weak (ps_expr h hs) fun D σ H ⟨e, F, ρ, ef, rel, post⟩ => ⟨e, F, ρ, rel, (PostS.toS post).imp fun x ρ1 F1 H1 ex1 rel1 q v hv => ?_⟩
  exact q F1 H1 σ (Ex.refl _) rel1
theorem ps_ite' {ec : Env → R Bool} {ea eb : Env → SR} {sa sb : List Stmt} (hc : PT X c (tBo X.K xa W ec)) (ha : PSs X sa (tS X.K xa W ea)) (hb : PSs X sb (tS X.K xa W eb)) : PS X (.If c sa sb pos) (tS X.K xa W fun ρ => (ec ρ).toS fun t ρ => iteS t (ea ρ) (eb ρ)) := by
  refine ps_weak (ps_if hc ha hb) fun D σ H ⟨e, F, ρ, ef, rel, post⟩ => ⟨e, F, ρ, rel, (PostS.toS post).imp fun t ρ1 F1 H1 ex1 rel1 q => ?_⟩
  cases t with
  | true => exact iteT ⟨e, F1, ρ1, ef, rel1, q⟩
  | false => exact iteF ⟨e, F1, ρ1, ef, rel1, q⟩
/-- x = e -/
theorem ps_asgN {i : Nat} (h : PS X st (tAsg t (gName i))) (hr : ∀ σ H Q, tV X.K xa W ev σ H Q → t σ H Q) : PS X st (tS X.K xa W fun ρ => (ev ρ).toS fun x ρ => asgV ρ (.n i) x) := by
  refine ps_weak h fun D σ H ⟨e, F, ρ, ef, rel, post⟩ => hr σ H _ ⟨e, F, ρ, rel, (PostS.toS post).imp fun x ρ1 F1 H1 ex1 rel1 q v hv => ?_⟩
  have q : PostS X.K xa W e F1 D (toNx (putV ρ1 i x)) := q
  cases hp : putV ρ1 i x with
  | ok u ρ2 =>
    rw [hp] at q
    exact q F1 H1 _ (Ex.refl _) (rel1.put hv hp).1
  | exc c y ρ2 => rw [hp] at q; unfold putV at hp; split at hp <;> cases hp
  | bad => rw [hp] at q; exact q.elim
theorem putAll_exc : ∀ {is : List Nat} {ds : List D} {ρ : Env} {c : Nat} {x : Option D} {ρ' : Env}, putAll ρ is ds ≠ .exc c x ρ'
  | [], [], _, _, _, _ => fun h => nomatch h
  | [], _ :: _, _, _, _, _ => fun h => nomatch h
  | _ :: _, [], _, _, _, _ => fun h => nomatch h
  | i :: is, d :: ds, ρ, c, x, ρ' => fun h => by
    have h : (putD ρ i d).bind (fun _ ρ => putAll ρ is ds) = .exc c x ρ' := h
    unfold putD putV at h
    split at h
    · exact putAll_exc (is := is) (ds := ds) h
    · cases h
theorem putT_exc {tg : Tg} {d : D} {ρ : Env} {c : Nat} {x : Option D} {ρ' : Env} : putT ρ tg d ≠ .exc c x ρ' := fun h => by
  cases tg with
  | n i =>
    have h : putD ρ i d = .exc c x ρ' := h
    unfold putD putV at h
    split at h <;> cases h
  | t is =>
    cases d with
    | list ds => have h : (if ds.length = is.length then putAll ρ is ds else .bad) = .exc c x ρ' := h; split at h; exact putAll_exc h; cases h
    | tuple ds => have h : (if ds.length = is.length then putAll ρ is ds else .bad) = .exc c x ρ' := h; split at h; exact putAll_exc h; cases h
    | _ => cases h
theorem tG_of {e : Ent} {F H : Hp} {ρ : Env} {σ : L2.St} {tg : Tg} {d : D} {v : V} {Q : L2.St → Hp → Prop} {f : Env → SR} {D : Ends} (rel : Rel X.K e F H ρ σ) (rep : Rep X.K F v d) (h : PostS X.K xa W e F D ((putT ρ tg d).toS fun _ ρ => f ρ))
    (k : ∀ ρ' σ', Chg tg.slots σ σ' → Rel X.K e F H ρ' σ' → PostS X.K xa W e F D (f ρ') → Q σ' H) : tG X.K tg v σ H Q := by
  refine ⟨e, F, ρ, d, rel, rep, ?_⟩
  cases hp : putT ρ tg d with
  | ok u ρ' => rw [hp] at h; exact fun σ' c r => k ρ' σ' c r h
  | exc c x ρ' => exact absurd hp putT_exc
  | bad => rw [hp] at h; exact h.elim
/-- a, b = e -/
theorem ps_asgT {is : List Nat} {tge : Expr} (he : PE X a (tV X.K xa W ev)) (hg : PG X tge (tG X.K (.t is))) (hs : swapsWithSole [tge] a pos.line X.env = pure false) (hw : swappedStores [tge] a X.env = pure none) (h1 : (assignEach [tge] X.env).map (·.2) = [assign tge X.env]) :
    PS X (.Assign [tge] a pos) (tS X.K xa W fun ρ => (ev ρ).toS fun x ρ => asgV ρ (.t is) x) := by
  refine ps_weak (ps_asg (pe_toD he) hg hs hw h1) fun D σ H ⟨e, F, ρ, ef, rel, post⟩ => ⟨e, F, ρ, rel, ?_⟩
  have post : PostS X.K xa W e F D ((ev ρ).toS fun x ρ => toNx (putT ρ (.t is) x.dat)) := post
  have e1 : ((ev ρ).toS fun x ρ => toNx (putT ρ (.t is) x.dat)) = (dd (ev ρ)).toS fun x ρ => toNx (putT ρ (.t is) x) := by cases ev ρ <;> rfl
  rw [e1] at post
  exact (PostS.toS post).imp fun d ρ1 F1 H1 ex1 rel1 q v hv => tG_of (f := fun ρ => .nx ρ) rel1 hv q fun ρ' σ' _ rel' q' => q' F1 H1 σ' (Ex.refl _) rel'
theorem par_put {e : Ent} {F H : Hp} {D : Ends} : ∀ {is : List Nat} {ds : List PyData} {ρ : Env}, PostS X.K xa W e F D (toNx (putAll ρ is ds)) → ∃ ρ', putAll ρ is ds = .ok () ρ' ∧ PostS X.K xa W e F D (.nx ρ') := fun {is ds ρ} h => by
  cases hp : putAll ρ is ds with
  | ok u ρ' => rw [hp] at h; exact ⟨ρ', rfl, h⟩
  | exc c x ρ' => exact absurd hp putAll_exc
  | bad => rw [hp] at h; exact h.elim
theorem put_cons {ρ ρ' : Env} {i : Nat} {is : List Nat} {d : D} {ds : List D} (h : putAll ρ (i :: is) (d :: ds) = .ok () ρ') : ∃ ρ1, putD ρ i d = .ok () ρ1 ∧ putAll ρ1 is ds = .ok () ρ' := by
  have h : (putD ρ i d).bind (fun _ ρ => putAll ρ is ds) = .ok () ρ' := h
  cases hp : putD ρ i d with
  | ok u ρ1 => rw [hp] at h; exact ⟨ρ1, rfl, h⟩
  | exc c x ρ1 => rw [hp] at h; cases h
  | bad => rw [hp] at h; cases h
theorem ps_par2' {i j : Nat} (hl : LenIs el 2) (h : PS X st (tPar i j (tL X.K xa W el))) : PS X st (tS X.K xa W fun ρ => (el ρ).toS fun ds ρ => toNx (putAll ρ [i, j] ds)) := by
  refine ps_weak h fun D σ H ⟨e, F, ρ, ef, rel, post⟩ => ⟨e, F, ρ, rel, (post_len hl (PostS.toS post)).imp fun ds ρ1 F1 H1 ex1 rel1 ⟨hln, q⟩ vs hvs => ?_⟩
  match ds, hln, hvs with
  | [d1, d2], _, .cons r1 (.cons r2 .nil) =>
    obtain ⟨ρ2, hp, q⟩ := par_put (H := H1) q
    obtain ⟨ρa, h1, hp⟩ := put_cons hp
    obtain ⟨ρb, h2, hp⟩ := put_cons hp
    cases hp
    have relA := (rel1.put (x := .pv d1) r1 h1).1
    have relB := (relA.put (x := .pv d2) r2 h2).1
    exact ⟨_, _, rfl, q F1 H1 _ (Ex.refl _) relB⟩
theorem ps_par3' {i j l : Nat} (hl : LenIs el 3) (h : PS X st (tPar3 i j l (tL X.K xa W el))) : PS X st (tS X.K xa W fun ρ => (el ρ).toS fun ds ρ => toNx (putAll ρ [i, j, l] ds)) := by
  refine ps_weak h fun D σ H ⟨e, F, ρ, ef, rel, post⟩ => ⟨e, F, ρ, rel, (post_len hl (PostS.toS post)).imp fun ds ρ1 F1 H1 ex1 rel1 ⟨hln, q⟩ vs hvs => ?_⟩
  match ds, hln, hvs with
  | [d1, d2, d3], _, .cons r1 (.cons r2 (.cons r3 .nil)) =>
    obtain ⟨ρ2, hp, q⟩ := par_put (H := H1) q
    obtain ⟨ρa, h1, hp⟩ := put_cons hp
    obtain ⟨ρb, h2, hp⟩ := put_cons hp
    obtain ⟨ρc, h3, hp⟩ := put_cons hp
    cases hp
    have relA := (rel1.put (x := .pv d1) r1 h1).1
    have relB := (relA.put (x := .pv d2) r2 h2).1
    have relC := (relB.put (x := .pv d3) r3 h3).1
    exact ⟨_, _, _, rfl, q F1 H1 _ (Ex.refl _) relC⟩
/-- x += e -/
theorem ps_aug' {i : Nat} {o : BOp} {f : Int → Int → Int} (h : PS X st (tAug i (tD X.K xa W fun ρ => dd (ev ρ)) (ipI f))) (hf : ∀ x y z, augD o x y = some z → ∃ a b, x = .int a ∧ y = .int b ∧ z = .int (f a b)) :
    PS X st (tS X.K xa W fun ρ => ((lookV ρ i).bind fun x ρ => bindD (ev ρ) fun y ρ => R.ofO (augD o x y) ρ).toS fun z ρ => toNx (putD ρ i z)) := by
  refine ps_weak h fun D σ H ⟨e, F, ρ, ef, rel, post⟩ => ?_
  have post := PostS.toS (σ := σ) post
  obtain ⟨s, hs, hn, post⟩ := lookV_some post
  obtain ⟨v, hv, pk⟩ := rel.look hs hn
  simp only [bindD_dd] at post
  refine ⟨v, hv, e, F, ρ, rel, (Post.bind post).imp fun dy ρ1 F1 H1 ex1 rel1 q y hy => ?_⟩
  obtain ⟨z, hz, q2⟩ := q.ofO
  obtain ⟨a, b, h1, rfl, rfl⟩ := hf _ _ _ hz
  rw [h1] at pk
  refine ⟨a, b, (pk.plain fun ys z => nomatch z).int_inv, hy.int_inv, ?_⟩
  have q3 := q2 F1 H1 (Ex.refl _) rel1
  have q3 : PostS X.K xa W e F1 D (toNx (putV ρ1 i (.pv (.int (f a b))))) := q3
  cases hp : putV ρ1 i (.pv (.int (f a b))) with
  | ok u ρ2 =>
    rw [hp] at q3
    exact q3 F1 H1 _ (Ex.refl _) (rel1.put (x := .pv (.int (f a b))) (.int _) hp).1
  | exc c y ρ2 => rw [hp] at q3; unfold putV at hp; split at hp <;> cases hp
  | bad => rw [hp] at q3; exact q3.elim
end
end Pv

namespace Pv
open PySem L2 PyProof.Rows
section
variable {X : Cx} {a b c : Expr} {st : Stmt} {sts : List Stmt} {xa : Nat → Addr} {W : WX} {p pos : Pos} {ev eb : Env → R Val} {el : Env → R (List D)} {t : TE}
theorem own_at {K : PySem.W.Frag} {e : Ent} {F H : Hp} {ρ : Env} {σ : L2.St} {i : Nat} {xs : List D} (rel : Rel K e F H ρ σ) (hi : ioArg ρ i = some xs) : ∃ s p us, ρ[i]? = some (some s) ∧ (s = .own xs ∨ s = .io xs) ∧ σ[i]? = some (some (.ref p)) ∧ H p = some (.lst us) ∧ Reps K F us xs := by
  rcases ioArg_some hi with hs | hs
  · obtain ⟨v, hv', p, us, rfl, q1, q2, q3, _⟩ := rel.slot i _ hs
    exact ⟨_, p, us, hs, .inl rfl, hv', q2, q3⟩
  · obtain ⟨v, hv', p, us, rfl, q1, q2, q3, _⟩ := rel.slot i _ hs
    exact ⟨_, p, us, hs, .inr rfl, hv', q2, q3⟩
/-- x.append(e) -/
theorem ps_app' {i : Nat} (h : PS X st (tDrop (tBM X.K "list" rAppend (tVar i) (tCons (tD X.K xa W fun ρ => dd (ev ρ)) tNil)))) :
    PS X st (tS X.K xa W fun ρ => (R.ofO (ioArg ρ i) ρ).toS fun _ ρ => (dd (ev ρ)).toS fun y ρ => addX ρ i y) := by
  refine ps_weak h fun D σ H ⟨e, F, ρ, ef, rel, post⟩ => ?_
  have post : PostS X.K xa W e F D ((R.ofO (ioArg ρ i) ρ).toS fun _ ρ => (dd (ev ρ)).toS fun y ρ => addX ρ i y) := post
  cases hi : ioArg ρ i with
  | none => rw [hi] at post; exact post.elim
  | some xs0 =>
    rw [hi] at post
    have post : PostS X.K xa W e F D ((dd (ev ρ)).toS fun y ρ => addX ρ i y) := post
    obtain ⟨s, q, us, hs, hss, hσ, hH, hR⟩ := own_at rel hi
    refine ⟨_, hσ, .inl ⟨rfl, us, .inl (.inl hH)⟩, e, F, ρ, rel, (PostS.toS post).imp fun dy ρ1 F1 H1 ex1 rel1 q2 y hy => ?_⟩
    have fin : ∀ (xs : List PyData) (s' : Slot), ioArg ρ1 i = some xs → xs.length < LIM → ((ρ1[i]? = some (some (.own xs)) ∧ s' = .own (xs ++ [dy])) ∨ (ρ1[i]? = some (some (.io xs)) ∧ s' = .io (xs ++ [dy]))) → PostS X.K xa W e F1 D (.nx (ρ1.set i (some s'))) → rAppend (.ref q) [y] H1 fun _ H2 => D.nx σ H2 := fun xs s' hi1 hl hc q3 => by
      obtain ⟨s1, p1, us1, hs1, hss1, hσ1, hH1, hR1⟩ := own_at rel1 hi1
      rw [hσ] at hσ1
      cases hσ1
      refine ⟨q, us1, y, rfl, rfl, hH1, by rw [hR1.length]; exact lim_lt hl, ?_⟩
      refine q3 F1 _ σ (Ex.refl _) (rel1.write (s := s1) (s' := s') (xs' := xs ++ [dy]) hs1 ?_ hσ (hR1.append (.cons hy .nil)))
      rcases hc with ⟨h1, h2⟩ | ⟨h1, h2⟩
      · rw [h1] at hs1; cases hs1; exact .inl ⟨xs, rfl, h2⟩
      · rw [h1] at hs1; cases hs1; exact .inr ⟨xs, rfl, h2⟩
    unfold addX at q2
    split at q2
    · rename_i xs hs1
      split at q2
      · rename_i hl
        exact fin xs _ (by unfold ioArg; rw [hs1]) hl (.inl ⟨hs1, rfl⟩) q2
      · exact q2.elim
    · rename_i xs hs1
      split at q2
      · rename_i hl
        exact fin xs _ (by unfold ioArg; rw [hs1]) hl (.inr ⟨hs1, rfl⟩) q2
      · exact q2.elim
    · exact q2.elim
/-- x[i] = e -/
theorem ps_set' {i : Nat} {tge : Expr} (he : PE X a (tV X.K xa W ev)) (hg : PG X tge (gSub (tVar i) (tD X.K xa W fun ρ => dd (eb ρ)) rSetL)) (hs : swapsWithSole [tge] a pos.line X.env = pure false) (hw : swappedStores [tge] a X.env = pure none) (h1 : (assignEach [tge] X.env).map (·.2) = [assign tge X.env]) :
    PS X (.Assign [tge] a pos) (tS X.K xa W fun ρ => (bindD (ev ρ) fun d ρ => (lookV ρ i).bind fun _ ρ => bindD (eb ρ) fun j ρ => R.ok (d, j) ρ).toS fun p ρ => putX ρ i p.2 p.1) := by
  refine ps_weak (ps_asg (pe_toD he) hg hs hw h1) fun D σ H ⟨e, F, ρ, ef, rel, post⟩ => ⟨e, F, ρ, rel, ?_⟩
  have post := PostS.toS (σ := σ) post
  simp only [bindD_dd] at post
  refine (Post.bind post).imp fun dv ρ1 F1 H1 ex1 rel1 q v hv => ?_
  obtain ⟨s, hs1, hn1, q⟩ := lookV_some q
  obtain ⟨o, ho, _⟩ := rel1.look hs1 hn1
  refine ⟨o, ho, e, F1, ρ1, rel1, (Post.bind q).imp fun dj ρ2 F2 H2 ex2 rel2 q2 j hj => ?_⟩
  have q2 : PostS X.K xa W e F2 D (putX ρ2 i dj dv) := q2 F2 H2 (Ex.refl _) rel2
  have fin : ∀ (xs ys : List PyData) (s s' : Slot) (k : Int), ρ2[i]? = some (some s) → (s = .own xs ∧ s' = .own ys ∨ s = .io xs ∧ s' = .io ys) → dj = .int k → setAt? xs k dv = some ys → PostS X.K xa W e F2 D (.nx (ρ2.set i (some s'))) → rSetL o j v H2 fun H3 => D.nx σ H3 := fun xs ys s s' k hs2 hss hk hset q3 => by
    have hi : ioArg ρ2 i = some xs := by
      unfold ioArg
      rw [hs2]
      rcases hss with ⟨rfl, _⟩ | ⟨rfl, _⟩ <;> rfl
    obtain ⟨s1, p1, us1, hs3, hss1, hσ1, hH1, hR1⟩ := own_at rel2 hi
    rw [ho] at hσ1
    cases hσ1
    unfold setAt? at hset
    obtain ⟨m, hm, rfl⟩ := Option.map_eq_some_iff.mp hset
    subst hk
    refine ⟨p1, us1, k, m, rfl, hj.int_inv, hH1, by rw [hR1.length]; exact hm, ?_⟩
    refine q3 F2 _ σ (Ex.refl _) (rel2.write (s := s) (s' := s') (xs' := xs.set m dv) hs2 ?_ ho (hR1.set m (hv.mono ex2)))
    rcases hss with ⟨h1, h2⟩ | ⟨h1, h2⟩
    · exact .inl ⟨xs, h1, h2⟩
    · exact .inr ⟨xs, h1, h2⟩
  unfold putX at q2
  split at q2
  · rename_i xs k hs2 _
    split at q2
    · rename_i ys hy
      exact fin xs ys _ _ k hs2 (.inl ⟨rfl, rfl⟩) rfl hy q2
    · exact q2.elim
  · rename_i xs k hs2 _
    split at q2
    · rename_i ys hy
      exact fin xs ys _ _ k hs2 (.inr ⟨rfl, rfl⟩) rfl hy q2
    · exact q2.elim
  · exact q2.elim
/-- while -/
theorem ps_whl' {ec : Env → R Bool} {es : Env → SR} {body : List Stmt} (hp : PassesOwn (model X.prog X.w) X.A X.env X.xe) (hc : PT X c (tBo X.K xa W ec)) (hb : PSs X body (tS X.K xa W es)) : PS X (.While c body [] pos) (tS X.K xa W fun ρ => whl ec es ρ) := by
  refine ps_weak (ps_while hp hc hb) fun D σ H ⟨e, F, ρ, ef, rel, post⟩ => ?_
  have post : PostS X.K xa W e F D (whl ec es ρ) := post
  have hne : whl ec es ρ ≠ .bad := fun z => by rw [z] at post; exact post
  obtain ⟨n, hn⟩ := whl_ends hne
  refine ⟨fun m σ' H' => ∃ F' ρ' r, Ex F F' ∧ Rel X.K e F' H' ρ' σ' ∧ whlF ec es m ρ' = some r ∧ PostS X.K xa W e F' D r, ⟨n, F, ρ, _, Ex.refl F, rel, hn, post⟩, fun m σ' H' ⟨F', ρ', r, ex, rel', hr, post'⟩ => ?_⟩
  cases m with
  | zero => cases hr
  | succ m =>
    unfold whlF at hr
    refine ⟨e, F', ρ', rel', ?_⟩
    cases he : ec ρ' with
    | bad => rw [he] at hr; cases hr; exact post'.elim
    | exc c x ρ1 =>
      rw [he] at hr
      cases hr
      cases x with
      | none => exact fun F1 H1 ex1 rel1 => post' F1 H1 σ' ex1 rel1
      | some d => exact post'.elim
    | ok b ρ1 =>
      rw [he] at hr
      intro F1 H1 ex1 rel1
      cases b with
      | false =>
        cases hr
        exact iteF (post' F1 H1 σ' ex1 rel1)
      | true =>
        refine iteT ⟨fun σ2 H2 => ∃ F2 ρ2 r, Ex F F2 ∧ Rel X.K e F2 H2 ρ2 σ2 ∧ whlF ec es m ρ2 = some r ∧ PostS X.K xa W e F2 D r, fun σ2 H2 h => ⟨m, by omega, h⟩, e, F1, ρ1, ef, rel1, ?_⟩
        cases hs : es ρ1 with
        | nx ρ2 => simp only [hs] at hr; exact fun F2 H2 σ2 ex2 rel2 => ⟨F2, ρ2, r, (ex.trans ex1).trans ex2, rel2, hr, PostS.weak (ex1.trans ex2) post'⟩
        | ct ρ2 => simp only [hs] at hr; exact fun F2 H2 σ2 ex2 rel2 => ⟨F2, ρ2, r, (ex.trans ex1).trans ex2, rel2, hr, PostS.weak (ex1.trans ex2) post'⟩
        | brk ρ2 => simp only [hs] at hr; cases hr; exact fun F2 H2 σ2 ex2 rel2 => post' F2 H2 σ2 (ex1.trans ex2) rel2
        | ret x ρ2 => simp only [hs] at hr; cases hr; exact fun F2 H2 σ2 v ex2 rel2 => post' F2 H2 σ2 v (ex1.trans ex2) rel2
        | exc c x ρ2 =>
          simp only [hs] at hr
          cases hr
          cases x with
          | none => exact fun F2 H2 σ2 ex2 rel2 => post' F2 H2 σ2 (ex1.trans ex2) rel2
          | some d => exact post'.elim
        | bad => simp only [hs] at hr; cases hr; exact post'.elim
theorem yl_rel {e : Ent} {F H H' : Hp} {ρ : Env} {σ : L2.St} {x : V} {d : D} (rel : Rel X.K e F H ρ σ) (y : Yl X.K F H x H' d) : ∃ F', Ex F F' ∧ Rel X.K e F' H' ρ σ ∧ Rep X.K F' x d := by
  rcases y with ⟨rfl, h⟩ | ⟨T, us, ds, rfl, hT, rfl, rfl, h⟩
  · exact ⟨F, Ex.refl F, rel, h⟩
  · have hF := rel.noneF hT
    exact ⟨_, Ex.new hF, rel.new hT, .tup (.inl (.inl upd_same)) (Reps.mono (Ex.new hF) h)⟩
/-- for -/
theorem ps_for' {tg : Tg} {tge it : Expr} {body : List Stmt} {es : Env → SR} (hp : PassesOwn (model X.prog X.w) X.A X.env X.xe) (hc : X.calm = true) (hi : PI X tge it (tI X.K xa W el)) (hg : PG X tge (tG X.K tg)) (hb : PSs X body (tS X.K xa W es)) (hs : ∀ x, foldedSetIterable it X.env x = pure x) :
    PS X (.For tge it body [] pos) (tS X.K xa W fun ρ => (el ρ).toS fun xs ρ => forGo (fun x ρ => (putT ρ tg x).toS fun _ ρ => es ρ) xs ρ) := by
  refine ps_weak (ps_for hp hc hi hg hb hs) fun D σ H ⟨e, F, ρ, ef, rel, post⟩ => ⟨e, F, ρ, rel, (PostS.toS post).imp fun ds ρ1 F1 H1 ex1 rel1 q J hJ => ?_⟩
  refine ⟨fun i m σ' H' => m = ds.length - i ∧ i ≤ ds.length ∧ ∃ F' ρ', Ex F1 F' ∧ Rel X.K e F' H' ρ' σ' ∧ PostS X.K xa W e F' D (forGo (fun x ρ => (putT ρ tg x).toS fun _ ρ => es ρ) (ds.drop i) ρ'), ⟨ds.length, by simp, Nat.zero_le _, F1, ρ1, Ex.refl _, rel1, by simpa using q⟩, ?_⟩
  rintro i m σ' H' ⟨rfl, hi, F', ρ', ex, rel', post'⟩
  by_cases hlt : i < ds.length
  · have hd : ds[i]? = some ds[i] := List.getElem?_eq_getElem hlt
    obtain ⟨hgo, hy⟩ := hJ.1 i ds[i] H' hd (ex.trans rel'.sub)
    refine .inr ⟨hgo, fun σ2 H2 => ∃ F2 ρ2, Ex F1 F2 ∧ Rel X.K e F2 H2 ρ2 σ2 ∧ PostS X.K xa W e F2 D (forGo (fun x ρ => (putT ρ tg x).toS fun _ ρ => es ρ) (ds.drop (i + 1)) ρ2), fun σ2 H2 ⟨F2, ρ2, a1, a2, a3⟩ => ⟨ds.length - (i + 1), by omega, rfl, hlt, F2, ρ2, a1, a2, a3⟩, fun x H2 hx => ?_⟩
    have yl : Yl X.K F' H' x H2 ds[i] := by
      rcases hy x H2 hx with ⟨h1, h2⟩ | ⟨T, us, zs, h1, h2, h3, h4, h5⟩
      · exact .inl ⟨h1, h2.mono ex⟩
      · exact .inr ⟨T, us, zs, h1, h2, h3, h4, Reps.mono ex h5⟩
    obtain ⟨F2, ex2, rel2, rep⟩ := yl_rel rel' yl
    rw [List.drop_eq_getElem_cons hlt] at post'
    have post2 := PostS.weak ex2 post'
    unfold forGo at post2
    have pd : PostS X.K xa W e F2 { D with nx := fun σ2 H2 => ∃ F2 ρ2, Ex F1 F2 ∧ Rel X.K e F2 H2 ρ2 σ2 ∧ PostS X.K xa W e F2 D (forGo (fun x ρ => (putT ρ tg x).toS fun _ ρ => es ρ) (ds.drop (i + 1)) ρ2), ct := fun σ2 H2 => ∃ F2 ρ2, Ex F1 F2 ∧ Rel X.K e F2 H2 ρ2 σ2 ∧ PostS X.K xa W e F2 D (forGo (fun x ρ => (putT ρ tg x).toS fun _ ρ => es ρ) (ds.drop (i + 1)) ρ2), bk := D.nx } ((putT ρ' tg ds[i]).toS fun _ ρ => es ρ) := by
      cases hr : (putT ρ' tg ds[i]).toS fun _ ρ => es ρ with
      | nx ρ3 => simp only [hr] at post2; exact fun F3 H3 σ3 ex3 rel3 => ⟨F3, ρ3, (ex.trans ex2).trans ex3, rel3, PostS.weak ex3 post2⟩
      | ct ρ3 => simp only [hr] at post2; exact fun F3 H3 σ3 ex3 rel3 => ⟨F3, ρ3, (ex.trans ex2).trans ex3, rel3, PostS.weak ex3 post2⟩
      | brk ρ3 => simp only [hr] at post2; exact post2
      | ret x ρ3 => simp only [hr] at post2; exact post2
      | exc c x ρ3 =>
        simp only [hr] at post2
        cases x with
        | none => exact post2
        | some d => exact post2
      | bad => simp only [hr] at post2; exact post2
    exact tG_of rel2 rep pd fun ρ3 σ3 _ rel3 q3 => ⟨e, F2, ρ3, ef, rel3, q3⟩
  · have e1 : i = ds.length := by omega
    subst e1
    rw [List.drop_length] at post'
    exact .inl ⟨hJ.2 H' (ex.trans rel'.sub), post' F' H' σ' (Ex.refl _) rel'⟩
/-! ### raise -/
theorem pmk_own0 {C : Addr} {bmB : List Value} {B newId initId : String} {x : Str} {p pos : Pos} (F : ExcBaseFacts B newId initId bmB) (q : PySem.W.excIn X.K C bmB newId = true) (gC : X.mg x = some (.ref C)) (kC : PySem.W.keepIn X.K (.ref C) = true) (r : Raises X (.ref C)) (hg : Gl X x)
    (hdb : (x == ("__debug__" : Str)) = false) : PMk X (.Call (.Name x p) [] [] pos) (fun _ H Q => Q (.ref C) none H) := by
  intro pins s σ H Q I h
  refine wpAny_Call_Name_kw (ld_glob I hg gC ?_ hdb)
  refine PySem.W.callWith_K0 I.kIn kC ?_
  show wpAny _ _ (call (.ref C) []) _ _ _
  obtain ⟨bm, N, nm, qn, bs, hdct, sn, sub, ab, col, dd, k0, k1, k2, k3, k5, mN, hC, hN, hni, T⟩ := exc_obj I.kIn q
  refine wpAny_call_exc_subT F T hC hN hni (fun h' e hm => ?_) (Nat.zero_le _)
  exact mk_of I hm r h (I.hok.gone hm.new)
theorem ps_raise0 {c : Nat} (hc : X.calm = true) (tk : Takes X W) (h : PMk X a (fun _ H Q => Q (.ref (xa c)) none H)) : PS X (.Raise (some a) none pos) (tS X.K xa W fun ρ => .exc c none ρ) :=
  ps_weak (ps_raise hc tk h) fun D σ H ⟨e, F, ρ, ef, rel, post⟩ => post F H σ (Ex.refl F) rel
theorem ps_bad {ev : Env → SR} (h : ∀ ρ, ev ρ = .bad) : PS X st (tS X.K xa W ev) := ps_weak ps_never fun D σ H ⟨e, F, ρ, ef, rel, post⟩ => by rw [h ρ] at post; exact post
end

/-! ### list comprehensions -/
theorem wipe_get {σ : L2.St} {i : Nat} : ∀ {is : List Nat}, i ∉ is → (wipe σ is)[i]? = σ[i]?
  | [], _ => rfl
  | j :: is, h => by
    unfold wipe
    rw [List.getElem?_set_ne (fun z => h (by rw [z]; exact List.mem_cons_self))]
    exact wipe_get fun z => h (List.mem_cons_of_mem _ z)
theorem wipeE_len (ρ : Env) : ∀ is : List Nat, (wipeE ρ is).length = ρ.length
  | [] => rfl
  | j :: is => by unfold wipeE; rw [List.length_set, wipeE_len ρ is]
theorem wipeE_get {ρ : Env} {i : Nat} : ∀ {is : List Nat}, i ∉ is → (wipeE ρ is)[i]? = ρ[i]?
  | [], _ => rfl
  | j :: is, h => by
    unfold wipeE
    rw [List.getElem?_set_ne (fun z => h (by rw [z]; exact List.mem_cons_self))]
    exact wipeE_get fun z => h (List.mem_cons_of_mem _ z)
theorem wipeE_some {ρ : Env} {i : Nat} {s : Slot} : ∀ {is : List Nat}, (wipeE ρ is)[i]? = some (some s) → i ∉ is
  | [], _ => fun h => nomatch h
  | j :: is, h => by
    unfold wipeE at h
    by_cases hj : j = i
    · subst hj
      cases hi : (wipeE ρ is)[j]? with
      | none =>
        have : (wipeE ρ is).length ≤ j := List.getElem?_eq_none_iff.mp hi
        rw [List.getElem?_eq_none (by rw [List.length_set]; exact this)] at h
        cases h
      | some t =>
        rw [List.getElem?_set_self (List.getElem?_eq_some_iff.mp hi).1] at h
        cases h
    · rw [List.getElem?_set_ne hj] at h
      intro z
      rcases List.mem_cons.mp z with z | z
      · exact hj z.symm
      · exact wipeE_some h z
theorem backE_len (ρ ρ' : Env) : ∀ is : List Nat, (backE ρ ρ' is).length = ρ'.length
  | [] => rfl
  | j :: is => by unfold backE; rw [List.length_set, backE_len ρ ρ' is]
theorem backE_out {ρ ρ' : Env} {i : Nat} : ∀ {is : List Nat}, i ∉ is → (backE ρ ρ' is)[i]? = ρ'[i]?
  | [], _ => rfl
  | j :: is, h => by
    unfold backE
    rw [List.getElem?_set_ne (fun z => h (by rw [z]; exact List.mem_cons_self))]
    exact backE_out fun z => h (List.mem_cons_of_mem _ z)
theorem backE_in {ρ ρ' : Env} {i : Nat} (hi : i < ρ'.length) : ∀ {is : List Nat}, i ∈ is → (backE ρ ρ' is)[i]? = some (ρ.getD i none)
  | [], h => nomatch h
  | j :: is, h => by
    unfold backE
    by_cases hj : j = i
    · subst hj
      rw [List.getElem?_set_self (by rw [backE_len]; exact hi)]
    · rw [List.getElem?_set_ne hj]
      exact backE_in hi ((List.mem_cons.mp h).resolve_left fun z => hj z.symm)
/-- the block's own beginning -/
def entB (e : Ent) (F H : Hp) (ρ : Env) (σ : L2.St) : Ent := ⟨F, H, fun a => (∃ (i : Nat) (s : Slot), ρ[i]? = some (some s) ∧ s.isM = true ∧ σ[i]? = some (some (.ref a))) ∨ e.pI = some a, e.pI⟩
section
variable {K : PySem.W.Frag} {e : Ent} {F F' H H' : Hp} {ρ ρ' : Env} {σ : L2.St} {is : List Nat}
theorem plain_at (h : plainAt ρ is = true) {i : Nat} (hi : i ∈ is) {s : Slot} (hs : ρ[i]? = some (some s)) : ∃ d, s = .v d := by
  have := List.all_eq_true.mp h i hi
  rw [hs] at this
  cases s with
  | v d => exact ⟨d, rfl⟩
  | _ => cases this
theorem Rel.block (r : Rel K e F H ρ σ) (hp : plainAt ρ is = true) : Rel K (entB e F H ρ σ) F H (wipeE ρ is) (wipe σ is) := by
  refine ⟨by rw [wipeE_len, wipe_length]; exact r.len, Ex.refl F, r.sub, fun i s hs => ?_, fun i j s t p hij h1 h2 m1 m2 hσ => ?_, fun a o h _ => h, fun a h _ _ => h, fun p hm => ?_, fun p hm => .inr hm⟩
  · have hn := wipeE_some hs
    rw [wipeE_get hn] at hs
    obtain ⟨v, hv, q⟩ := r.slot i s hs
    refine ⟨v, by rw [wipe_get hn]; exact hv, ?_⟩
    cases s with
    | v d => exact q
    | own xs =>
      obtain ⟨b, us, rfl, q1, q2, q3, q4, q5⟩ := q
      exact ⟨b, us, rfl, q1, q2, q3, .inl (.inl ⟨i, _, hs, rfl, hv⟩), q5⟩
    | io xs =>
      obtain ⟨b, us, rfl, q1, q2, q3, q4, q5⟩ := q
      exact ⟨b, us, rfl, q1, q2, q3, .inr q5, q5⟩
    | fz xs => exact q
    | raw xs => exact q
  · have n1 := wipeE_some h1
    have n2 := wipeE_some h2
    rw [wipeE_get n1] at h1
    rw [wipeE_get n2] at h2
    rw [wipe_get n1] at hσ
    rw [wipe_get n2]
    exact r.dis i j s t p hij h1 h2 m1 m2 hσ
  · rcases hm with ⟨i, s, hs, hm, hσ⟩ | hm
    · obtain ⟨v, hv, q⟩ := r.slot i s hs
      rw [hσ] at hv
      cases hv
      cases s with
      | v d => cases hm
      | own xs => obtain ⟨b, us, eb, _, q2, _⟩ := q; cases eb; rw [q2]; exact fun z => nomatch z
      | io xs => obtain ⟨b, us, eb, _, q2, _⟩ := q; cases eb; rw [q2]; exact fun z => nomatch z
      | fz xs => cases hm
      | raw xs => cases hm
    · exact r.mh p (r.pm p hm)
theorem entB_M (r : Rel K e F H ρ σ) {p : Addr} (hm : (entB e F H ρ σ).M p) : e.M p ∨ e.H0 p = none := by
  rcases hm with ⟨i, s, hs, hm, hσ⟩ | hm
  · obtain ⟨v, hv, q⟩ := r.slot i s hs
    rw [hσ] at hv
    cases hv
    cases s with
    | v d => cases hm
    | own xs => obtain ⟨b, us, eb, _, q2, _, q4, _⟩ := q; cases eb; exact q4
    | io xs => obtain ⟨b, us, eb, _, q2, _, q4, _⟩ := q; cases eb; exact .inl q4
    | fz xs => cases hm
    | raw xs => cases hm
  · exact .inl (r.pm p hm)
theorem Rel.back (r : Rel K e F H ρ σ) (hp : plainAt ρ is = true) {σ2 : L2.St} (hσ : Chg is (wipe σ is) σ2) (r' : Rel K (entB e F H ρ σ) F' H' ρ' σ2) : Rel K e F' H' (backE ρ ρ' is) σ := by
  have exF : Ex F F' := r'.sub0
  have l' : ρ'.length = σ.length := by rw [r'.len, hσ.1, wipe_length]
  have notM : ∀ a o, e.H0 a = some o → ¬ e.M a → ¬ (entB e F H ρ σ).M a := fun a o h1 h2 hm => by
    rcases entB_M r hm with h | h
    · exact h2 h
    · rw [h] at h1; cases h1
  have place : ∀ (i : Nat) (s : Slot), (backE ρ ρ' is)[i]? = some (some s) → (i ∈ is ∧ ρ[i]? = some (some s)) ∨ (i ∉ is ∧ ρ'[i]? = some (some s)) := fun i s h => by
    by_cases hi : i ∈ is
    · have hl : i < ρ'.length := by
        have := (List.getElem?_eq_some_iff.mp h).1
        rwa [backE_len] at this
      rw [backE_in hl hi] at h
      refine .inl ⟨hi, ?_⟩
      have hl2 : i < ρ.length := by rw [r.len, ← l']; exact hl
      rw [List.getD_eq_getElem?_getD, List.getElem?_eq_getElem hl2] at h
      rw [List.getElem?_eq_getElem hl2]
      exact h
    · rw [backE_out hi] at h
      exact .inr ⟨hi, h⟩
  refine ⟨by rw [backE_len]; exact l', r.sub0.trans exF, r'.sub, fun i s hs => ?_, fun i j s t p hij h1 h2 m1 m2 hv => ?_, fun a o h1 h2 => r'.frm a o (r.frm a o h1 h2) (notM a o h1 h2), fun a h1 h2 h3 => ?_, fun p hm z => ?_, r.pm⟩
  · rcases place i s hs with ⟨hi, hs⟩ | ⟨hi, hs⟩
    · obtain ⟨d, rfl⟩ := plain_at hp hi hs
      obtain ⟨v, hv, q⟩ := r.slot i _ hs
      exact ⟨v, hv, Rep.mono exF q⟩
    · obtain ⟨v, hv, q⟩ := r'.slot i s hs
      rw [hσ.2 i hi, wipe_get hi] at hv
      refine ⟨v, hv, ?_⟩
      have conv : ∀ b, ((entB e F H ρ σ).M b ∨ (entB e F H ρ σ).H0 b = none) → (e.M b ∨ e.H0 b = none) := fun b h => h.elim (entB_M r) fun h => (r.none0 h).symm
      cases s with
      | v d => exact q
      | own xs =>
        obtain ⟨b, us, rfl, q1, q2, q3, q4, q5⟩ := q
        exact ⟨b, us, rfl, q1, q2, q3, conv b q4, q5⟩
      | io xs =>
        obtain ⟨b, us, rfl, q1, q2, q3, q4, q5⟩ := q
        exact ⟨b, us, rfl, q1, q2, q3, r.pm b q5, q5⟩
      | fz xs => exact q
      | raw xs => exact q
  · rcases place i s h1 with ⟨hi, h1⟩ | ⟨hi, h1⟩
    · obtain ⟨d, rfl⟩ := plain_at hp hi h1
      cases m1
    · rcases place j t h2 with ⟨hj, h2⟩ | ⟨hj, h2⟩
      · obtain ⟨d, rfl⟩ := plain_at hp hj h2
        cases m2
      · have := r'.dis i j s t p hij h1 h2 m1 m2 (by rw [hσ.2 i hi, wipe_get hi]; exact hv)
        rw [hσ.2 j hj, wipe_get hj] at this
        exact this
  · cases h : e.H0 a with
    | none => exact absurd h h2
    | some o => exact r'.old a (r.old a h1 h2 h3) (by show H a ≠ none; rw [r.frm a o h h3]; exact fun z => nomatch z) (notM a o h h3)
  · cases h : H p with
    | none => exact r.mh p hm h
    | some o =>
      by_cases hM : (entB e F H ρ σ).M p
      · exact r'.mh p hM z
      · rw [r'.frm p o h hM] at z; cases z
end
end Pv

namespace Pv
open PySem L2 PyProof.Rows
section
variable {X : Cx} {a b c : Expr} {xa : Nat → Addr} {W : WX} {p pos : Pos}
def WF : WX := fun _ _ _ _ => False
theorem set_ext {σ σ' : L2.St} (hl : σ'.length = σ.length) {v : Nat} (h : ∀ j, j ≠ v → σ'[j]? = σ[j]?) : σ'.set v none = σ.set v none := by
  apply List.ext_getElem?
  intro j
  by_cases hj : v = j
  · subst hj
    by_cases hv : v < σ.length
    · rw [List.getElem?_set_self hv, List.getElem?_set_self (by rw [hl]; exact hv)]
    · rw [List.getElem?_eq_none (by rw [List.length_set]; omega), List.getElem?_eq_none (by rw [List.length_set]; omega)]
  · rw [List.getElem?_set_ne hj, List.getElem?_set_ne hj]
    exact h j (Ne.symm hj)
theorem wipe_get2 {σ : L2.St} {i : Nat} : ∀ {is : List Nat}, i ∈ is → (wipe σ is)[i]? = if i < σ.length then some none else none
  | [], h => nomatch h
  | j :: is, h => by
    unfold wipe
    by_cases hj : j = i
    · subst hj
      by_cases hi : j < σ.length
      · rw [List.getElem?_set_self (by rw [wipe_length]; exact hi), if_pos hi]
      · rw [List.getElem?_eq_none (by rw [List.length_set, wipe_length]; omega), if_neg hi]
    · rw [List.getElem?_set_ne hj]
      exact wipe_get2 ((List.mem_cons.mp h).resolve_left fun z => hj z.symm)
theorem wipe_chg {σ σ2 : L2.St} {is : List Nat} (h : Chg is (wipe σ is) σ2) : wipe σ2 is = wipe σ is := by
  have hl : σ2.length = σ.length := by rw [h.1, wipe_length]
  apply List.ext_getElem?
  intro j
  by_cases hj : j ∈ is
  · rw [wipe_get2 hj, wipe_get2 hj, hl]
  · rw [wipe_get hj, h.2 j hj]
theorem Rel.apartOld {K : PySem.W.Frag} {e : Ent} {F H : Hp} {ρ : Env} {σ : L2.St} {q : Addr} (r : Rel K e F H ρ σ) (h0 : e.H0 q ≠ none) (hM : ¬ e.M q) (hI : e.pI ≠ some q) : Apart ρ σ q := fun i s hs hm hσ => by
  obtain ⟨v, hv, sl⟩ := r.slot i s hs
  rw [hσ] at hv
  cases hv
  cases s with
  | v d => cases hm
  | own xs =>
    obtain ⟨b, us, eb, _, _, _, q4, _⟩ := sl
    cases eb
    rcases q4 with q4 | q4
    · exact hM q4
    · exact h0 q4
  | io xs =>
    obtain ⟨b, us, eb, _, _, _, _, q5⟩ := sl
    cases eb
    exact hI q5
  | fz xs => cases hm
  | raw xs => cases hm
theorem lcGo_cons {f : D → Env → R (Option D)} {x : D} {xs ys : List D} {ρ ρe : Env} (h : lcGo f (x :: xs) ρ = .ok ys ρe) : ∃ o ρ1 rest, f x ρ = .ok o ρ1 ∧ lcGo f xs ρ1 = .ok rest ρe ∧ ys = consO o rest := by
  have h : (f x ρ).bind (fun o ρ => (lcGo f xs ρ).bind fun r ρ => .ok (consO o r) ρ) = .ok ys ρe := h
  cases hf : f x ρ with
  | bad => rw [hf] at h; cases h
  | exc c x ρ1 => rw [hf] at h; cases h
  | ok o ρ1 =>
    rw [hf] at h
    have h : (lcGo f xs ρ1).bind (fun r ρ => .ok (consO o r) ρ) = .ok ys ρe := h
    cases hg : lcGo f xs ρ1 with
    | bad => rw [hg] at h; cases h
    | exc c x ρ1 => rw [hg] at h; cases h
    | ok r ρ2 => rw [hg] at h; cases h; exact ⟨o, ρ1, r, rfl, hg, rfl⟩
theorem lcTurn_ok {tg : Tg} {ev : Env → R (Option D)} {x : D} {ρ ρ' : Env} {o : Option D} (h : lcTurn tg ev x ρ = .ok o ρ') : plainAt ρ tg.slots = true ∧ ∃ ρ2 ρ3, putT (wipeE ρ tg.slots) tg x = .ok () ρ2 ∧ ev ρ2 = .ok o ρ3 ∧ ρ' = backE ρ ρ3 tg.slots := by
  unfold lcTurn at h
  split at h
  · rename_i hp
    refine ⟨hp, ?_⟩
    cases hq : putT (wipeE ρ tg.slots) tg x with
    | bad => rw [hq] at h; cases h
    | exc c x ρ1 => rw [hq] at h; cases h
    | ok u ρ2 =>
      rw [hq] at h
      have h : (ev ρ2).bind (fun o ρ3 => .ok o (backE ρ ρ3 tg.slots)) = .ok o ρ' := h
      cases he : ev ρ2 with
      | bad => rw [he] at h; cases h
      | exc c x ρ1 => rw [he] at h; cases h
      | ok o2 ρ3 => rw [he] at h; cases h; exact ⟨ρ2, ρ3, rfl, he, rfl⟩
  · cases h
theorem yl_rel2 {e : Ent} {F H H' : Hp} {ρ : Env} {σ : L2.St} {x : V} {d : D} (rel : Rel X.K e F H ρ σ) (y : Yl X.K F H x H' d) : ∃ F', Ex F F' ∧ Rel X.K e F' H' ρ σ ∧ Rep X.K F' x d ∧ Ex H H' ∧ ∀ q, H q ≠ none → F q = none → F' q = none := by
  rcases y with ⟨rfl, h⟩ | ⟨T, us, ds, rfl, hT, rfl, rfl, h⟩
  · exact ⟨F, Ex.refl F, rel, h, Ex.refl _, fun _ _ h => h⟩
  · have hF := rel.noneF hT
    refine ⟨_, Ex.new hF, rel.new hT, .tup (.inl (.inl upd_same)) (Reps.mono (Ex.new hF) h), Ex.new hT, fun q h1 h2 => ?_⟩
    rw [upd_ne (fun z => h1 (by rw [z]; exact hT))]
    exact h2
/-- the reading of a list comprehension -/
theorem lc_read {tg : Tg} {el : Env → R (List D)} {ec : Env → R Bool} {ev : Env → R Val} {σ : L2.St} {H : Hp} {Q : VK}
    (h : tV X.K xa W (fun ρ => (el ρ).bind fun xs ρ => lcEnd (lcGo (lcTurn tg fun ρ => (ec ρ).bind fun t ρ => iteR t (bindD (ev ρ) fun y ρ => .ok (some y) ρ) (.ok none ρ)) xs ρ)) σ H Q) :
    tLc (tI X.K xa W el) (tG X.K tg) (tBo X.K xa WF ec) (tD X.K xa WF fun ρ => dd (ev ρ)) tg.slots σ H Q := by
  obtain ⟨e, F, ρ, rel, post⟩ := h
  refine ⟨e, F, ρ, rel, (Post.bind post).imp fun xs ρ1 F1 H1 ex1 rel1 q J hJ Dl hD => ?_⟩
  generalize hf : (lcTurn tg fun ρ => (ec ρ).bind fun t ρ => iteR t (bindD (ev ρ) fun y ρ => .ok (some y) ρ) (.ok none ρ)) = f at q
  cases hr : lcGo f xs ρ1 with
  | bad => rw [hr] at q; exact q.elim
  | exc c x ρ2 => rw [hr] at q; exact q.elim
  | ok ys ρe =>
    rw [hr] at q
    have q : Post X.K xa W e σ F1 (lstV ys ρe) _ := q
    unfold lstV at q
    split at q
    · rename_i hlim
      have d0 : e.H0 Dl = none := (rel1.none0 hD).resolve_right (rel1.fresh hD).1
      have dM := (rel1.fresh hD).1
      have dI := (rel1.fresh hD).2
      refine ⟨fun i m H' => m = xs.length - i ∧ i ≤ xs.length ∧ ∃ F' ρ' acc us rest, Ex F1 F' ∧ Rel X.K e F' H' ρ' σ ∧ F' Dl = none ∧ Apart ρ' σ Dl ∧ H' Dl = some (.lst us) ∧ Reps X.K F' us acc ∧ lcGo f (xs.drop i) ρ' = .ok rest ρe ∧ acc ++ rest = ys,
        ⟨xs.length, by simp, Nat.zero_le _, F1, ρ1, [], [], ys, Ex.refl _, rel1.laid hD, rel1.noneF hD, rel1.apart hD, upd_same, .nil, by simpa using hr, rfl⟩, ?_⟩
      rintro i m H' ⟨rfl, hi, F', ρ', acc, us, rest, ex, rel', hF', ap, hH', hR, hgo, hys⟩
      by_cases hlt : i < xs.length
      · have hd : xs[i]? = some xs[i] := List.getElem?_eq_getElem hlt
        obtain ⟨hgo2, hy⟩ := hJ.1 i xs[i] H' hd (ex.trans rel'.sub)
        refine .inr ⟨hgo2, fun H2 => ∃ F2 ρ2 acc us rest, Ex F1 F2 ∧ Rel X.K e F2 H2 ρ2 σ ∧ F2 Dl = none ∧ Apart ρ2 σ Dl ∧ H2 Dl = some (.lst us) ∧ Reps X.K F2 us acc ∧ lcGo f (xs.drop (i + 1)) ρ2 = .ok rest ρe ∧ acc ++ rest = ys,
          fun H2 h => ⟨xs.length - (i + 1), by omega, rfl, hlt, h⟩, fun x H2 hx => ?_⟩
        have yl : Yl X.K F' H' x H2 xs[i] := by
          rcases hy x H2 hx with ⟨h1, h2⟩ | ⟨T, us, zs, h1, h2, h3, h4, h5⟩
          · exact .inl ⟨h1, h2.mono ex⟩
          · exact .inr ⟨T, us, zs, h1, h2, h3, h4, Reps.mono ex h5⟩
        obtain ⟨F2, ex2, rel2, rep, exH, keep⟩ := yl_rel2 rel' yl
        have hH2 : H2 Dl = some (.lst us) := exH _ _ hH'
        have hF2 : F2 Dl = none := keep Dl (by rw [hH']; exact fun z => nomatch z) hF'
        rw [List.drop_eq_getElem_cons hlt] at hgo
        obtain ⟨o, ρ2, rest2, hfx, hgo', hrest⟩ := lcGo_cons hgo
        subst hf
        obtain ⟨hplain, ρb, ρc, hput, hev, rfl⟩ := lcTurn_ok hfx
        have relB := rel2.block hplain
        refine ⟨_, F2, _, xs[i], relB, rep, ?_⟩
        rw [hput]
        intro σ2 chg relC
        refine ⟨wipe_chg chg, ?_⟩
        have hMB : ¬ (entB e F2 H2 ρ' σ).M Dl := fun hm => by
          rcases hm with ⟨j, s, hs, hm, hσ⟩ | hm
          · exact ap j s hs hm hσ
          · exact dI hm
        have apB : ∀ {ρz : Env} {Fz Hz : Hp} {σz : L2.St}, Chg tg.slots (wipe σ tg.slots) σz → Rel X.K (entB e F2 H2 ρ' σ) Fz Hz ρz σz → Apart (backE ρ' ρz tg.slots) σ Dl := fun {ρz Fz Hz σz} cz rz j s hs hm hσ => by
          have a1 := rz.apartOld (q := Dl) (by show H2 Dl ≠ none; rw [hH2]; exact fun z => nomatch z) hMB dI
          by_cases hj : j ∈ tg.slots
          · have hl : j < ρz.length := by
              have := (List.getElem?_eq_some_iff.mp hs).1
              rwa [backE_len] at this
            rw [backE_in hl hj] at hs
            have hl2 : j < ρ'.length := by rw [rel2.len, ← wipe_length σ tg.slots, ← cz.1, ← rz.len]; exact hl
            rw [List.getD_eq_getElem?_getD, List.getElem?_eq_getElem hl2] at hs
            obtain ⟨d, rfl⟩ := plain_at hplain hj (show ρ'[j]? = some (some s) by rw [List.getElem?_eq_getElem hl2]; exact hs)
            cases hm
          · rw [backE_out hj] at hs
            exact a1 j s hs hm (by rw [cz.2 j hj, wipe_get hj]; exact hσ)
        cases hec : ec ρb with
        | bad => rw [hec] at hev; cases hev
        | exc c x ρt => rw [hec] at hev; cases hev
        | ok t ρt =>
          rw [hec] at hev
          refine ⟨_, F2, ρb, relC, ?_⟩
          rw [hec]
          intro F3 H3 ex3 rel3
          cases t with
          | false =>
            have hev : (R.ok none ρt : R (Option D)) = .ok o ρc := hev
            cases hev
            refine iteF ⟨F3, _, acc, us, rest2, (ex.trans ex2).trans ex3, rel2.back hplain chg rel3, ?_, apB chg rel3, ?_, Reps.mono (ex2.trans ex3) hR, hgo', by rw [← hys, hrest, consO_none]⟩
            · exact rel3.old Dl hF2 (by show H2 Dl ≠ none; rw [hH2]; exact fun z => nomatch z) hMB
            · exact rel3.frm Dl _ hH2 hMB
          | true =>
            have hev : bindD (ev ρt) (fun y ρ => R.ok (some y) ρ) = .ok o ρc := hev
            rw [bindD_dd] at hev
            refine iteT ⟨_, F3, ρt, rel3, ?_⟩
            dsimp only
            cases hdd : dd (ev ρt) with
            | bad => rw [hdd] at hev; cases hev
            | exc c x ρt => rw [hdd] at hev; cases hev
            | ok y ρd =>
              rw [hdd] at hev
              cases hev
              intro F4 H4 ex4 rel4 v hv
              have h4 : H4 Dl = some (.lst us) := rel4.frm Dl _ hH2 hMB
              have f4 : F4 Dl = none := rel4.old Dl hF2 (by show H2 Dl ≠ none; rw [hH2]; exact fun z => nomatch z) hMB
              have hlen : us.length < sizeLine := by
                rw [hR.length]
                refine lim_lt (Nat.lt_of_lt_of_le ?_ hlim)
                rw [← hys, hrest, consO_some, List.length_append, List.length_cons]
                omega
              refine ⟨us, h4, hlen, F4, _, acc ++ [y], us ++ [v], rest2, ((ex.trans ex2).trans ex3).trans ex4, (rel2.back hplain chg rel4).apartUpd f4 d0 (apB chg rel4), f4, apB chg rel4, upd_same, (Reps.mono ((ex2.trans ex3).trans ex4) hR).append (.cons hv .nil), hgo', ?_⟩
              rw [← hys, hrest, List.append_assoc]
              rfl
      · have e1 : i = xs.length := by omega
        subst e1
        rw [List.drop_length] at hgo
        cases hgo
        refine .inl ⟨hJ.2 H' (ex.trans rel'.sub), q F' H' ex rel' _ ?_⟩
        rw [List.append_nil] at hys
        subst hys
        exact ⟨Dl, us, rfl, hF', hH', hR, d0, dM, dI, ap⟩
    · exact q.elim
theorem pts_weak {ifs : List Expr} {t t' : TT} (h : PTs X ifs t) (k : ∀ σ H Q, t' σ H Q → t σ H Q) : PTs X ifs t' := ⟨fun pins s σ H Q I hq => h.run pins s σ H Q I (k σ H Q hq)⟩
theorem pts_yes : PTs X [] (tBo X.K xa W fun ρ => .ok true ρ) := pts_weak pts_nil fun σ H Q ⟨e, F, ρ, rel, post⟩ => post F H (Ex.refl F) rel
end
end Pv

namespace Pv
open PySem L2 PyProof.Rows

/-! ### does a text stand for a piece of the pure language? -/
structure Nm where
  fn : List Str
  gl : List Str
  ex : List Str
def bltNms : List Str := ["len", "abs", "int", "tuple", "list", "sum", "min", "max", "all", "any", "sorted", "isinstance", "bool", "str", "dict", "range", "zip", "enumerate"]
def lk (sc : Scope) (x : Str) : Option NameKind := sc.names.lookup x
def isLoc (sc : Scope) (x : Str) : Bool := decide (lk sc x = some .local)
def isCell (sc : Scope) (x : Str) : Bool := decide (lk sc x = some .cell)
def isFree (sc : Scope) (x : Str) : Bool := decide (lk sc x = some .free)
def isGlb (sc : Scope) (x : Str) : Bool := decide (lk sc x = some .globalImplicit) && !(x == ("__debug__" : Str))
def nameB (N : List Str) (sc : Scope) (i : Nat) (x : Str) : Bool := decide (N[i]? = some x) && (isLoc sc x || isCell sc x || isFree sc x) && !(x == ("__debug__" : Str)) && !(x == ("__classdict__" : Str))
def chkK : Const → D → Bool
  | .none, .none => true
  | .bool b, .bool c => b == c
  | .int i, .int j => decide (i = j)
  | .str s, .str t => decide (s = t)
  | _, _ => false
def chkTy (sc : Scope) (ex : Expr) (t : Ty) : Bool := match ex with
  | .Name x _ => decide (x = Str.ofString (tyStr t)) && isGlb sc x && bltNms.contains x && decide (t ≠ .non)
  | _ => false
def chkTys (sc : Scope) : List Expr → List Ty → Bool
  | [], [] => true
  | e :: es, t :: ts => chkTy sc e t && chkTys sc es ts
  | _, _ => false
def chkIsi (sc : Scope) (ex : Expr) (ts : List Ty) : Bool := match ex, ts with
  | .Tuple es _ _, ts => chkTys sc es ts && decide (ts.length ≤ LIM)
  | e, [t] => chkTy sc e t
  | _, _ => false
/-- a target: strict where the names must be the block's own -/
def chkNm (N : List Str) (sc : Scope) (strict : Bool) (ex : Expr) (i : Nat) : Bool := match ex with
  | .Name x _ => decide (N[i]? = some x) && (isLoc sc x || (!strict && isCell sc x))
  | _ => false
def chkNms (N : List Str) (sc : Scope) (strict : Bool) : List Expr → List Nat → Bool
  | [], [] => true
  | e :: es, i :: is => chkNm N sc strict e i && chkNms N sc strict es is
  | _, _ => false
def chkTg (N : List Str) (sc : Scope) (strict : Bool) (ex : Expr) (t : Tg) : Bool := match t with
  | .n i => chkNm N sc strict ex i
  | .t is => (match ex with
    | .Tuple es _ _ => chkNms N sc strict es is
    | _ => false)
def ownOf (N : List Str) (is : List Nat) : List (Str × Nat) := is.map fun i => (N.getD i Str.empty, i)
def isTupE : Expr → Bool
  | .Tuple _ _ _ => true
  | _ => false
def chkO (oe : Option Expr) (nop : Bool) (f : Expr → Bool) : Bool := match oe with
  | none => nop
  | some e => f e
def isYes : T → Bool
  | .yes => true
  | _ => false
def chkC (ifs : List Expr) (yes : Bool) (f : Expr → Bool) : Bool := match ifs with
  | [] => yes
  | [e] => f e
  | _ => false
section
variable (M : Nm) (N : List Str)
mutual
def chkE (sc : Scope) (ex : Expr) : E → Bool
  | .nop => false
  | .v i => (match ex with
    | .Name x _ => nameB N sc i x
    | _ => false)
  | .k d => (match ex with
    | .Constant c _ _ => chkK c d
    | _ => false)
  | .g j => (match ex with
    | .Name x _ => isGlb sc x && decide (M.gl[j]? = some x)
    | _ => false)
  | .bin o a b => (match ex with
    | .BinOp l op r _ => decide (op = opOf o) && (chkE sc l a && chkE sc r b)
    | _ => false)
  | .neg a => (match ex with
    | .UnaryOp .USub e _ => chkE sc e a
    | _ => false)
  | .not a => (match ex with
    | .UnaryOp .Not e _ => chkE sc e a
    | _ => false)
  | .and a b => (match ex with
    | .BoolOp .And [x, y] _ => chkE sc x a && chkE sc y b
    | .BoolOp .And (x :: y :: z :: r) p => chkE sc x a && chkE sc (.BoolOp .And (y :: z :: r) p) b
    | _ => false)
  | .or a b => (match ex with
    | .BoolOp .Or [x, y] _ => chkE sc x a && chkE sc y b
    | .BoolOp .Or (x :: y :: z :: r) p => chkE sc x a && chkE sc (.BoolOp .Or (y :: z :: r) p) b
    | _ => false)
  | .cmp o a b => (match ex with
    | .Compare l [op] [r] _ => decide (op = cmpOf o) && (chkE sc l a && chkE sc r b)
    | _ => false)
  | .chain o o' a b c => (match ex with
    | .Compare l [op, op'] [m, r] _ => (decide (op = cmpOf o) && decide (op' = cmpOf o')) && (chkE sc l a && (chkE sc m b && chkE sc r c))
    | _ => false)
  | .ife c a b => (match ex with
    | .IfExp t x y _ => chkT sc t c && (chkE sc x a && chkE sc y b)
    | _ => false)
  | .tup es => (match ex with
    | .Tuple xs _ _ => chkEs sc xs es
    | _ => false)
  | .lst es => (match ex with
    | .List xs _ => chkEs sc xs es
    | _ => false)
  | .ix a i => (match ex with
    | .Subscript v s _ => chkE sc v a && chkE sc s i
    | _ => false)
  | .ixv j i => (match ex with
    | .Subscript (.Name x _) s _ => nameB N sc j x && chkE sc s i
    | _ => false)
  | .sl a lo hi => (match ex with
    | .Subscript v (.Slice l u none _) _ => chkE sc v a && (chkO l (isNop lo) (fun e => chkE sc e lo) && chkO u (isNop hi) (fun e => chkE sc e hi))
    | _ => false)
  | .slv j lo hi => (match ex with
    | .Subscript (.Name x _) (.Slice l u none _) _ => nameB N sc j x && (chkO l (isNop lo) (fun e => chkE sc e lo) && chkO u (isNop hi) (fun e => chkE sc e hi))
    | _ => false)
  | .rev a => (match ex with
    | .Subscript v (.Slice none none (some (.UnaryOp .USub (.Constant (.int 1) _ _) _)) _) _ => chkE sc v a
    | _ => false)
  | .call j es => (match ex with
    | .Call (.Name x _) (y :: ys) [] _ => (isGlb sc x && decide (M.fn[j]? = some x)) && chkEs sc (y :: ys) es
    | _ => false)
  | .cio j i es => (match ex with
    | .Call (.Name x _) (.Name y _ :: ys) [] _ => (isGlb sc x && decide (M.fn[j]? = some x)) && (nameB N sc i y && chkEs sc ys es)
    | _ => false)
  | .craw j i => (match ex with
    | .Call (.Name x _) [.Name y _] [] _ => (isGlb sc x && decide (M.fn[j]? = some x)) && nameB N sc i y
    | _ => false)
  | .scr i n => (match ex with
    | .Subscript (.Name x _) (.Slice none (some (.Constant (.int m) _ _)) none _) _ => nameB N sc i x && decide (m = n)
    | _ => false)
  | .b1 b a => (match ex with
    | .Call (.Name x _) [v] [] _ => (decide (x = bltName b) && isGlb sc x) && chkE sc v a
    | _ => false)
  | .b2 b a c => (match ex with
    | .Call (.Name x _) [v, w] [] _ => (decide (x = bltName b) && isGlb sc x && (decide (b = .min) || decide (b = .max))) && (chkE sc v a && chkE sc w c)
    | _ => false)
  | .isi a ts => (match ex with
    | .Call (.Name x _) [v, w] [] _ => (decide (x = ("isinstance" : Str)) && isGlb sc x && chkIsi sc w ts) && chkE sc v a
    | _ => false)
  | .lc elt tg it c => (match ex with
    | .ListComp v [⟨t, i, ifs, 0⟩] scope _ => blkC N sc scope (ownOf N tg.slots) && (chkTg N (relS scope sc) true t tg && (chkI sc t i it && (chkE (relS scope sc) v elt && chkC ifs (isYes c) (fun e => chkT (relS scope sc) e c))))
    | _ => false)
def chkEs (sc : Scope) (xs : List Expr) : Es → Bool
  | .nil => (match xs with
    | [] => true
    | _ => false)
  | .cons e es => (match xs with
    | x :: r => chkE sc x e && chkEs sc r es
    | _ => false)
def chkI (sc : Scope) (tg ex : Expr) : It → Bool
  | .rng es => (match ex with
    | .Call (.Name x _) [a] [] _ => (decide (x = ("range" : Str)) && isGlb sc x) && chkEs sc [a] es
    | .Call (.Name x _) [a, b] [] _ => (decide (x = ("range" : Str)) && isGlb sc x) && chkEs sc [a, b] es
    | .Call (.Name x _) [a, b, c] [] _ => (decide (x = ("range" : Str)) && isGlb sc x) && chkEs sc [a, b, c] es
    | _ => false)
  | .of e => chkE sc ex e
  | .zip a b => (match ex with
    | .Call (.Name x _) [v, w] [] _ => (decide (x = ("zip" : Str)) && isGlb sc x && isTupE tg) && (chkE sc v a && chkE sc w b)
    | _ => false)
  | .enum a => (match ex with
    | .Call (.Name x _) [v] [] _ => (decide (x = ("enumerate" : Str)) && isGlb sc x && isTupE tg) && chkE sc v a
    | _ => false)
def chkT (sc : Scope) (ex : Expr) : T → Bool
  | .e a => (match ex with
    | .BoolOp _ _ _ => false
    | .UnaryOp .Not _ _ => false
    | .IfExp _ _ _ _ => false
    | e => chkE sc e a)
  | .and a b => (match ex with
    | .BoolOp .And [x, y] _ => chkT sc x a && chkT sc y b
    | .BoolOp .And (x :: y :: z :: r) p => chkT sc x a && chkT sc (.BoolOp .And (y :: z :: r) p) b
    | _ => false)
  | .or a b => (match ex with
    | .BoolOp .Or [x, y] _ => chkT sc x a && chkT sc y b
    | .BoolOp .Or (x :: y :: z :: r) p => chkT sc x a && chkT sc (.BoolOp .Or (y :: z :: r) p) b
    | _ => false)
  | .not a => (match ex with
    | .UnaryOp .Not e _ => chkT sc e a
    | _ => false)
  | .yes => false
end
end
end Pv

namespace Pv
open PySem L2 PyProof.Rows

/-- what the context grants -/
structure Gd (X : Cx) (C : Cfg) (M : Nm) (xa : Nat → Addr) (k : Nat) : Prop where
  calm : X.calm = true
  nd : X.N.Nodup
  kind : X.env.scope.kind = .function
  room : Room k X.A
  fns : ∀ j x, M.fn[j]? = some x → ∃ f fd ps, X.mg x = some (.ref f) ∧ PySem.W.keepIn X.K (.ref f) = true ∧ Binds X.K fd ps [] ∧ FnOk X.prog X.w X.K X.mg X.base (L2.CX X.prog X.w) k f fd ps (spOf X.K xa C.call j)
  gls : ∀ j x d, M.gl[j]? = some x → C.gl j = some d → ∃ u v, X.mg x = some u ∧ RelV v u ∧ ∀ F, Rep X.K F v d
  blt : ∀ x ∈ bltNms, X.mg x = none
  exs : ∀ c x, M.ex[c]? = some x → X.mg x = some (.ref (xa c)) ∧ PySem.W.keepIn X.K (.ref (xa c)) = true ∧ PySem.W.excIn X.K (xa c) He.veBase "ValueError.__new__" = true ∧ PySem.W.subIn X.K (.ref (xa c)) (.type "BaseException") = some true ∧ PySem.W.typeIn X.K (.ref (xa c)) = some (.type "type")
theorem Gd.units {X : Cx} {C : Cfg} {M : Nm} {xa : Nat → Addr} {k : Nat} (g : Gd X C M xa k) : X.A.units + 100 < cLine := by have := g.room.un; omega
section
variable {M : Nm} {N : List Str} {sc : Scope}
theorem chk_star {e : Expr} {p : Pos} (m : E) : chkE M N sc (.Starred e p) m = false := by cases m <;> rfl
theorem chk_slice {l u s : Option Expr} {p : Pos} (m : E) : chkE M N sc (.Slice l u s p) m = false := by cases m <;> rfl
theorem chk_set {es : List Expr} {k : Nat} {p : Pos} (m : E) : chkE M N sc (.Set es k p) m = false := by cases m <;> rfl
theorem star_of {ex : Expr} {m : E} (h : chkE M N sc ex m = true) (es : List Expr) (env : PySem.Env) : starEach (ex :: es) env = (false, eval ex env) :: starEach es env := by
  cases ex <;> first | rfl | (rw [chk_star] at h; cases h)
theorem plain_of {ex : Expr} {m : E} (h : chkE M N sc ex m = true) : PlainIx ex := by
  intro o i
  cases ex <;> first | rfl | (rw [chk_slice] at h; cases h)
theorem mark_of {ex : Expr} {m : E} (h : chkE M N sc ex m = true) (op : CmpOp) : behindInMarks op ex = false := by
  cases ex <;> first | rfl | (rw [chk_set] at h; cases h)
theorem fold_of {ex : Expr} {m : E} (h : chkE M N sc ex m = true) (env : PySem.Env) (x : Value) : foldedSetIterable ex env x = pure x := by
  cases ex <;> first | rfl | (rw [chk_set] at h; cases h)
theorem back_star {ex : Expr} {m : E} (h : chkE M N sc ex m = true) {es : List Expr} {env : PySem.Env} {pos : Pos} (hr : (backTo pos (starEach es env)).any (·.1) = false) : (backTo pos (starEach (ex :: es) env)).any (·.1) = false := by
  rw [star_of h]
  exact hr
theorem chkEs_back : ∀ (m : Es) {xs : List Expr} {env : PySem.Env} {pos : Pos}, chkEs M N sc xs m = true → (backTo pos (starEach xs env)).any (·.1) = false
  | .nil, xs, env, pos, h => by
    cases xs with
    | nil => rfl
    | cons x r => cases h
  | .cons e es, xs, env, pos, h => by
    cases xs with
    | nil => cases h
    | cons x r =>
      have h : (chkE M N sc x e && chkEs M N sc r es) = true := h
      rw [Bool.and_eq_true] at h
      exact back_star h.1 (chkEs_back es h.2)
theorem ba {a b : Bool} (h : (a && b) = true) : a = true ∧ b = true := by rwa [Bool.and_eq_true] at h
theorem glb_of {X : Cx} {x : Str} (h : isGlb X.env.scope x = true) : Gl X x ∧ (x == ("__debug__" : Str)) = false := by
  obtain ⟨h1, h2⟩ := ba h
  have h1' : lk X.env.scope x = some .globalImplicit := of_decide_eq_true h1
  refine ⟨h1', ?_⟩
  cases hx : x == ("__debug__" : Str) with
  | false => rfl
  | true => rw [hx] at h2; cases h2
theorem name_of {X : Cx} {i : Nat} {x : Str} {p : Pos} (h : nameB X.N X.env.scope i x = true) : PE X (.Name x p) (tVar i) := by
  obtain ⟨h1, h4⟩ := ba h
  obtain ⟨h1, h3⟩ := ba h1
  obtain ⟨h1, h2⟩ := ba h1
  have nb : ∀ y : Str, (!(x == y)) = true → (x == y) = false := fun y hy => by
    cases hx : x == y with
    | false => rfl
    | true => rw [hx] at hy; cases hy
  refine pe_var (of_decide_eq_true h1) ?_ (nb _ h3) (nb _ h4)
  rcases Bool.or_eq_true_iff.mp h2 with h2 | h2
  · rcases Bool.or_eq_true_iff.mp h2 with h2 | h2
    · exact .inl (of_decide_eq_true h2)
    · exact .inr (.inl (of_decide_eq_true h2))
  · exact .inr (.inr (of_decide_eq_true h2))
theorem blt_in (b : Blt) : bltName b ∈ bltNms := by cases b <;> decide
end
section
variable {C : Cfg} {M : Nm} {xa : Nat → Addr} {k : Nat}
theorem isV_E {m : E} {i : Nat} (h : isV m = some i) : m = .v i := by cases m <;> first | (cases h; rfl) | cases h
theorem pe_pk {X : Cx} {W : WX} {ex : Expr} {m : E} (h : PE X ex (tV X.K xa W (evE C m))) (hc : chkE M X.N X.env.scope ex m = true) : PE X ex (tP X.K xa W fun ρ => pk (isV m) (fun ρ => evE C m ρ) ρ) := by
  cases hi : isV m with
  | none => exact pe_toP h
  | some i =>
    have := isV_E hi
    subst this
    cases ex <;> first | (cases hc; done) | skip
    exact pe_look (name_of hc)
theorem ty_ok {X : Cx} {ex : Expr} {t : Ty} (hb : ∀ x ∈ bltNms, X.mg x = none) (h : chkTy X.env.scope ex t = true) : PE X ex (tC (.ty (tyStr t))) ∧ ∀ es, starEach (ex :: es) X.env = (false, eval ex X.env) :: starEach es X.env := by
  unfold chkTy at h
  split at h
  · rename_i x p
    obtain ⟨h, h4⟩ := ba h
    obtain ⟨h, h3⟩ := ba h
    obtain ⟨h1, h2⟩ := ba h
    have e1 := of_decide_eq_true h1
    have hn := of_decide_eq_true h4
    obtain ⟨g1, g2⟩ := glb_of h2
    refine ⟨?_, fun es => rfl⟩
    have hm := hb x (by simpa using h3)
    subst e1
    refine pe_bltn g1 hm ?_ rfl ?_ g2
    · cases t <;> first | decide +kernel | exact absurd rfl hn
    · cases t <;> decide
  · cases h
theorem tys_ok {X : Cx} (hb : ∀ x ∈ bltNms, X.mg x = none) : ∀ {es : List Expr} {ts : List Ty}, chkTys X.env.scope es ts = true → TyNms X ts es
  | [], [], _ => .nil
  | [], _ :: _, h => by cases h
  | _ :: _, [], h => by cases h
  | e :: es, t :: ts, h => by
    have h : (chkTy X.env.scope e t && chkTys X.env.scope es ts) = true := h
    obtain ⟨h1, h2⟩ := ba h
    obtain ⟨a, b⟩ := ty_ok hb h1
    exact .cons a (b es) (tys_ok hb h2)
theorem nm_ok {X : Cx} {ex : Expr} {i : Nat} {strict : Bool} (hN : X.N.Nodup) (hf : strict = true ∨ ∀ x, X.fn x = true) (h : chkNm X.N X.env.scope strict ex i = true) : PG X ex (gName i) ∧ ∀ es, (assignEach (ex :: es) X.env).map (·.2) = assign ex X.env :: (assignEach es X.env).map (·.2) := by
  unfold chkNm at h
  split at h
  · obtain ⟨h1, h2⟩ := ba h
    refine ⟨?_, fun es => rfl⟩
    rcases Bool.or_eq_true_iff.mp h2 with h2 | h2
    · exact pg_name hN (of_decide_eq_true h1) (.inl (of_decide_eq_true h2)) (.inr (of_decide_eq_true h2))
    · obtain ⟨h2, h3⟩ := ba h2
      rcases hf with hf | hf
      · rw [hf] at h2; cases h2
      · exact pg_name hN (of_decide_eq_true h1) (.inr (of_decide_eq_true h3)) (.inl (hf _))
  · cases h
theorem nms_ok {X : Cx} {strict : Bool} (hN : X.N.Nodup) (hf : strict = true ∨ ∀ x, X.fn x = true) : ∀ {es : List Expr} {is : List Nat}, chkNms X.N X.env.scope strict es is = true → NmOk X is es ∧ (assignEach es X.env).length = is.length ∧ (assignEach es X.env).findIdx? (·.1) = none
  | [], [], _ => ⟨.nil, rfl, rfl⟩
  | [], _ :: _, h => by cases h
  | _ :: _, [], h => by cases h
  | e :: es, i :: is, h => by
    have h : (chkNm X.N X.env.scope strict e i && chkNms X.N X.env.scope strict es is) = true := h
    obtain ⟨h1, h2⟩ := ba h
    obtain ⟨a, b⟩ := nm_ok hN hf h1
    obtain ⟨c, d, f⟩ := nms_ok hN hf h2
    refine ⟨.cons a (b es) c, ?_, ?_⟩
    · unfold chkNm at h1
      split at h1
      · show (assignEach es X.env).length + 1 = is.length + 1
        rw [d]
      · cases h1
    · unfold chkNm at h1
      split at h1
      · show ((false, _) :: assignEach es X.env).findIdx? (·.1) = none
        rw [List.findIdx?_cons]
        simp [f]
      · cases h1
theorem tg_ok {X : Cx} {ex : Expr} {t : Tg} {strict : Bool} (hc : X.calm = true) (hN : X.N.Nodup) (hf : strict = true ∨ ∀ x, X.fn x = true) (h : chkTg X.N X.env.scope strict ex t = true) : PG X ex (tG X.K t) := by
  cases t with
  | n i => exact pg_n (nm_ok hN hf h).1
  | t is =>
    unfold chkTg at h
    dsimp only at h
    split at h
    · obtain ⟨a, b, c⟩ := nms_ok hN hf h
      exact pg_t hc a b c
    · cases h
theorem gd_blk {X : Cx} (g : Gd X C M xa k) {s : Shared} {H : Hp} {scope : Scope} {cl : List (Str × Addr)} {c : Addr} {fp : List Addr} (hk : scope.kind = .function) : Gd (X.blk s H scope (compEnvC scope cl c X.env) fp) C M xa k :=
  ⟨g.calm, g.nd, hk, g.room, g.fns, g.gls, g.blt, g.exs⟩
theorem takesF {X : Cx} : Takes X WF := L2.takes0
theorem test_he {ex : Expr} (h1 : ∀ op vs p, ex ≠ .BoolOp op vs p) (h2 : ∀ e p, ex ≠ .UnaryOp .Not e p) (h3 : ∀ a b c p, ex ≠ .IfExp a b c p) (h4 : ∀ l o r p, ex ≠ .Compare l o r p) (env : PySem.Env) (whole : Sem Value) :
    isTrue ex env whole = (do let v ← whole; standAt ex.pos; holding [v] (truthy v)) := by
  cases ex <;> first | rfl | exact absurd rfl (h1 _ _ _) | exact absurd rfl (h3 _ _ _ _) | exact absurd rfl (h4 _ _ _ _) | skip
  rename_i op e p
  cases op <;> first | rfl | exact absurd rfl (h2 _ _)
theorem takes_n {X : Cx} : ∀ {W : WX}, Takes X W → Takes X W := fun h => h

theorem fn_at {X : Cx} (g : Gd X C M xa k) {j : Nat} {x : Str} (h : (isGlb X.env.scope x && decide (M.fn[j]? = some x)) = true) : Gl X x ∧ (x == ("__debug__" : Str)) = false ∧ ∃ f fd ps, X.mg x = some (.ref f) ∧ PySem.W.keepIn X.K (.ref f) = true ∧ Binds X.K fd ps [] ∧ FnOk X.prog X.w X.K X.mg X.base (L2.CX X.prog X.w) k f fd ps (spOf X.K xa C.call j) := by
  obtain ⟨h1, h2⟩ := ba h
  obtain ⟨a, b⟩ := glb_of h1
  exact ⟨a, b, g.fns j x (of_decide_eq_true h2)⟩
/-- the parts of a list comprehension -/
theorem lc_parts {X : Cx} {W : WX} (g : Gd X C M xa k) {v t i : Expr} {ifs : List Expr} {scope : Scope} {elt : E} {tg : Tg} {it : It} {c : T}
    (h : (blkC X.N X.env.scope scope (ownOf X.N tg.slots) && (chkTg X.N (relS scope X.env.scope) true t tg && (chkI M X.N X.env.scope t i it && (chkE M X.N (relS scope X.env.scope) v elt && chkC ifs (isYes c) (fun e => chkT M X.N (relS scope X.env.scope) e c))))) = true)
    (hI : chkI M X.N X.env.scope t i it = true → PI X t i (tI X.K xa W (evI C it)) ∧ ∀ x, foldedSetIterable i X.env x = pure x)
    (hE : ∀ {X' : Cx}, Gd X' C M xa k → X'.N = X.N → X'.K = X.K → X'.env.scope = relS scope X.env.scope → PE X' v (tV X.K xa WF (evE C elt)))
    (hT : ∀ {X' : Cx} {e : Expr}, Gd X' C M xa k → X'.N = X.N → X'.K = X.K → X'.env.scope = relS scope X.env.scope → chkT M X'.N X'.env.scope e c = true → PT X' e (tBo X.K xa WF (evT C c))) :
    BlkOk X.N X.env.scope scope (ownOf X.N tg.slots) ∧ PI X t i (tI X.K xa W (evI C it)) ∧
      (∀ (s : Shared) (H : Hp) (c' : Addr) (cl : List (Str × Addr)) (fp : List Addr), PG (X.blk s H scope (compEnvC scope cl c' X.env) fp) t (tG X.K tg)) ∧
      (∀ (s : Shared) (H : Hp) (c' : Addr) (cl : List (Str × Addr)) (fp : List Addr), PTs (X.blk s H scope (compEnvC scope cl c' X.env) fp) ifs (tBo X.K xa WF (evT C c))) ∧
      (∀ (s : Shared) (H : Hp) (c' : Addr) (cl : List (Str × Addr)) (fp : List Addr), PE (X.blk s H scope (compEnvC scope cl c' X.env) fp) v (tD X.K xa WF fun ρ => dd (evE C elt ρ))) ∧ (∀ x, foldedSetIterable i X.env x = pure x) ∧ (ownOf X.N tg.slots).map (·.2) = tg.slots := by
  obtain ⟨h1, h⟩ := ba h
  obtain ⟨h2, h⟩ := ba h
  obtain ⟨h3, h⟩ := ba h
  obtain ⟨h4, h5⟩ := ba h
  have B := blkOk_by h1
  obtain ⟨pi, fo⟩ := hI h3
  refine ⟨B, pi, fun s H c' cl fp => ?_, fun s H c' cl fp => ?_, fun s H c' cl fp => ?_, fo, ?_⟩
  · exact tg_ok (X := X.blk s H scope (compEnvC scope cl c' X.env) fp) g.calm g.nd (.inl rfl) h2
  · have g' : Gd (X.blk s H scope (compEnvC scope cl c' X.env) fp) C M xa k := gd_blk g B.kind
    unfold chkC at h5
    split at h5
    · have ey : c = .yes := by cases c <;> first | rfl | cases h5
      subst ey
      exact pts_yes
    · exact pts_one (hT g' rfl rfl rfl h5)
    · cases h5
  · exact pe_toD (hE (gd_blk g B.kind) rfl rfl rfl)
  · unfold ownOf
    rw [List.map_map]
    exact List.map_id _

mutual
theorem soundE : ∀ (m : E) {X : Cx} {W : WX} {ex : Expr}, Gd X C M xa k → Takes X W → chkE M X.N X.env.scope ex m = true → PE X ex (tV X.K xa W (evE C m))
  | .nop, X, W, ex, g, tk, h => by cases h
  | .v i, X, W, ex, g, tk, h => by
    unfold chkE at h
    split at h
    · exact pe_read (name_of h)
    · cases h
  | .k d, X, W, ex, g, tk, h => by
    unfold chkE at h
    split at h
    · unfold chkK at h
      split at h
      · exact pe_const pe_non fun F => .non
      · rename_i b c
        have e1 : b = c := by simpa using h
        subst e1
        exact pe_const pe_bl fun F => .bl b
      · rename_i i j
        have e1 := of_decide_eq_true h
        subst e1
        exact pe_const pe_int fun F => .int i
      · rename_i s t
        have e1 := of_decide_eq_true h
        subst e1
        exact pe_const pe_str fun F => .str s
      · cases h
    · cases h
  | .g j, X, W, ex, g, tk, h => by
    unfold chkE at h
    split at h
    · rename_i x p
      obtain ⟨h1, h2⟩ := ba h
      obtain ⟨g1, g2⟩ := glb_of h1
      cases hd : C.gl j with
      | none =>
        refine ⟨fun pins s σ H Q I hq => ?_⟩
        obtain ⟨e, F, ρ, rel, post⟩ := hq
        have post : Post X.K xa W e σ F (R.ofO ((C.gl j).map Val.pv) ρ) _ := post
        rw [hd] at post
        exact post.elim
      | some d =>
        obtain ⟨u, v, hu, rv, rep⟩ := g.gls j x d (of_decide_eq_true h2) hd
        refine pe_weak (pe_glob g1 hu rv g2) fun σ H Q ⟨e, F, ρ, rel, post⟩ => ?_
        have post : Post X.K xa W e σ F (R.ofO ((C.gl j).map Val.pv) ρ) _ := post
        rw [hd] at post
        exact post F H (Ex.refl F) rel v (rep F)
    · cases h
  | .bin o a b, X, W, ex, g, tk, h => by
    unfold chkE at h
    split at h
    · obtain ⟨h1, h⟩ := ba h
      obtain ⟨h2, h3⟩ := ba h
      have e1 := of_decide_eq_true h1
      subst e1
      exact pe_binS (bin_ok o) (soundE a g tk h2) (soundE b g tk h3)
    · cases h
  | .neg a, X, W, ex, g, tk, h => by
    unfold chkE at h
    split at h
    · exact pe_neg' (soundE a g tk h)
    · cases h
  | .not a, X, W, ex, g, tk, h => by
    unfold chkE at h
    split at h
    · exact pe_not' (soundE a g tk h)
    · cases h
  | .and a b, X, W, ex, g, tk, h => by
    unfold chkE at h
    split at h
    · obtain ⟨h1, h2⟩ := ba h
      exact pe_and' (soundE a g tk h1) (pe_one (soundE b g tk h2))
    · obtain ⟨h1, h2⟩ := ba h
      exact pe_and' (soundE a g tk h1) (soundE b g tk h2)
    · cases h
  | .or a b, X, W, ex, g, tk, h => by
    unfold chkE at h
    split at h
    · obtain ⟨h1, h2⟩ := ba h
      exact pe_or' (soundE a g tk h1) (pe_one (soundE b g tk h2))
    · obtain ⟨h1, h2⟩ := ba h
      exact pe_or' (soundE a g tk h1) (soundE b g tk h2)
    · cases h
  | .cmp o a b, X, W, ex, g, tk, h => by
    unfold chkE at h
    split at h
    · obtain ⟨h1, h⟩ := ba h
      obtain ⟨h2, h3⟩ := ba h
      have e1 := of_decide_eq_true h1
      subst e1
      exact pe_cmpP (cmp_ok g.units o) (soundE a g tk h2) (pe_pk (soundE b g tk h3) h3) (mark_of h3 _)
    · cases h
  | .chain o o' a b c, X, W, ex, g, tk, h => by
    unfold chkE at h
    split at h
    · obtain ⟨h0, h⟩ := ba h
      obtain ⟨h1, h2⟩ := ba h0
      obtain ⟨h3, h⟩ := ba h
      obtain ⟨h4, h5⟩ := ba h
      have e1 := of_decide_eq_true h1
      have e2 := of_decide_eq_true h2
      subst e1
      subst e2
      exact pe_chainP (cmp_ok g.units o) (cmp_ok g.units o') (soundE a g tk h3) (soundE b g tk h4) (soundE c g tk h5) (mark_of h5 _)
    · cases h
  | .ife c a b, X, W, ex, g, tk, h => by
    unfold chkE at h
    split at h
    · obtain ⟨h1, h⟩ := ba h
      obtain ⟨h2, h3⟩ := ba h
      exact pe_ife' (soundT c g tk h1).1 (soundE a g tk h2) (soundE b g tk h3)
    · cases h
  | .tup es, X, W, ex, g, tk, h => by
    unfold chkE at h
    split at h
    · exact pe_tup' (soundEs es g tk h).1
    · cases h
  | .lst es, X, W, ex, g, tk, h => by
    unfold chkE at h
    split at h
    · exact pe_lst' (soundEs es g tk h).1
    · cases h
  | .ix a i, X, W, ex, g, tk, h => by
    unfold chkE at h
    split at h
    · obtain ⟨h1, h2⟩ := ba h
      exact pe_ixE (soundE a g tk h1) (soundE i g tk h2) (plain_of h2)
    · cases h
  | .ixv j i, X, W, ex, g, tk, h => by
    unfold chkE at h
    split at h
    · obtain ⟨h1, h2⟩ := ba h
      exact pe_ixv (name_of h1) (soundE i g tk h2) (plain_of h2)
    · cases h
  | .sl a lo hi, X, W, ex, g, tk, h => by
    unfold chkE at h
    split at h
    · obtain ⟨h1, h⟩ := ba h
      obtain ⟨h2, h3⟩ := ba h
      refine pe_slE (soundE a g tk h1) ?_ ?_
      · unfold chkO at h2
        split at h2
        · have e1 : lo = .nop := by cases lo <;> first | rfl | cases h2
          subst e1
          exact po_none'
        · have e1 : isNop lo = false := by cases lo <;> first | rfl | cases h2
          rw [e1]
          exact po_some' (soundE lo g tk h2)
      · unfold chkO at h3
        split at h3
        · have e1 : hi = .nop := by cases hi <;> first | rfl | cases h3
          subst e1
          exact po_none'
        · have e1 : isNop hi = false := by cases hi <;> first | rfl | cases h3
          rw [e1]
          exact po_some' (soundE hi g tk h3)
    · cases h
  | .slv j lo hi, X, W, ex, g, tk, h => by
    unfold chkE at h
    split at h
    · obtain ⟨h1, h⟩ := ba h
      obtain ⟨h2, h3⟩ := ba h
      refine pe_slv (name_of h1) ?_ ?_
      · unfold chkO at h2
        split at h2
        · have e1 : lo = .nop := by cases lo <;> first | rfl | cases h2
          subst e1
          exact po_none'
        · have e1 : isNop lo = false := by cases lo <;> first | rfl | cases h2
          rw [e1]
          exact po_some' (soundE lo g tk h2)
      · unfold chkO at h3
        split at h3
        · have e1 : hi = .nop := by cases hi <;> first | rfl | cases h3
          subst e1
          exact po_none'
        · have e1 : isNop hi = false := by cases hi <;> first | rfl | cases h3
          rw [e1]
          exact po_some' (soundE hi g tk h3)
    · cases h
  | .rev a, X, W, ex, g, tk, h => by
    unfold chkE at h
    split at h
    · exact pe_rev' (pe_pk (soundE a g tk h) h)
    · cases h
  | .call j es, X, W, ex, g, tk, h => by
    unfold chkE at h
    split at h
    · obtain ⟨h1, h2⟩ := ba h
      obtain ⟨a, b, f, fd, ps, c1, c2, c3, c4⟩ := fn_at g h1
      have hs := (soundEs es g tk h2)
      cases es with
      | nil => cases h2
      | cons e es =>
        have h3 := (ba h2).1
        exact pe_callE c4 g.room a c1 c2 c3 tk hs.1 b (star_of h3 _ _) (chkEs_back es (ba h2).2)
    · cases h
  | .cio j i es, X, W, ex, g, tk, h => by
    unfold chkE at h
    split at h
    · obtain ⟨h1, h⟩ := ba h
      obtain ⟨h2, h3⟩ := ba h
      obtain ⟨a, b, f, fd, ps, c1, c2, c3, c4⟩ := fn_at g h1
      exact pe_cioE c4 g.room a c1 c2 c3 tk (name_of h2) (soundEs es g tk h3).1 b rfl (chkEs_back es h3)
    · cases h
  | .craw j i, X, W, ex, g, tk, h => by
    unfold chkE at h
    split at h
    · obtain ⟨h1, h2⟩ := ba h
      obtain ⟨a, b, f, fd, ps, c1, c2, c3, c4⟩ := fn_at g h1
      exact pe_craw c4 g.room a c1 c2 c3 tk (name_of h2) b rfl rfl
    · cases h
  | .scr i n, X, W, ex, g, tk, h => by
    unfold chkE at h
    split at h
    · obtain ⟨h1, h2⟩ := ba h
      have e1 := of_decide_eq_true h2
      subst e1
      exact pe_scr (name_of h1) pe_int
    · cases h
  | .b1 b a, X, W, ex, g, tk, h => by
    unfold chkE at h
    split at h
    · obtain ⟨h1, hh⟩ := ba h
      clear h
      obtain ⟨h2, h3⟩ := ba h1
      have e1 := of_decide_eq_true h2
      subst e1
      obtain ⟨g1, g2⟩ := glb_of h3
      exact pe_b1 g.calm g1 (g.blt _ (blt_in b)) (pe_pk (soundE a g tk hh) hh) (star_of hh _ _)
    · cases h
  | .b2 b a c, X, W, ex, g, tk, h => by
    unfold chkE at h
    split at h
    · obtain ⟨h1, h⟩ := ba h
      obtain ⟨h5, h6⟩ := ba h
      obtain ⟨h1, h4⟩ := ba h1
      obtain ⟨h2, h3⟩ := ba h1
      have e1 := of_decide_eq_true h2
      subst e1
      obtain ⟨g1, g2⟩ := glb_of h3
      cases b <;> first | (cases h4; done) | skip
      · exact pe_min2 g.calm g1 (g.blt "min" (by decide)) (soundE a g tk h5) (soundE c g tk h6) (star_of h5 _ _) (star_of h6 _ _) (back_star h6 rfl)
      · exact pe_max2 g.calm g1 (g.blt "max" (by decide)) (soundE a g tk h5) (soundE c g tk h6) (star_of h5 _ _) (star_of h6 _ _) (back_star h6 rfl)
    · cases h
  | .isi a ts, X, W, ex, g, tk, h => by
    unfold chkE at h
    split at h
    · obtain ⟨h1, h5⟩ := ba h
      obtain ⟨h1, h4⟩ := ba h1
      obtain ⟨h2, h3⟩ := ba h1
      have e1 := of_decide_eq_true h2
      subst e1
      obtain ⟨g1, g2⟩ := glb_of h3
      have hm : X.mg "isinstance" = none := g.blt _ (by decide)
      unfold chkIsi at h4
      split at h4
      · obtain ⟨t1, t2⟩ := ba h4
        exact pe_isiT g1 hm (pe_pk (soundE a g tk h5) h5) (tys_ok g.blt t1) (of_decide_eq_true t2) (star_of h5 _ _) rfl
      · obtain ⟨t1, t2⟩ := ty_ok g.blt h4
        exact pe_isi1 g1 hm (pe_pk (soundE a g tk h5) h5) t1 (star_of h5 _ _) (t2 _) (by rw [t2]; rfl)
      · cases h4
    · cases h
  | .lc elt tg it c, X, W, ex, g, tk, h => by
    unfold chkE at h
    split at h
    · rename_i v t i ifs scope p
      have hE := (ba (ba (ba (ba h).2).2).2).1
      obtain ⟨B, pi, pg, pt, pe, fo, hm⟩ := lc_parts (W := W) g h (fun hi => soundI it g tk hi) (fun {X'} g' e1 e2 e3 => by
        rw [← e2]
        exact soundE elt g' takesF (by rw [e1, e3]; exact hE)) (fun {X' e} g' e1 e2 e3 hc => by
        rw [← e2]
        exact (soundT c g' takesF hc).1)
      refine pe_weak (pe_lc g.calm g.nd pi B pg pt pe fo) fun σ H Q hq => ?_
      rw [hm]
      exact lc_read hq
    · cases h
theorem soundEs : ∀ (m : Es) {X : Cx} {W : WX} {xs : List Expr}, Gd X C M xa k → Takes X W → chkEs M X.N X.env.scope xs m = true → PA X xs (tL X.K xa W (evA C m)) ∧ LenIs (evA C m) xs.length
  | .nil, X, W, xs, g, tk, h => by
    cases xs with
    | nil => exact ⟨pa_nil', fun ρ ds ρ' e => by cases e; rfl⟩
    | cons x r => cases h
  | .cons e es, X, W, xs, g, tk, h => by
    cases xs with
    | nil => cases h
    | cons x r =>
      obtain ⟨h1, h2⟩ := ba h
      obtain ⟨a, b⟩ := soundEs es g tk h2
      refine ⟨pa_cons' (soundE e g tk h1) a (star_of h1 _ _), fun ρ ds ρ' he => ?_⟩
      have he : (bindD (evE C e ρ) fun x ρ => (evA C es ρ).bind fun xs ρ => .ok (x :: xs) ρ) = .ok ds ρ' := he
      rw [bindD_dd] at he
      cases hd : dd (evE C e ρ) with
      | bad => rw [hd] at he; cases he
      | exc c x ρ1 => rw [hd] at he; cases he
      | ok d ρ1 =>
        rw [hd] at he
        have he : ((evA C es ρ1).bind fun xs ρ => .ok (d :: xs) ρ) = .ok ds ρ' := he
        cases hr : evA C es ρ1 with
        | bad => rw [hr] at he; cases he
        | exc c x ρ1 => rw [hr] at he; cases he
        | ok ys ρ2 =>
          rw [hr] at he
          cases he
          rw [List.length_cons, List.length_cons, b ρ1 ys _ hr]
theorem soundI : ∀ (m : It) {X : Cx} {W : WX} {tg ex : Expr}, Gd X C M xa k → Takes X W → chkI M X.N X.env.scope tg ex m = true → PI X tg ex (tI X.K xa W (evI C m)) ∧ ∀ x, foldedSetIterable ex X.env x = pure x
  | .rng es, X, W, tg, ex, g, tk, h => by
    have hm : X.mg "range" = none := g.blt _ (by decide)
    unfold chkI at h
    split at h
    · obtain ⟨h1, h2⟩ := ba h
      obtain ⟨h3, h4⟩ := ba h1
      have e1 := of_decide_eq_true h3
      subst e1
      obtain ⟨g1, g2⟩ := glb_of h4
      obtain ⟨a, b⟩ := soundEs es g tk h2
      cases es with
      | nil => cases h2
      | cons e es =>
        have s1 := star_of (ba h2).1 [] X.env
        exact ⟨pi_rngA g1 hm a b s1, fun x => rfl⟩
    · obtain ⟨h1, h2⟩ := ba h
      obtain ⟨h3, h4⟩ := ba h1
      have e1 := of_decide_eq_true h3
      subst e1
      obtain ⟨g1, g2⟩ := glb_of h4
      obtain ⟨a, b⟩ := soundEs es g tk h2
      cases es with
      | nil => cases h2
      | cons e1 es =>
        have k1 := (ba h2).1
        have k0 := (ba h2).2
        cases es with
        | nil => cases k0
        | cons e2 es =>
          have s2 := star_of (ba k0).1 [] X.env
          exact ⟨pi_rngB g1 hm a b (by rw [star_of k1, s2]; rfl) s2, fun x => rfl⟩
    · obtain ⟨h1, h2⟩ := ba h
      obtain ⟨h3, h4⟩ := ba h1
      have e1 := of_decide_eq_true h3
      subst e1
      obtain ⟨g1, g2⟩ := glb_of h4
      obtain ⟨a, b⟩ := soundEs es g tk h2
      cases es with
      | nil => cases h2
      | cons e1 es =>
        have k1 := (ba h2).1
        have k0 := (ba h2).2
        cases es with
        | nil => cases k0
        | cons e2 es =>
          have k2 := (ba k0).1
          have k3 := (ba k0).2
          cases es with
          | nil => cases k3
          | cons e3 es => exact ⟨pi_rngC g1 hm a b (star_of k1 _ _) (back_star k2 (back_star (ba k3).1 rfl)), fun x => rfl⟩
    · cases h
  | .of e, X, W, tg, ex, g, tk, h => ⟨pi_of (soundE e g tk h), fun x => fold_of h _ x⟩
  | .zip a b, X, W, tg, ex, g, tk, h => by
    have hm : X.mg "zip" = none := g.blt _ (by decide)
    unfold chkI at h
    split at h
    · obtain ⟨h1, h⟩ := ba h
      obtain ⟨h5, h6⟩ := ba h
      obtain ⟨h1, h4⟩ := ba h1
      obtain ⟨h2, h3⟩ := ba h1
      have e1 := of_decide_eq_true h2
      subst e1
      obtain ⟨g1, g2⟩ := glb_of h3
      cases tg <;> first | (cases h4; done) | skip
      exact ⟨pi_zip' g1 hm (soundE a g tk h5) (soundE b g tk h6) (star_of h5 _ _) (star_of h6 _ _) (back_star h6 rfl), fun x => rfl⟩
    · cases h
  | .enum a, X, W, tg, ex, g, tk, h => by
    have hm : X.mg "enumerate" = none := g.blt _ (by decide)
    unfold chkI at h
    split at h
    · obtain ⟨h1, h5⟩ := ba h
      obtain ⟨h1, h4⟩ := ba h1
      obtain ⟨h2, h3⟩ := ba h1
      have e1 := of_decide_eq_true h2
      subst e1
      obtain ⟨g1, g2⟩ := glb_of h3
      cases tg <;> first | (cases h4; done) | skip
      exact ⟨pi_enum' g1 hm (soundE a g tk h5) (star_of h5 [] _), fun x => rfl⟩
    · cases h
theorem soundT : ∀ (m : T) {X : Cx} {W : WX} {ex : Expr}, Gd X C M xa k → Takes X W → chkT M X.N X.env.scope ex m = true → PT X ex (tBo X.K xa W (evT C m)) ∧ ∀ op vs p, ex = .BoolOp op vs p → PW X ex (tBo X.K xa W (evT C m))
  | .e a, X, W, ex, g, tk, h => by
    unfold chkT at h
    split at h
    · cases h
    · cases h
    · cases h
    · rename_i n1 n2 n3
      refine ⟨?_, fun op vs p e => absurd e (n1 op vs p)⟩
      by_cases hc : ∃ l o r p, ex = .Compare l o r p
      · obtain ⟨l, o, r, p, rfl⟩ := hc
        cases a <;> first | (cases h; done) | skip
        · rename_i o a b
          unfold chkE at h
          split at h
          · rename_i e1
            cases e1
            obtain ⟨h1, hh⟩ := ba h
            obtain ⟨h2, h3⟩ := ba hh
            have e1 := of_decide_eq_true h1
            subst e1
            exact pt_cmpP (cmp_ok g.units o) (soundE a g tk h2) (pe_pk (soundE b g tk h3) h3) (mark_of h3 _)
          · cases h
        · rename_i o o' a b c
          unfold chkE at h
          split at h
          · rename_i e1
            cases e1
            obtain ⟨h0, h⟩ := ba h
            obtain ⟨h1, h2⟩ := ba h0
            obtain ⟨h3, h⟩ := ba h
            obtain ⟨h4, h5⟩ := ba h
            have e1 := of_decide_eq_true h1
            have e2 := of_decide_eq_true h2
            subst e1
            subst e2
            exact pt_chainP (cmp_ok g.units o) (cmp_ok g.units o') (soundE a g tk h3) (soundE b g tk h4) (soundE c g tk h5) (mark_of h5 _)
          · cases h
      · exact pt_val' (pe_pk (soundE a g tk h) h) (test_he n1 n2 n3 (fun l o r p e => hc ⟨l, o, r, p, e⟩) _)
  | .and a b, X, W, ex, g, tk, h => by
    unfold chkT at h
    split at h
    · obtain ⟨h1, h2⟩ := ba h
      have key := pw_and' (pos := by assumption) (soundT a g tk h1).1 (pw_and1 (soundT b g tk h2).1)
      exact ⟨key.pt, fun _ _ _ _ => key⟩
    · obtain ⟨h1, h2⟩ := ba h
      have key := pw_and' (soundT a g tk h1).1 ((soundT b g tk h2).2 _ _ _ rfl)
      exact ⟨key.pt, fun _ _ _ _ => key⟩
    · cases h
  | .or a b, X, W, ex, g, tk, h => by
    unfold chkT at h
    split at h
    · obtain ⟨h1, h2⟩ := ba h
      have key := pw_or' (pos := by assumption) (soundT a g tk h1).1 (pw_or1 (soundT b g tk h2).1)
      exact ⟨key.pt, fun _ _ _ _ => key⟩
    · obtain ⟨h1, h2⟩ := ba h
      have key := pw_or' (soundT a g tk h1).1 ((soundT b g tk h2).2 _ _ _ rfl)
      exact ⟨key.pt, fun _ _ _ _ => key⟩
    · cases h
  | .not a, X, W, ex, g, tk, h => by
    unfold chkT at h
    split at h
    · exact ⟨pt_not' (soundT a g tk h).1, fun _ _ _ e => nomatch e⟩
    · cases h
  | .yes, X, W, ex, g, tk, h => by cases h
end
end
end Pv

namespace Pv
open PySem L2 PyProof.Rows

def isStarE : Expr → Bool
  | .Starred _ _ => true
  | _ => false
def locNm (sc : Scope) (line : Nat) : Expr → Option Str
  | .Name id pos => if sc.names.lookup id == some .local && pos.line == line then some id else none
  | _ => none
def swNms (sc : Scope) (ts : List Expr) : List Str := ts.filterMap (locNm sc ((ts.head?.map (·.pos.line)).getD 0))
/-- what the text's own look says of stores that are exchanged -/
def swN (sc : Scope) (ts vs : List Expr) : Option (Option (List Str)) :=
  if (!(ts.length == 2 || ts.length == 3) || vs.length != ts.length || ScopeKind.function != ScopeKind.function) = true then some none
  else if vs.any isStarE = true then some none
  else if ((swNms sc ts).length != ts.length || (swNms sc ts).eraseDups.length != (swNms sc ts).length) = true then some none
  else if vs.all (foldedForSure 8) = true then some none
  else if vs.all (constantsAlone 8) = true then none
  else some (some (swNms sc ts))
def swM (sc : Scope) (ts vs : List Expr) : Sem (Option (List Str)) :=
  if (!(ts.length == 2 || ts.length == 3) || vs.length != ts.length || ScopeKind.function != ScopeKind.function) = true then pure none
  else if vs.any isStarE = true then pure none
  else if ((swNms sc ts).length != ts.length || (swNms sc ts).eraseDups.length != (swNms sc ts).length) = true then pure none
  else if vs.all (foldedForSure 8) = true then pure none
  else if vs.all (constantsAlone 8) = true then (do unsupported "assign.tuple-of-constant-expressions:order-of-the-stores"; pure (some (swNms sc ts)))
  else pure (some (swNms sc ts))
theorem swM_eq {env : PySem.Env} {ts vs : List Expr} {k k2 : Nat} {p p2 : Pos} (hk : env.scope.kind = .function) : swappedStores [.Tuple ts k p] (.Tuple vs k2 p2) env = swM env.scope ts vs := by
  have hb : env.blockKind = .function := by unfold Env.blockKind; rw [hk]; rfl
  unfold swappedStores
  rw [hb]
  rfl
theorem sw_eq {env : PySem.Env} {ts vs : List Expr} {k k2 : Nat} {p p2 : Pos} {o : Option (List Str)} (hk : env.scope.kind = .function) (h : swN env.scope ts vs = some o) : swappedStores [.Tuple ts k p] (.Tuple vs k2 p2) env = pure o := by
  rw [swM_eq hk]
  unfold swN at h
  unfold swM
  split at h
  · rename_i c1
    cases h
    rw [if_pos c1]
  · rename_i c1
    rw [if_neg c1]
    split at h
    · rename_i c2
      cases h
      rw [if_pos c2]
    · rename_i c2
      rw [if_neg c2]
      split at h
      · rename_i c3
        cases h
        rw [if_pos c3]
      · rename_i c3
        rw [if_neg c3]
        split at h
        · rename_i c4
          cases h
          rw [if_pos c4]
        · rename_i c4
          rw [if_neg c4]
          split at h
          · cases h
          · rename_i c5
            cases h
            rw [if_neg c5]
theorem sw_non {tg v : Expr} {env : PySem.Env} (h : ∀ vs k p, v ≠ .Tuple vs k p) : swappedStores [tg] v env = pure none := by
  cases tg <;> cases v <;> first | rfl | exact absurd rfl (h _ _ _)
theorem sws_tup {ts : List Expr} {k l : Nat} {p : Pos} {v : Expr} {env : PySem.Env} : swapsWithSole [.Tuple ts k p] v l env = pure false := by
  cases v <;> rfl
theorem sws_sub {o i : Expr} {p : Pos} {l : Nat} {v : Expr} {env : PySem.Env} : swapsWithSole [.Subscript o i p] v l env = pure false := by
  cases v <;> rfl
def isCompE : Expr → Bool
  | .ListComp _ _ _ _ => true
  | .SetComp _ _ _ _ => true
  | .DictComp _ _ _ _ _ => true
  | _ => false
theorem sw_nc {v : Expr} {t : Option Expr} {l : Nat} {env : PySem.Env} (h : isCompE v = false) : swapsWith v t l env = pure false := by
  cases v <;> first | rfl | cases h
def swB (sc : Scope) (x : Str) (px : Pos) : Expr → Bool
  | .ListComp _ _ scope pos => sc.names.lookup x == some .local && px.line == pos.line && !(scope.names.any fun (n, k) => n == x && (k == .local || k == .cell))
  | _ => false
theorem sw_lc {elt : Expr} {gs : List Comprehension} {scope : Scope} {pos px : Pos} {x : Str} {l : Nat} {env : PySem.Env} (hk : env.scope.kind = .function) : swapsWith (.ListComp elt gs scope pos) (some (.Name x px)) l env = pure (swB env.scope x px (.ListComp elt gs scope pos)) := by
  have hb : env.blockKind = .function := by unfold Env.blockKind; rw [hk]; rfl
  show pure (env.blockKind == .function && env.kindOf x == some .local && px.line == pos.line && !(scope.names.any fun (n, k) => n == x && (k == .local || k == .cell))) = _
  rw [hb]
  rfl
def parB (N : List Str) (sc : Scope) : List Expr → List Nat → Bool
  | [], [] => true
  | .Name x _ :: es, i :: is => decide (N[i]? = some x) && isLoc sc x && decide (i ∉ is) && parB N sc es is
  | _, _ => false
def nmsOf : List Expr → List Str
  | .Name x _ :: es => x :: nmsOf es
  | _ => []
def augOk (op : Operator) (o : BOp) : Bool := (decide (op = .Add) && decide (o = .add)) || (decide (op = .Sub) && decide (o = .sub))
section
variable (M : Nm) (N : List Str) (sc : Scope)
mutual
def chkS (st : Stmt) : S → Bool
  | .asg (.n i) e => (match st with
    | .Assign [.Name x p] v _ => chkNm N sc false (.Name x p) i && chkE M N sc v e
    | _ => false)
  | .asg (.t is) e => (match st with
    | .Assign [.Tuple ts k p] (.Tuple vs k2 p2) _ => chkTg N sc false (.Tuple ts k p) (.t is) && decide (swN sc ts vs = some none) && chkE M N sc (.Tuple vs k2 p2) e
    | .Assign [.Tuple ts k p] v _ => chkTg N sc false (.Tuple ts k p) (.t is) && !isTupE v && chkE M N sc v e
    | _ => false)
  | .par is es => (match st with
    | .Assign [.Tuple ts _ _] (.Tuple vs _ _) _ => (parB N sc ts is && decide (swN sc ts vs = some (some (nmsOf ts)))) && chkEs M N sc vs es
    | _ => false)
  | .set i x e => (match st with
    | .Assign [.Subscript (.Name y _) s _] v _ => nameB N sc i y && (chkE M N sc s x && (chkE M N sc v e && !isTupE v))
    | _ => false)
  | .aug i o e => (match st with
    | .AugAssign (.Name x p) op v _ => chkNm N sc false (.Name x p) i && augOk op o && chkE M N sc v e
    | _ => false)
  | .app i e => (match st with
    | .Expr (.Call (.Attribute (.Name x _) a apos) [v] [] cpos) _ => nameB N sc i x && (decide (a = ("append" : Str)) && (apos.endLine == cpos.line)) && chkE M N sc v e
    | _ => false)
  | .expr e => (match st with
    | .Expr v _ => !isCompE v && chkE M N sc v e
    | _ => false)
  | .ite c a b => (match st with
    | .If t xs ys _ => chkT M N sc t c && (chkSs xs a && chkSs ys b)
    | _ => false)
  | .whl c b => (match st with
    | .While t xs [] _ => chkT M N sc t c && chkSs xs b
    | _ => false)
  | .for_ t it b => (match st with
    | .For tg i xs [] _ => chkTg N sc false tg t && (chkI M N sc tg i it && chkSs xs b)
    | _ => false)
  | .ret e => (match st with
    | .Return (some v) _ => chkE M N sc v e
    | _ => false)
  | .retv i => (match st with
    | .Return (some (.Name x _)) _ => nameB N sc i x
    | _ => false)
  | .retN => (match st with
    | .Return none _ => true
    | _ => false)
  | .raise c => (match st with
    | .Raise (some (.Call (.Name x _) [] [] _)) none _ => isGlb sc x && decide (M.ex[c]? = some x)
    | _ => false)
  | .raisex _ _ => (match st with
    | .Raise _ _ _ => true
    | _ => false)
  | .pass => (match st with
    | .Pass _ => true
    | _ => false)
  | .brk => (match st with
    | .Break _ => true
    | _ => false)
  | .ct => (match st with
    | .Continue _ => true
    | _ => false)
def chkSs (sts : List Stmt) : Ss → Bool
  | .nil => (match sts with
    | [] => true
    | _ => false)
  | .cons s r => (match sts with
    | st :: rest => chkS st s && chkSs rest r
    | _ => false)
end
end
structure GdS (X : Cx) (C : Cfg) (M : Nm) (xa : Nat → Addr) (k : Nat) : Prop extends Gd X C M xa k where
  fnall : ∀ x, X.fn x = true
  pass : PassesOwn (model X.prog X.w) X.A X.env X.xe
section
variable {C : Cfg} {M : Nm} {xa : Nat → Addr} {k : Nat}
theorem asg1 {tg : Expr} {env : PySem.Env} (h : ∀ e p, tg ≠ .Starred e p) : (assignEach [tg] env).map (·.2) = [assign tg env] := by
  cases tg <;> first | rfl | exact absurd rfl (h _ _)
theorem aug_add {x y z : D} (h : augD .add x y = some z) : ∃ a b, x = .int a ∧ y = .int b ∧ z = .int ((fun i j => i + j) a b) := by
  cases x <;> cases y <;> first | (cases h; done) | skip
  cases h
  exact ⟨_, _, rfl, rfl, rfl⟩
theorem aug_sub {x y z : D} (h : augD .sub x y = some z) : ∃ a b, x = .int a ∧ y = .int b ∧ z = .int ((fun i j => i - j) a b) := by
  cases x <;> cases y <;> first | (cases h; done) | skip
  cases h
  exact ⟨_, _, rfl, rfl, rfl⟩
theorem parB_cons {N : List Str} {sc : Scope} {ts : List Expr} {i : Nat} {is : List Nat} (h : parB N sc ts (i :: is) = true) : ∃ x p es, ts = .Name x p :: es ∧ N[i]? = some x ∧ sc.names.lookup x = some .local ∧ i ∉ is ∧ parB N sc es is = true := by
  cases ts with
  | nil => cases h
  | cons e es =>
    cases e <;> first | (cases h; done) | skip
    rename_i x p
    obtain ⟨h1, h4⟩ := ba h
    obtain ⟨h1, h3⟩ := ba h1
    obtain ⟨h1, h2⟩ := ba h1
    exact ⟨x, p, es, rfl, of_decide_eq_true h1, of_decide_eq_true h2, of_decide_eq_true h3, h4⟩
theorem parB_nil {N : List Str} {sc : Scope} {ts : List Expr} (h : parB N sc ts [] = true) : ts = [] := by
  cases ts with
  | nil => rfl
  | cons e es => cases e <;> cases h
theorem parB_len {N : List Str} {sc : Scope} : ∀ {is : List Nat} {ts : List Expr}, parB N sc ts is = true → ts.length = is.length
  | [], ts, h => by rw [parB_nil h]; rfl
  | i :: is, ts, h => by
    obtain ⟨x, p, es, rfl, _, _, _, h5⟩ := parB_cons h
    rw [List.length_cons, List.length_cons, parB_len h5]
theorem swN_len {sc : Scope} {ts vs : List Expr} {l : List Str} (h : swN sc ts vs = some (some l)) : (ts.length = 2 ∨ ts.length = 3) ∧ vs.length = ts.length := by
  unfold swN at h
  split at h
  · cases h
  · rename_i c1
    have c1 := Bool.eq_false_iff.mpr c1
    obtain ⟨c1, _⟩ := Bool.or_eq_false_iff.mp c1
    obtain ⟨c1, c2⟩ := Bool.or_eq_false_iff.mp c1
    refine ⟨?_, by simpa using c2⟩
    have c3 : ¬ ts.length = 2 → ts.length = 3 := by simpa using c1
    omega
theorem par_sound {X : Cx} {W : WX} {ts vs : List Expr} {is : List Nat} {es : Es} {k1 k2 : Nat} {p1 p2 pos : Pos} (hc : X.calm = true) (nd : X.N.Nodup) (h1 : parB X.N X.env.scope ts is = true) (hs : swN X.env.scope ts vs = some (some (nmsOf ts))) (sw : swappedStores [.Tuple ts k1 p1] (.Tuple vs k2 p2) X.env = pure (some (nmsOf ts)))
    (pa : PA X vs (tL X.K xa W (evA C es))) (ln : LenIs (evA C es) vs.length) : PS X (.Assign [.Tuple ts k1 p1] (.Tuple vs k2 p2) pos) (tS X.K xa W (evS C (.par is es))) := by
  obtain ⟨hl, hv⟩ := swN_len hs
  have hl2 := parB_len h1
  match is, h1, hl2 with
  | [], h1, hl2 => rw [hl2] at hl; rcases hl with hl | hl <;> cases hl
  | [i], h1, hl2 => rw [hl2] at hl; rcases hl with hl | hl <;> cases hl
  | [i, j], h1, hl2 =>
    obtain ⟨x, px, es1, rfl, a1, a2, a3, h1⟩ := parB_cons h1
    obtain ⟨y, py, es2, rfl, b1, b2, b3, h1⟩ := parB_cons h1
    have e0 := parB_nil h1
    subst e0
    match vs, hv, pa, ln, sw with
    | [a, b], _, pa, ln, sw => exact ps_par2' ln (ps_par hc nd a1 b1 (by simpa using a3) a2 b2 pa sw)
  | [i, j, l], h1, hl2 =>
    obtain ⟨x, px, es1, rfl, a1, a2, a3, h1⟩ := parB_cons h1
    obtain ⟨y, py, es2, rfl, b1, b2, b3, h1⟩ := parB_cons h1
    obtain ⟨z, pz, es3, rfl, c1, c2, c3, h1⟩ := parB_cons h1
    have e0 := parB_nil h1
    subst e0
    have a4 : i ≠ j ∧ i ≠ l := by simpa using a3
    have b4 : j ≠ l := by simpa using b3
    match vs, hv, pa, ln, sw with
    | [a, b, c], _, pa, ln, sw => exact ps_par3' ln (ps_par3 hc nd a1 b1 c1 a4.1 a4.2 b4 a2 b2 c2 pa sw)
  | i :: j :: l :: m :: r, h1, hl2 =>
    rw [hl2] at hl
    simp only [List.length_cons] at hl
    omega
theorem sub_asg {o i : Expr} {p : Pos} {env : PySem.Env} {N : List Str} {sc : Scope} {m : E} (h : chkE M N sc i m = true) (v : Value) : assign (.Subscript o i p) env v = (do
    let ov ← holding [v] (eval o env)
    let iv ← holding [v, ov] (eval i env)
    standAt p
    holding [v, ov, iv] (setItem ov iv v)
    release [v, ov, iv] []) := by
  cases i <;> first | rfl | (rw [chk_slice] at h; cases h)
mutual
theorem soundS : ∀ (m : S) {X : Cx} {W : WX} {st : Stmt}, GdS X C M xa k → Takes X W → chkS M X.N X.env.scope st m = true → PS X st (tS X.K xa W (evS C m))
  | .asg (.n i) e, X, W, st, g, tk, h => by
    unfold chkS at h
    split at h
    · rename_i x p v pos
      obtain ⟨h1, h2⟩ := ba h
      have hE := soundE e g.toGd tk h2
      obtain ⟨pg, _⟩ := nm_ok g.nd (.inr g.fnall) h1
      have other : swapsWith v (some (.Name x p)) pos.line X.env = pure false → PS X (.Assign [.Name x p] v pos) (tS X.K xa W (evS C (.asg (.n i) e))) := fun hs =>
        ps_asgN (ps_asg hE pg hs (by cases v <;> rfl) rfl) fun σ H Q hq => hq
      cases hc : isCompE v with
      | false => exact other (sw_nc hc)
      | true =>
        cases v <;> first | (cases hc; done) | (cases e <;> cases h2; done) | skip
        rename_i elt gs scope p2
        cases hb : swB X.env.scope x p (.ListComp elt gs scope p2) with
        | false => exact other (by rw [sw_lc g.kind, hb])
        | true =>
          have hloc : X.env.scope.names.lookup x = some .local := by
            have hb' := (ba (ba hb).1).1
            exact eq_of_beq hb'
          have hN : X.N[i]? = some x := of_decide_eq_true (ba h1).1
          cases e <;> first | (cases h2; done) | skip
          rename_i el tg it c
          unfold chkE at h2
          split at h2
          · rename_i v t i' ifs scope' p3 heq
            cases heq
            have hE := (ba (ba (ba (ba h2).2).2).2).1
            obtain ⟨B, pi, pg', pt, pe, fo, hm⟩ := lc_parts (W := W) g.toGd h2 (fun hi => soundI it g.toGd tk hi) (fun {X'} g' e1 e2 e3 => by
              rw [← e2]
              exact soundE el g' takesF (by rw [e1, e3]; exact hE)) (fun {X' e} g' e1 e2 e3 hc => by
              rw [← e2]
              exact (soundT c g' takesF hc).1)
            have key := ps_setLc (py := p) (spos := pos) g.calm g.nd hN hloc (by rw [sw_lc g.kind, hb]) pi B pg' pt pe fo
            rw [hm] at key
            exact ps_asgN key fun σ H Q hq => lc_read hq
          · cases h2
    · cases h
  | .asg (.t is) e, X, W, st, g, tk, h => by
    unfold chkS at h
    split at h
    · obtain ⟨h1, h2⟩ := ba h
      obtain ⟨h1, h3⟩ := ba h1
      exact ps_asgT (soundE e g.toGd tk h2) (tg_ok g.calm g.nd (.inr g.fnall) h1) sws_tup (sw_eq g.kind (of_decide_eq_true h3)) rfl
    · obtain ⟨h1, h2⟩ := ba h
      obtain ⟨h1, h3⟩ := ba h1
      exact ps_asgT (soundE e g.toGd tk h2) (tg_ok g.calm g.nd (.inr g.fnall) h1) sws_tup (sw_non fun vs k p z => by rw [z] at h3; cases h3) rfl
    · cases h
  | .par is es, X, W, st, g, tk, h => by
    unfold chkS at h
    split at h
    · obtain ⟨h1, h2⟩ := ba h
      obtain ⟨h1, h3⟩ := ba h1
      have hs := of_decide_eq_true h3
      obtain ⟨pa, ln⟩ := soundEs es g.toGd tk h2
      exact par_sound g.calm g.nd h1 hs (sw_eq g.kind hs) pa ln
    · cases h
  | .set i x e, X, W, st, g, tk, h => by
    unfold chkS at h
    split at h
    · obtain ⟨h1, h⟩ := ba h
      obtain ⟨h2, h⟩ := ba h
      obtain ⟨h3, h4⟩ := ba h
      exact ps_set' (soundE e g.toGd tk h3) (pg_sub (name_of h1) (pe_toD (soundE x g.toGd tk h2)) set_list (sub_asg h2)) sws_sub (sw_non fun vs k p z => by rw [z] at h4; cases h4) rfl
    · cases h
  | .aug i o e, X, W, st, g, tk, h => by
    unfold chkS at h
    split at h
    · rename_i x p op v pos
      obtain ⟨h1, h3⟩ := ba h
      obtain ⟨h1, h2⟩ := ba h1
      have hE := pe_toD (soundE e g.toGd tk h3)
      obtain ⟨h4, h5⟩ := ba h1
      have hx : Loc X.env.scope x := by
        rcases Bool.or_eq_true_iff.mp h5 with h5 | h5
        · exact .inl (of_decide_eq_true h5)
        · exact .inr (of_decide_eq_true (ba h5).2)
      have hN := of_decide_eq_true h4
      unfold augOk at h2
      rcases Bool.or_eq_true_iff.mp h2 with h2 | h2
      · obtain ⟨e1, e2⟩ := ba h2
        have e1 := of_decide_eq_true e1
        have e2 := of_decide_eq_true e2
        subst e1
        subst e2
        exact ps_aug' (ps_aug g.nd hN hx hE ip_add (.inl (g.fnall x))) fun x y z hz => aug_add hz
      · obtain ⟨e1, e2⟩ := ba h2
        have e1 := of_decide_eq_true e1
        have e2 := of_decide_eq_true e2
        subst e1
        subst e2
        exact ps_aug' (ps_aug g.nd hN hx hE ip_sub (.inl (g.fnall x))) fun x y z hz => aug_sub hz
    · cases h
  | .app i e, X, W, st, g, tk, h => by
    unfold chkS at h
    split at h
    · obtain ⟨h1, h5⟩ := ba h
      clear h
      obtain ⟨h0, h2⟩ := ba h1
      clear h1
      obtain ⟨h2, h3⟩ := ba h2
      have e1 := of_decide_eq_true h2
      subst e1
      have hE := soundE e g.toGd tk h5
      have hs := star_of h5 [] X.env
      refine ps_app' (ps_expr (pe_bm PySem.F.plainAttrs_list PySem.F.slot_list_append PySem.F.type_list_append mt_append (name_of h0) (pa_cons (pe_toD hE) pa_nil hs) rfl ?_ h3 hs rfl))
      rw [hs]
      rfl
    · cases h
  | .expr e, X, W, st, g, tk, h => by
    unfold chkS at h
    split at h
    · rename_i v p
      obtain ⟨h1, h2⟩ := ba h
      exact ps_expr' (soundE e g.toGd tk h2) (sw_nc (by cases hc : isCompE v with | false => rfl | true => rw [hc] at h1; cases h1))
    · cases h
  | .ite c a b, X, W, st, g, tk, h => by
    unfold chkS at h
    split at h
    · obtain ⟨h1, h⟩ := ba h
      obtain ⟨h2, h3⟩ := ba h
      exact ps_ite' (soundT c g.toGd tk h1).1 (soundSs a g tk h2) (soundSs b g tk h3)
    · cases h
  | .whl c b, X, W, st, g, tk, h => by
    unfold chkS at h
    split at h
    · obtain ⟨h1, h2⟩ := ba h
      exact ps_whl' g.pass (soundT c g.toGd tk h1).1 (soundSs b g tk h2)
    · cases h
  | .for_ t it b, X, W, st, g, tk, h => by
    unfold chkS at h
    split at h
    · obtain ⟨h1, h⟩ := ba h
      obtain ⟨h2, h3⟩ := ba h
      obtain ⟨pi, fo⟩ := soundI it g.toGd tk h2
      exact ps_for' g.pass g.calm pi (tg_ok g.calm g.nd (.inr g.fnall) h1) (soundSs b g tk h3) fo
    · cases h
  | .ret e, X, W, st, g, tk, h => by
    unfold chkS at h
    split at h
    · exact ps_ret' (soundE e g.toGd tk h)
    · cases h
  | .retv i, X, W, st, g, tk, h => by
    unfold chkS at h
    split at h
    · exact ps_retv' (name_of h)
    · cases h
  | .retN, X, W, st, g, tk, h => by
    unfold chkS at h
    split at h
    · exact ps_retN'
    · cases h
  | .raise c, X, W, st, g, tk, h => by
    unfold chkS at h
    split at h
    · rename_i x p p2 p3
      obtain ⟨h1, h2⟩ := ba h
      obtain ⟨g1, g2⟩ := glb_of h1
      obtain ⟨e1, e2, e3, e4, e5⟩ := g.exs c x (of_decide_eq_true h2)
      exact ps_raise0 g.calm tk (pmk_own0 PySem.F.excBase_ValueError e3 e1 e2 (raises_own e4 e5) g1 g2)
    · cases h
  | .raisex c x, X, W, st, g, tk, h => ps_bad fun ρ => rfl
  | .pass, X, W, st, g, tk, h => by
    unfold chkS at h
    split at h
    · exact ps_pass'
    · cases h
  | .brk, X, W, st, g, tk, h => by
    unfold chkS at h
    split at h
    · exact ps_brk'
    · cases h
  | .ct, X, W, st, g, tk, h => by
    unfold chkS at h
    split at h
    · exact ps_ct'
    · cases h
theorem soundSs : ∀ (m : Ss) {X : Cx} {W : WX} {sts : List Stmt}, GdS X C M xa k → Takes X W → chkSs M X.N X.env.scope sts m = true → PSs X sts (tS X.K xa W (evSs C m))
  | .nil, X, W, sts, g, tk, h => by
    cases sts with
    | nil => exact pss_nil'
    | cons s r => cases h
  | .cons s r, X, W, sts, g, tk, h => by
    cases sts with
    | nil => cases h
    | cons st rest =>
      obtain ⟨h1, h2⟩ := ba h
      exact pss_cons' (soundS s g tk h1) (soundSs r g tk h2)
end
end
end Pv

namespace Pv
open PySem L2 PyProof.Rows
/-! ### a def's promise -/
theorem argR_len {K : PySem.W.Frag} {F H : Hp} : ∀ {vs : List V} {as : List Slot}, ArgR K F H vs as → vs.length = as.length
  | [], [], _ => rfl
  | [], _ :: _, h => h.elim
  | _ :: _, [], h => h.elim
  | v :: vs, .v d :: ss, h => congrArg Nat.succ (argR_len h.2)
  | v :: vs, .io d :: ss, h => congrArg Nat.succ (argR_len h.2)
  | v :: vs, .raw d :: ss, h => congrArg Nat.succ (argR_len h.2)
  | v :: vs, .own d :: ss, h => h.elim
  | v :: vs, .fz d :: ss, h => h.elim
def isVS : Slot → Bool
  | .v _ => true
  | _ => false
theorem argR_get {K : PySem.W.Frag} {F H : Hp} : ∀ {vs : List V} {as : List Slot} {i : Nat} {s : Slot}, ArgR K F H vs as → as[i]? = some s → ∃ v, vs[i]? = some v ∧ match s with
    | .v d => Rep K F v d
    | .io xs => ∃ p us, v = .ref p ∧ F p = none ∧ H p = some (.lst us) ∧ Reps K F us xs
    | .raw xs => ∃ p us, v = .ref p ∧ SqL K F p us ∧ Reps K F us xs
    | _ => False
  | [], [], i, s, _, h => by simp at h
  | [], _ :: _, _, _, h, _ => h.elim
  | _ :: _, [], _, _, h, _ => h.elim
  | v :: vs, .v d :: ss, 0, s, h, e => by cases e; exact ⟨v, rfl, h.1⟩
  | v :: vs, .io d :: ss, 0, s, h, e => by cases e; exact ⟨v, rfl, h.1⟩
  | v :: vs, .raw d :: ss, 0, s, h, e => by cases e; exact ⟨v, rfl, h.1⟩
  | v :: vs, .v d :: ss, i + 1, s, h, e => by obtain ⟨w, h1, h2⟩ := argR_get (i := i) h.2 (by simpa using e); exact ⟨w, by simpa using h1, h2⟩
  | v :: vs, .io d :: ss, i + 1, s, h, e => by obtain ⟨w, h1, h2⟩ := argR_get (i := i) h.2 (by simpa using e); exact ⟨w, by simpa using h1, h2⟩
  | v :: vs, .raw d :: ss, i + 1, s, h, e => by obtain ⟨w, h1, h2⟩ := argR_get (i := i) h.2 (by simpa using e); exact ⟨w, by simpa using h1, h2⟩
  | v :: vs, .own d :: ss, _, _, h, _ => h.elim
  | v :: vs, .fz d :: ss, _, _, h, _ => h.elim
theorem argOk_io : ∀ {as : List Slot} {i : Nat} {xs : List D}, argOk as = true → as[i]? = some (.io xs) → i = 0
  | [], _, _, _, e => by simp at e
  | s :: r, 0, _, _, _ => rfl
  | .v d :: r, i + 1, xs, h, e => by
    have e : r[i]? = some (.io xs) := by simpa using e
    have := List.all_eq_true.mp (show r.all _ = true from h) _ (List.mem_of_getElem? e)
    cases this
  | .io d :: r, i + 1, xs, h, e => by
    have e : r[i]? = some (.io xs) := by simpa using e
    have := List.all_eq_true.mp (show r.all _ = true from h) _ (List.mem_of_getElem? e)
    cases this
  | [.raw d], i + 1, xs, h, e => by simp at e
  | .raw d :: b :: r, i + 1, xs, h, e => by cases h
  | .own d :: r, i + 1, xs, h, e => by cases h
  | .fz d :: r, i + 1, xs, h, e => by cases h
theorem ioAddr_io {v : V} {vs : List V} {xs : List D} {as : List Slot} {p : Addr} (h : v = .ref p) : ioAddr (v :: vs) (.io xs :: as) = some p := by subst h; rfl
theorem ioAddr_some {vs : List V} {as : List Slot} {p : Addr} (h : ioAddr vs as = some p) : ∃ vr xs ar, vs = .ref p :: vr ∧ as = .io xs :: ar := by
  unfold ioAddr at h
  split at h
  · cases h; exact ⟨_, _, _, rfl, rfl⟩
  · cases h
theorem start_get {N : List Str} {as : List Slot} {n i : Nat} {s : Slot} (h : (as.map some ++ List.replicate n none)[i]? = some (some s)) : as[i]? = some s := by
  by_cases hi : i < as.length
  · rw [List.getElem?_append_left (by simpa using hi), List.getElem?_map] at h
    cases e : as[i]? with
    | none => rw [e] at h; cases h
    | some t => rw [e] at h; cases h; rfl
  · rw [List.getElem?_append_right (by simpa using Nat.le_of_not_lt hi)] at h
    rw [List.getElem?_replicate] at h
    split at h <;> cases h
/-- what is meant by the beginning of a def -/
theorem rel_start {K : PySem.W.Frag} {F H : Hp} {vs : List V} {as : List Slot} {N : List Str} {n : Nat} (ex : Ex F H) (ar : ArgR K F H vs as) (ok : argOk as = true) (hn : n = N.length - as.length) :
    Rel K ⟨F, H, fun a => ioAddr vs as = some a, ioAddr vs as⟩ F H (as.map some ++ List.replicate n none) (L2.start N vs) := by
  have hl := argR_len ar
  have io0 : ∀ {i : Nat} {s : Slot}, (as.map some ++ List.replicate n none)[i]? = some (some s) → s.isM = true → i = 0 := fun {i s} h hm => by
    have h := start_get (N := N) h
    cases s with
    | io xs => exact argOk_io ok h
    | own xs => obtain ⟨v, _, q⟩ := argR_get ar h; exact q.elim
    | v d => cases hm
    | fz xs => cases hm
    | raw xs => cases hm
  refine ⟨?_, Ex.refl F, ex, fun i s h => ?_, fun i j s t p hij h1 h2 m1 m2 _ => absurd ((io0 h1 m1).trans (io0 h2 m2).symm) hij, fun a o h _ => h, fun a h _ _ => h, fun p hp => ?_, fun p hp => hp⟩
  · unfold L2.start
    rw [List.length_append, List.length_append, List.length_map, List.length_map, List.length_replicate, List.length_replicate, hn, hl]
  · have h := start_get (N := N) h
    obtain ⟨v, hv, q⟩ := argR_get ar h
    refine ⟨v, ?_, ?_⟩
    · unfold L2.start
      have hi : i < vs.length := (List.getElem?_eq_some_iff.mp hv).1
      rw [List.getElem?_append_left (by simpa using hi), List.getElem?_map, hv]
      rfl
    · cases s with
      | v d => exact q
      | io xs =>
        obtain ⟨p, us, rfl, q1, q2, q3⟩ := q
        have i0 := argOk_io ok h
        subst i0
        have : ioAddr vs as = some p := by
          cases as with
          | nil => simp at h
          | cons a as =>
            cases vs with
            | nil => simp at hv
            | cons w vs =>
              simp at h hv
              subst h
              subst hv
              rfl
        exact ⟨p, us, rfl, q1, q2, q3, this, this⟩
      | raw xs => exact q
      | own xs => exact q.elim
      | fz xs => exact q.elim
  · obtain ⟨vr, xs, ar', rfl, rfl⟩ := ioAddr_some hp
    obtain ⟨⟨q, us, e, _, h2, _⟩, _⟩ := ar
    cases e
    rw [h2]
    exact fun z => nomatch z
section
variable {K : PySem.W.Frag} {F H F' H' : Hp} {vs : List V} {as : List Slot} {ρ : Env} {σ : L2.St} {v : V}
theorem frame_of (r : Rel K ⟨F, H, fun a => ioAddr vs as = some a, ioAddr vs as⟩ F' H' ρ σ) : Frame F H (ioAddr vs as) F' H' := ⟨fun a o h hn => r.frm a o h hn, fun a h1 h2 hn => r.old a h1 h2 hn⟩
theorem out_of {o : Option Slot} (r : Rel K ⟨F, H, fun a => ioAddr vs as = some a, ioAddr vs as⟩ F' H' ρ σ) (h : outOf as ρ = some o) : OutR K F' H' (ioAddr vs as) o := by
  unfold outOf at h
  split at h
  · have get : ∀ s, ρ.getD 0 none = some s → ρ[0]? = some (some s) := fun s e => by
      rw [List.getD_eq_getElem?_getD] at e
      cases hr : ρ[0]? with
      | none => rw [hr] at e; cases e
      | some t => rw [hr] at e; rw [show t = some s from e]
    split at h
    · rename_i xs hs
      cases h
      obtain ⟨w, _, p, us, _, q1, q2, q3, _, q5⟩ := r.slot 0 _ (get _ hs)
      exact ⟨p, us, q5, q1, q2, q3⟩
    · rename_i xs hs
      cases h
      obtain ⟨w, _, p, e, q1, q2⟩ := r.slot 0 _ (get _ hs)
      subst e
      exact ⟨p, q1, q2⟩
    · cases h
  · rename_i hn
    cases h
    show ioAddr vs as = none
    cases hi : ioAddr vs as with
    | none => rfl
    | some p =>
      obtain ⟨vr, xs, ar', _, e⟩ := ioAddr_some hi
      exact absurd e (hn xs ar')
theorem vrc_of {x : Val} (h : VR K ⟨F, H, fun a => ioAddr vs as = some a, ioAddr vs as⟩ F' H' ρ σ v x) : VRc K H F' H' (ioAddr vs as) v x := by
  cases x with
  | pv d => exact h
  | fr xs =>
    obtain ⟨p, us, e, h1, h2, h3, h4, _, h6, _⟩ := h
    exact ⟨p, us, e, h1, h2, h3, h4, h6⟩
end
/-- a def of the program and its form in the pure language -/
structure DefOk (K : PySem.W.Frag) (mg : Str → Option Value) (M : Nm) (PL : List Fn) (PN : Nat → List Str) (j : Nat) (x : Str) where
  F : Fn
  hF : PL[j]? = some F
  N : List Str
  ps : List Str
  hps : ps = PN j
  qual : Str
  params : Arguments
  body : List Stmt
  scope : Scope
  f : Addr
  fd : FuncData
  fun_ : FunD K x qual params body scope [] [] f fd
  mg_ : mg x = some (.ref f)
  binds : Binds K fd ps []
  bindA : ∀ (s : Shared) (us : List Value), us.length = ps.length → BindsTo s fd ⟨us, []⟩ (ps.zip us)
  sc : FnScope N ps scope
  nl : N.length = F.nl
  ar : ps.length = F.ar
  chk : chkSs M N scope body F.body = true
section
variable {P : Program} {w : World} {K : PySem.W.Frag} {mg : Str → Option Value} {base : Heap} {M : Nm} {PL : List Fn} {gl : Nat → Option D} {xa : Nat → Addr}
theorem spOf_len {call : Nat → List Slot → FR} {j : Nat} {vs : List V} {H : Hp} {Q : VK} {E : XK} (h : spOf K xa call j vs H Q E) : ∃ as, vs.length = as.length ∧ call j as ≠ .bad := by
  obtain ⟨F, as, _, ar, q⟩ := h
  exact ⟨as, argR_len ar, fun z => by rw [z] at q; exact q⟩
/-- THE WALK: every def of the program does what its pure form tells -/
theorem levels {PN : Nat → List Str} (dk : (j : Nat) → (x : Str) → M.fn[j]? = some x → DefOk K mg M PL PN j x)
    (hgl : ∀ (j : Nat) (x : Str) (d : D), M.gl[j]? = some x → gl j = some d → ∃ u v, mg x = some u ∧ RelV v u ∧ ∀ F, Rep K F v d)
    (hblt : ∀ x ∈ bltNms, mg x = none)
    (hex : ∀ (c : Nat) (x : Str), M.ex[c]? = some x → mg x = some (.ref (xa c)) ∧ PySem.W.keepIn K (.ref (xa c)) = true ∧ PySem.W.excIn K (xa c) He.veBase "ValueError.__new__" = true ∧ PySem.W.subIn K (.ref (xa c)) (.type "BaseException") = some true ∧ PySem.W.typeIn K (.ref (xa c)) = some (.type "type")) :
    ∀ (n j : Nat) (x : Str) (hx : M.fn[j]? = some x), FnOk P w K mg base (L2.CX P w) n (dk j x hx).f (dk j x hx).fd (dk j x hx).ps (spOf K xa (run PL gl n) j)
  | 0, j, x, hx => ⟨fun vs H Q E h => by obtain ⟨as, _, h⟩ := spOf_len h; exact absurd rfl h, fun A outer s H args us vs Q E _ _ _ _ h => by obtain ⟨as, _, h⟩ := spOf_len h; exact absurd rfl h⟩
  | n + 1, j, x, hx => by
    have ih := levels dk hgl hblt hex n
    generalize dk j x hx = D
    obtain ⟨F, hF, DN, Dps, eps, Dqual, Dparams, Dbody, Dscope, Df, Dfd, Dfun, Dmg, Dbinds, DbA, Dsc, Dnl, Dar, Dchk⟩ := D
    dsimp only
    have good : ∀ as, run PL gl (n + 1) j as ≠ .bad → as.length = F.ar ∧ argOk as = true ∧ run PL gl (n + 1) j as = finR as (evSs ⟨run PL gl n, gl⟩ F.body (as.map some ++ List.replicate (F.nl - F.ar) none)) := fun as h => by
      unfold run at h ⊢
      rw [hF] at h ⊢
      dsimp only at h ⊢
      split at h
      · rename_i hc
        exact ⟨hc.1, hc.2, if_pos hc⟩
      · exact absurd rfl h
    refine Dfun.ok Dsc (fun vs H Q E h => ?_) fun cdv A outer s H vs Q E hr hsp => ?_
    · obtain ⟨as, hl, h⟩ := spOf_len h
      rw [hl, (good as h).1, Dar]
    · obtain ⟨F0, as, ex, ar, q⟩ := hsp
      have hg := good as (fun z => by rw [z] at q; exact q)
      obtain ⟨g1, g2, g3⟩ := hg
      rw [g3] at q
      refine ⟨tS K xa (fun cls d _ H => E cls d H) (evSs ⟨run PL gl n, gl⟩ F.body), ?_, ?_⟩
      · refine soundSs (C := ⟨run PL gl n, gl⟩) (M := M) (xa := xa) (k := n) F.body (X := cxOf (L2.CX P w) P w K mg base DN Dqual Dscope Df cdv A outer s H E) ?_ ?_ Dchk
        · exact { calm := rfl, nd := Dsc.nd, kind := Dsc.kind, room := hr, fns := fun j x hx => ⟨(dk j x hx).f, (dk j x hx).fd, (dk j x hx).ps, (dk j x hx).mg_, (dk j x hx).fun_.kp, (dk j x hx).binds, ih j x hx⟩, gls := fun j x d h1 h2 => hgl j x d h1 h2, blt := hblt, exs := hex, fnall := fun _ => rfl, pass := passes_of rfl }
        · exact takes_of rfl rfl rfl rfl
      · refine ⟨_, F0, _, ?_, rel_start ex ar g2 (by rw [g1, Dnl]), ?_⟩
        · exact fun a h => h
        · generalize hR : evSs ⟨run PL gl n, gl⟩ F.body (as.map some ++ List.replicate (F.nl - F.ar) none) = r at q
          cases r with
          | bad => exact q.elim
          | brk ρ => exact q.elim
          | ct ρ => exact q.elim
          | nx ρ =>
            intro F' H' σ' ex' rel
            unfold finR at q
            cases ho : outOf as ρ with
            | none => simp only [ho] at q
            | some o =>
              simp only [ho] at q
              exact q F' H' .non ex' rel.sub (frame_of rel) (out_of rel ho) .non
          | ret x ρ =>
            intro F' H' σ' v ex' rel hv
            unfold finR at q
            cases ho : outOf as ρ with
            | none => simp only [ho] at q
            | some o =>
              simp only [ho] at q
              exact q F' H' v ex' rel.sub (frame_of rel) (out_of rel ho) (vrc_of hv)
          | exc c x ρ =>
            unfold finR at q
            cases ho : outOf as ρ with
            | none => simp only [ho] at q
            | some o =>
              simp only [ho] at q
              cases x with
              | some d => exact q.elim
              | none =>
                intro F' H' σ' ex' rel
                exact q F' H' ex' rel.sub (frame_of rel) (out_of rel ho)
end
end Pv

namespace Pv
open PySem L2 PyProof.Rows
/-! ### a law's end: what the head tells, read for the defs and the constants -/
def vOf : D → Value → V
  | .none, _ => .non
  | .bool b, _ => .bl b
  | .int i, _ => .int i
  | .str s, _ => .str s
  | _, .ref a => .ref a
  | _, _ => .non
mutual
def repB (K : PySem.W.Frag) (u : Value) : D → Bool
  | .none => (match u with
    | .none => true
    | _ => false)
  | .bool b => (match u with
    | .bool c => b == c
    | _ => false)
  | .int i => (match u with
    | .int j _ => decide (j = i)
    | _ => false)
  | .str s => (match u with
    | .str t _ => decide (t = s)
    | _ => false)
  | .tuple ds => (match u with
    | .ref a => (match K.lookup a with
      | some ⟨.type c, _, .seq its _, _⟩ => (decide (c = "tuple") && decide (its.size ≤ sizeLine)) && repsB K its.toList ds
      | _ => false)
    | _ => false)
  | .list _ => false
  | .dict _ => false
def repsB (K : PySem.W.Frag) (us : List Value) : List D → Bool
  | [] => (match us with
    | [] => true
    | _ => false)
  | d :: ds => (match us with
    | u :: r => repB K u d && repsB K r ds
    | [] => false)
end
section
variable {K : PySem.W.Frag}
mutual
theorem repB_ok : ∀ {d : D} {u : Value}, repB K u d = true → ∃ v, RelV v u ∧ ∀ F, Rep K F v d
  | .none, u, h => by
    unfold repB at h
    split at h
    · exact ⟨.non, rfl, fun F => .non⟩
    · cases h
  | .bool b, u, h => by
    unfold repB at h
    split at h
    · rename_i c
      have e : b = c := by simpa using h
      subst e
      exact ⟨.bl b, rfl, fun F => .bl b⟩
    · cases h
  | .int i, u, h => by
    unfold repB at h
    split at h
    · rename_i j t
      have e : j = i := of_decide_eq_true h
      subst e
      exact ⟨.int j, ⟨t, rfl⟩, fun F => .int j⟩
    · cases h
  | .str z, u, h => by
    unfold repB at h
    split at h
    · rename_i j t
      have e : j = z := of_decide_eq_true h
      subst e
      exact ⟨.str j, ⟨t, rfl⟩, fun F => .str j⟩
    · cases h
  | .tuple ds, u, h => by
    unfold repB at h
    split at h
    · rename_i a
      split at h
      · rename_i c od its n sl q
        obtain ⟨h1, h2⟩ := ba h
        obtain ⟨h3, h4⟩ := ba h1
        obtain ⟨vs, rv, rp⟩ := repsB_ok h2
        exact ⟨.ref a, rfl, fun F => .tup (.inr ⟨_, its, n, q, congrArg Value.type (of_decide_eq_true h3), rfl, of_decide_eq_true h4, rv⟩) (rp F)⟩
      · cases h
    · cases h
  | .list _, u, h => by cases h
  | .dict _, u, h => by cases h
theorem repsB_ok : ∀ {ds : List D} {us : List Value}, repsB K us ds = true → ∃ vs, Vals vs us ∧ ∀ F, Reps K F vs ds
  | [], us, h => by
    unfold repsB at h
    split at h
    · exact ⟨[], .nil, fun F => .nil⟩
    · cases h
  | d :: ds, us, h => by
    unfold repsB at h
    split at h
    · obtain ⟨h1, h2⟩ := ba h
      obtain ⟨v, r1, r2⟩ := repB_ok h1
      obtain ⟨vs, s1, s2⟩ := repsB_ok h2
      exact ⟨v :: vs, .cons r1 s1, fun F => .cons (r2 F) (s2 F)⟩
    · cases h
end
end
/-- a module's constant -/
def glB (p : Str × D) (K : PySem.W.Frag) : Bool := match PySem.W.nsIn K mainGlobals p.1 with
  | some (some u) => repB K u p.2
  | _ => false
theorem glB_ok {p : Str × D} {K : PySem.W.Frag} {h : Heap} {mg : Str → Option Value} (X : K.In h) (G : h.Ns mainGlobals mg) (c : glB p K = true) : ∃ u v, mg p.1 = some u ∧ RelV v u ∧ ∀ F, Rep K F v p.2 := by
  unfold glB at c
  split at c
  · rename_i u e
    obtain ⟨v, r, q⟩ := repB_ok c
    exact ⟨u, v, PySem.W.mg_of X G e, r, q⟩
  · cases c
/-- a def's datum: its name, its statement, its block's names, its parameters, its form -/
structure Dt where
  x : Str
  st : Stmt
  N : List Str
  ps : List Str
  f : Fn
def Dt.d (t : Dt) : He.DefD := ⟨(t.x, none), t.x, t.x, defArgs t.st, defBody t.st, defScope t.st, [], []⟩
def scB (N ps : List Str) (sc : Scope) : Bool := decide (sc.kind = .function) && (decide (sc.isCoroutine = false) && (decide (sc.isGenerator = false) && (decide N.Nodup && (decide (N.take ps.length = ps) && ((ps.all fun x => decide (sc.names.lookup x = some .local) || decide (sc.names.lookup x = some .cell)) && (sc.names.all fun y => decide (y.2 ≠ .free)))))))
theorem scB_ok {N ps : List Str} {sc : Scope} (h : scB N ps sc = true) : FnScope N ps sc := by
  obtain ⟨h1, h⟩ := ba h
  obtain ⟨h2, h⟩ := ba h
  obtain ⟨h3, h⟩ := ba h
  obtain ⟨h4, h⟩ := ba h
  obtain ⟨h5, h⟩ := ba h
  obtain ⟨h6, h7⟩ := ba h
  refine ⟨of_decide_eq_true h1, of_decide_eq_true h2, of_decide_eq_true h3, of_decide_eq_true h4, of_decide_eq_true h5, fun x hx => ?_, fun y hy => of_decide_eq_true (List.all_eq_true.mp h7 y hy)⟩
  rcases Bool.or_eq_true_iff.mp (List.all_eq_true.mp h6 x hx) with h | h
  · exact .inl (of_decide_eq_true h)
  · exact .inr (of_decide_eq_true h)
def Dt.ok (M : Nm) (t : Dt) : Bool := scB t.N t.ps (defScope t.st) && ((decide (t.N.length = t.f.nl) && decide (t.ps.length = t.f.ar)) && chkSs M t.N (defScope t.st) (defBody t.st) t.f.body)
def Dt.Bi (t : Dt) : Prop := ∀ (kV doc pm : Value) (an : Option Addr) (cdv ct : Value) (us : List Value), us.length = t.ps.length → bindArgs (PySem.W.fnOf t.x t.x (defArgs t.st) (defBody t.st) (defScope t.st) .none kV doc pm an cdv ct) ⟨us, []⟩ = pure (t.ps.zip us)
def AllBi : List Dt → Prop
  | [] => True
  | t :: r => t.Bi ∧ AllBi r
theorem AllBi.get : ∀ {l : List Dt} {t : Dt}, AllBi l → t ∈ l → t.Bi
  | _ :: _, t, h, m => by
    rcases List.mem_cons.mp m with e | m
    · subst e; exact h.1
    · exact AllBi.get h.2 m
section
variable (L : List Dt) (gls : List (Str × D)) (exs : List Str)
def nmOf : Nm := ⟨L.map (·.x), gls.map (·.1), exs⟩
def faOf : List He.Fa := L.map (fun t => .glo t.x) ++ (exs.map .glo ++ (exs.map .exc ++ bltNms.map .free))
def fnOf : List He.DefD := L.map Dt.d
def exOf (K : PySem.W.Frag) : Bool := gls.all fun p => glB p K
def glOf (j : Nat) : Option D := (gls[j]?).map (·.2)
def plOf : List Fn := L.map (·.f)
def hkOf (n : Nat) : PySem.W.Hook := He.hookX n (faOf L exs) (fnOf L) [] [] (exOf gls)
def obOf (n : Nat) (s : PySem.W.SharedT) : He.AlX := He.obsX n (faOf L exs) (fnOf L) [] [] (exOf gls) (HandSHeadRun.getT s)
theorem ob_eq (n : Nat) (s : PySem.W.SharedT) : obOf L gls exs n s = (hkOf L gls exs n).obs s.abs := He.obsX_eq (HandSHeadRun.getT_eq s)
end
section
variable {L : List Dt} {gls : List (Str × D)} {exs : List Str} {P : Program} {w : World} {K : PySem.W.Frag} {h : Heap} {mg : Str → Option Value}
theorem fa_glo {t : Dt} (m : t ∈ L) : He.Fa.glo t.x ∈ faOf L exs := List.mem_append_left _ (List.mem_map_of_mem m)
theorem fa_ex {x : Str} (m : x ∈ exs) : He.Fa.glo x ∈ faOf L exs ∧ He.Fa.exc x ∈ faOf L exs := ⟨List.mem_append_right _ (List.mem_append_left _ (List.mem_map_of_mem m)), List.mem_append_right _ (List.mem_append_right _ (List.mem_append_left _ (List.mem_map_of_mem m)))⟩
theorem fa_free {x : Str} (m : x ∈ bltNms) : He.Fa.free x ∈ faOf L exs := List.mem_append_right _ (List.mem_append_right _ (List.mem_append_right _ (List.mem_map_of_mem m)))
def pnOf (L : List Dt) (j : Nat) : List Str := ((L[j]?).map (·.ps)).getD []
theorem the_def (X : K.In h) (G : h.Ns mainGlobals mg) (c : He.SaysX (faOf L exs) (fnOf L) [] [] (exOf gls) w h K) (bi : AllBi L) (ok : L.all (Dt.ok (nmOf L gls exs)) = true) {j : Nat} {x : Str} (hx : (nmOf L gls exs).fn[j]? = some x) :
    Nonempty (DefOk K mg (nmOf L gls exs) (plOf L) (pnOf L) j x) := by
  have hx : (L.map (·.x))[j]? = some x := hx
  rw [List.getElem?_map] at hx
  cases e : L[j]? with
  | none => rw [e] at hx; cases hx
  | some t =>
    rw [e] at hx
    cases hx
    have m : t ∈ L := List.mem_of_getElem? e
    have ht := List.all_eq_true.mp ok t m
    obtain ⟨h1, h⟩ := ba ht
    obtain ⟨h2, h3⟩ := ba h
    obtain ⟨h4, h5⟩ := ba h2
    obtain ⟨fd, F⟩ := c.t.d.defs (d := t.d) (List.mem_map_of_mem m)
    have F' : FunD K t.x t.x (defArgs t.st) (defBody t.st) (defScope t.st) [] [] (He.fAd K (t.x, none)) fd := F
    have b := bi.get m
    refine ⟨⟨t.f, by unfold plOf; rw [List.getElem?_map, e]; rfl, t.N, t.ps, by unfold pnOf; rw [e]; rfl, t.x, _, _, _, _, fd, F', ?_, F'.bindsN b, F'.bindsA b, scB_ok h1, of_decide_eq_true h4, of_decide_eq_true h5, h3⟩⟩
    exact He.glo_ok X G (c.t.d.facts (fa_glo m))
/-- a law's walk: from what the pure run tells -/
theorem law_end {n k j : Nat} {fa : Addr} {sn : Str} {tl : Dt} (hj : L[j]? = some tl) (hps : tl.ps = [sn]) (X : K.In h) (G : h.Ns mainGlobals mg) (c : He.SaysX (faOf L exs) (fnOf L) [] [] (exOf gls) w h K) (bi : AllBi L) (ok : L.all (Dt.ok (nmOf L gls exs)) = true)
    (hfa : mg tl.x = some (.ref fa))
    (hrun : ∀ ns : List Int, ns.length ≤ n → run (plOf L) (glOf gls) k j [.raw (ns.map PyData.int)] = .ret (.pv (.bool true)) none) :
    ∃ (fd : FuncData) (sp : Sp), (∀ (s : Shared) (u : Value), BindsTo s fd ⟨[u], []⟩ [(sn, u)]) ∧
      (∀ (H : Hp) (a : Addr) (ns : List Int), ns.length ≤ n → Only H → SqL K H a (ns.map V.int) → sp [.ref a] H (fun v _ => v = .bl true) fun _ _ _ => False) ∧
      ∀ base : Heap, FnOk P w K mg base (L2.CX P w) k fa fd [sn] sp := by
  have hx : (nmOf L gls exs).fn[j]? = some tl.x := by
    show (L.map (·.x))[j]? = some tl.x
    rw [List.getElem?_map, hj]
    rfl
  let dk : (j : Nat) → (x : Str) → (nmOf L gls exs).fn[j]? = some x → DefOk K mg (nmOf L gls exs) (plOf L) (pnOf L) j x := fun j x hx => Classical.choice (the_def X G c bi ok hx)
  have lv := fun base => levels (P := P) (w := w) (K := K) (mg := mg) (base := base) (M := nmOf L gls exs) (PL := plOf L) (gl := glOf gls) (xa := fun i => He.ga K (exs.getD i Str.empty)) dk
    (fun i x d h1 h2 => by
      have h1 : (gls.map (·.1))[i]? = some x := h1
      have h2 : (gls[i]?).map (·.2) = some d := h2
      rw [List.getElem?_map] at h1
      cases e : gls[i]? with
      | none => rw [e] at h1; cases h1
      | some p =>
        rw [e] at h1 h2
        cases h1
        cases h2
        exact glB_ok X G (List.all_eq_true.mp c.more p (List.mem_of_getElem? e)))
    (fun x hx => He.free_ok X G (c.t.d.facts (fa_free hx)))
    (fun i x h1 => by
      have h1 : exs[i]? = some x := h1
      have m : x ∈ exs := List.mem_of_getElem? h1
      have e : exs.getD i Str.empty = x := by rw [List.getD_eq_getElem?_getD, h1]; rfl
      obtain ⟨q1, q2, q3, q4⟩ := He.exc_ok (c.t.d.facts (fa_ex (L := L) m).2)
      show mg x = some (.ref (He.ga K (exs.getD i Str.empty))) ∧ _
      rw [e]
      exact ⟨He.glo_ok X G (c.t.d.facts (fa_ex (L := L) m).1), q2, q1, q3, q4⟩)
    k j tl.x hx
  have e1 : (dk j tl.x hx).ps = [sn] := by rw [(dk j tl.x hx).hps]; unfold pnOf; rw [hj]; exact hps
  have e2 : (dk j tl.x hx).f = fa := by
    have e := (dk j tl.x hx).mg_.symm.trans hfa
    cases e
    rfl
  refine ⟨(dk j tl.x hx).fd, spOf K (fun i => He.ga K (exs.getD i Str.empty)) (run (plOf L) (glOf gls) k) j, fun s u => ?_, fun H a ns hn _ hS => ?_, fun base => ?_⟩
  rotate_left 2
  · have := lv base
    rw [e1, e2] at this
    exact this
  · have b := (dk j tl.x hx).bindA s [u] (by rw [e1]; rfl)
    rw [e1] at b
    exact b
  · have rp : ∀ ns : List Int, Reps K H (ns.map V.int) (ns.map PyData.int) := fun ns => by
      induction ns with
      | nil => exact .nil
      | cons i r ih => exact .cons (.int i) ih
    refine ⟨H, [.raw (ns.map PyData.int)], Ex.refl H, ⟨⟨a, _, rfl, hS, rp ns⟩, trivial⟩, ?_⟩
    rw [hrun ns hn]
    exact fun F' H' v _ _ _ _ hv => Rep.bool_inv hv
/-- the whole walk of a law -/
theorem law_walk {l : PySem.W.OpenLaw} {n k j m : Nat} {q : Program} {loose : List Str} {XP : (Str → Option Value) → Heap → Prop} {d : DefRec} {tl : Dt} {sn : Str} {L : List Dt} {gls : List (Str × D)} {exs : List Str}
    (hn : l.most = some n) (hz : n ≤ sizeLine) (hdf : d.params.defaults = []) (hr : Room k callerA) (hj : L[j]? = some tl) (hps : tl.ps = [sn]) (bi : AllBi L) (ok : L.all (Dt.ok (nmOf L gls exs)) = true) (hnm : d.name = tl.x)
    (hrun : ∀ ns : List Int, ns.length ≤ n → run (plOf L) (glOf gls) k j [.raw (ns.map PyData.int)] = .ret (.pv (.bool true)) none) :
    PySem.W.WalkO q loose XP (hkOf L gls exs m).says l.row.toRowW d [] (fun f vs => PySem.call f vs) := by
  refine Att.attach_call hn hdf ?_
  intro w t0 t1 mg mb fa o pm cd doc a us ns G Y e1 e2 e3 hmg e4 e5 e6 e7
  obtain ⟨K, X, c⟩ := Y
  rw [hnm] at hmg
  obtain ⟨fd, sp, h1, h2, h3⟩ := law_end (P := l.prog) (w := w) (n := n) (k := k) (sn := sn) hj hps X G.T.g c bi ok hmg hrun
  refine law_call X G.T.g G.T.b G.T.builtins G.T.nolimit e7 e4 e5 (Nat.le_trans e6 hz) hr (fun base _ _ => h3 base) h1 (fun H hO hS => h2 H a ns e6 hO hS) ?_
  rintro H e s' ⟨_, _, _, _, _, _, _, _, _, _, _, _, z⟩
  exact z
end
end Pv

namespace Pv
open PySem
/-! ### reckoning with the pure run -/
section
variable {C : Cfg} {ρ : Env}
@[simp] theorem e_nop : evE C .nop ρ = .ok (.pv .none) ρ := rfl
@[simp] theorem e_v {i : Nat} : evE C (.v i) ρ = readV ρ i := rfl
@[simp] theorem e_k {d : D} : evE C (.k d) ρ = .ok (.pv d) ρ := rfl
@[simp] theorem e_g {j : Nat} : evE C (.g j) ρ = R.ofO ((C.gl j).map .pv) ρ := rfl
@[simp] theorem e_bin {o : BOp} {a b : E} : evE C (.bin o a b) ρ = bindD (evE C a ρ) fun x ρ => bindD (evE C b ρ) fun y ρ => R.ofO ((binD o x y).map frV) ρ := rfl
@[simp] theorem e_neg {a : E} : evE C (.neg a) ρ = bindD (evE C a ρ) fun x ρ => R.ofO ((negD x).map .pv) ρ := rfl
@[simp] theorem e_not {a : E} : evE C (.not a) ρ = bindD (evE C a ρ) fun x ρ => R.ofO ((notD x).map .pv) ρ := rfl
@[simp] theorem e_and {a b : E} : evE C (.and a b) ρ = bindD (evE C a ρ) fun x ρ => andD x (evE C b ρ) ρ := rfl
@[simp] theorem e_or {a b : E} : evE C (.or a b) ρ = bindD (evE C a ρ) fun x ρ => orD x (evE C b ρ) ρ := rfl
@[simp] theorem e_cmp {o : COp} {a b : E} : evE C (.cmp o a b) ρ = bindD (evE C a ρ) fun x ρ => (pk (isV b) (fun ρ => evE C b ρ) ρ).bind fun y ρ => R.ofO ((cmpD o x y).map fun b => .pv (.bool b)) ρ := rfl
@[simp] theorem e_chain {o p : COp} {a b c : E} : evE C (.chain o p a b c) ρ = bindD (evE C a ρ) fun x ρ => bindD (evE C b ρ) fun y ρ => chainD (cmpD o x y) (bindD (evE C c ρ) fun z ρ => R.ofO ((cmpD p y z).map fun b => .pv (.bool b)) ρ) ρ := rfl
@[simp] theorem e_ife {c : T} {a b : E} : evE C (.ife c a b) ρ = (evT C c ρ).bind fun t ρ => iteR t (evE C a ρ) (evE C b ρ) := rfl
@[simp] theorem e_tup {es : Es} : evE C (.tup es) ρ = (evA C es ρ).bind fun ds ρ => tupV ds ρ := rfl
@[simp] theorem e_lst {es : Es} : evE C (.lst es) ρ = (evA C es ρ).bind fun ds ρ => lstV ds ρ := rfl
@[simp] theorem e_ix {a i : E} : evE C (.ix a i) ρ = bindD (evE C a ρ) fun x ρ => bindD (evE C i ρ) fun y ρ => R.ofO ((ixD x y).map .pv) ρ := rfl
@[simp] theorem e_ixv {j : Nat} {i : E} : evE C (.ixv j i) ρ = (lookV ρ j).bind fun _ ρ => bindD (evE C i ρ) fun y ρ => (lookV ρ j).bind fun x ρ => R.ofO ((ixD x y).map .pv) ρ := rfl
@[simp] theorem e_sl {a lo hi : E} : evE C (.sl a lo hi) ρ = bindD (evE C a ρ) fun x ρ => (partR (isNop lo) (evE C lo ρ)).bind fun l ρ => (partR (isNop hi) (evE C hi ρ)).bind fun h ρ => R.ofO ((slD x l h).map frV) ρ := rfl
@[simp] theorem e_slv {j : Nat} {lo hi : E} : evE C (.slv j lo hi) ρ = (lookV ρ j).bind fun _ ρ => (partR (isNop lo) (evE C lo ρ)).bind fun l ρ => (partR (isNop hi) (evE C hi ρ)).bind fun h ρ => (lookV ρ j).bind fun x ρ => R.ofO ((slD x l h).map frV) ρ := rfl
@[simp] theorem e_rev {a : E} : evE C (.rev a) ρ = (pk (isV a) (fun ρ => evE C a ρ) ρ).bind fun x ρ => R.ofO ((revD x).map frV) ρ := rfl
@[simp] theorem e_call {j : Nat} {es : Es} : evE C (.call j es) ρ = (evA C es ρ).bind fun ds ρ => backR none ρ (C.call j (ds.map .v)) := rfl
theorem e_cio {j i : Nat} {es : Es} : evE C (.cio j i es) ρ = cioGo (C.call j) i (fun ρ => evA C es ρ) ρ := rfl
@[simp] theorem e_craw {j i : Nat} : evE C (.craw j i) ρ = crawGo (C.call j) i ρ := rfl
@[simp] theorem e_scr {i : Nat} {n : Int} : evE C (.scr i n) ρ = scrV ρ i n := rfl
@[simp] theorem e_b1 {b : Blt} {a : E} : evE C (.b1 b a) ρ = (pk (isV a) (fun ρ => evE C a ρ) ρ).bind fun x ρ => R.ofO ((bltD b [x]).map (bltV b)) ρ := rfl
@[simp] theorem e_b2 {b : Blt} {a c : E} : evE C (.b2 b a c) ρ = bindD (evE C a ρ) fun x ρ => bindD (evE C c ρ) fun y ρ => R.ofO ((bltD b [x, y]).map .pv) ρ := rfl
@[simp] theorem e_isi {a : E} {ts : List Ty} : evE C (.isi a ts) ρ = (pk (isV a) (fun ρ => evE C a ρ) ρ).bind fun x ρ => .ok (.pv (.bool (ts.any fun t => t.is x))) ρ := rfl
theorem e_lc {elt : E} {tg : Tg} {it : It} {c : T} : evE C (.lc elt tg it c) ρ = (evI C it ρ).bind fun xs ρ => lcEnd (lcGo (lcTurn tg fun ρ => (evT C c ρ).bind fun t ρ => iteR t (bindD (evE C elt ρ) fun y ρ => .ok (some y) ρ) (.ok none ρ)) xs ρ) := rfl
@[simp] theorem t_e {a : E} : evT C (.e a) ρ = (pk (isV a) (fun ρ => evE C a ρ) ρ).bind fun x ρ => R.ofO (truB x) ρ := rfl
@[simp] theorem t_and {a b : T} : evT C (.and a b) ρ = (evT C a ρ).bind fun x ρ => iteR x (evT C b ρ) (.ok false ρ) := rfl
@[simp] theorem t_or {a b : T} : evT C (.or a b) ρ = (evT C a ρ).bind fun x ρ => iteR x (.ok true ρ) (evT C b ρ) := rfl
@[simp] theorem t_not {a : T} : evT C (.not a) ρ = (evT C a ρ).bind fun x ρ => .ok (!x) ρ := rfl
@[simp] theorem t_yes : evT C .yes ρ = .ok true ρ := rfl
@[simp] theorem a_nil : evA C .nil ρ = .ok [] ρ := rfl
@[simp] theorem a_cons {e : E} {es : Es} : evA C (.cons e es) ρ = bindD (evE C e ρ) fun x ρ => (evA C es ρ).bind fun xs ρ => .ok (x :: xs) ρ := rfl
theorem i_rng {es : Es} : evI C (.rng es) ρ = (evA C es ρ).bind fun ds ρ => R.ofO ((rngOf ds).map fun p => rangeD p.1 p.2.1 p.2.2) ρ := rfl
theorem i_rngA {es : Es} {ds : List D} {ρ' : Env} {lo c : Int} {m : Nat} (h : evA C es ρ = .ok ds ρ') (h2 : rngOf ds = some (lo, m, c)) : evI C (.rng es) ρ = .ok (rangeD lo m c) ρ' := by
  rw [i_rng, h, R.bind_ok, h2]
  rfl
@[simp] theorem i_of {e : E} : evI C (.of e) ρ = bindD (evE C e ρ) fun x ρ => R.ofO (walkD x) ρ := rfl
@[simp] theorem i_zip {a b : E} : evI C (.zip a b) ρ = bindD (evE C a ρ) fun x ρ => bindD (evE C b ρ) fun y ρ => R.ofO (zipO x y) ρ := rfl
@[simp] theorem i_enum {a : E} : evI C (.enum a) ρ = bindD (evE C a ρ) fun x ρ => R.ofO (enumO x) ρ := rfl
@[simp] theorem s_asg {t : Tg} {e : E} : evS C (.asg t e) ρ = (evE C e ρ).toS fun x ρ => asgV ρ t x := rfl
@[simp] theorem s_par {is : List Nat} {es : Es} : evS C (.par is es) ρ = (evA C es ρ).toS fun ds ρ => toNx (putAll ρ is ds) := rfl
@[simp] theorem s_set {i : Nat} {x e : E} : evS C (.set i x e) ρ = (bindD (evE C e ρ) fun d ρ => (lookV ρ i).bind fun _ ρ => bindD (evE C x ρ) fun j ρ => .ok (d, j) ρ).toS fun p ρ => putX ρ i p.2 p.1 := rfl
@[simp] theorem s_aug {i : Nat} {o : BOp} {e : E} : evS C (.aug i o e) ρ = ((lookV ρ i).bind fun x ρ => bindD (evE C e ρ) fun y ρ => R.ofO (augD o x y) ρ).toS fun z ρ => toNx (putD ρ i z) := rfl
@[simp] theorem s_app {i : Nat} {e : E} : evS C (.app i e) ρ = (R.ofO (ioArg ρ i) ρ).toS fun _ ρ => (dd (evE C e ρ)).toS fun y ρ => addX ρ i y := rfl
@[simp] theorem s_expr {e : E} : evS C (.expr e) ρ = (evE C e ρ).toS fun _ ρ => .nx ρ := rfl
@[simp] theorem s_ite {c : T} {a b : Ss} : evS C (.ite c a b) ρ = (evT C c ρ).toS fun t ρ => iteS t (evSs C a ρ) (evSs C b ρ) := rfl
theorem s_whl {c : T} {b : Ss} : evS C (.whl c b) ρ = Pv.whl (fun ρ => evT C c ρ) (fun ρ => evSs C b ρ) ρ := rfl
theorem s_for {t : Tg} {it : It} {b : Ss} : evS C (.for_ t it b) ρ = (evI C it ρ).toS fun xs ρ => forGo (fun x ρ => (putT ρ t x).toS fun _ ρ => evSs C b ρ) xs ρ := rfl
@[simp] theorem s_ret {e : E} : evS C (.ret e) ρ = (evE C e ρ).toS fun x ρ => .ret x ρ := rfl
@[simp] theorem s_retv {i : Nat} : evS C (.retv i) ρ = retV ρ i := rfl
@[simp] theorem s_retN : evS C .retN ρ = .ret (.pv .none) ρ := rfl
@[simp] theorem s_raise {c : Nat} : evS C (.raise c) ρ = .exc c none ρ := rfl
@[simp] theorem s_pass : evS C .pass ρ = .nx ρ := rfl
@[simp] theorem s_brk : evS C .brk ρ = .brk ρ := rfl
@[simp] theorem s_ct : evS C .ct ρ = .ct ρ := rfl
@[simp] theorem ss_nil : evSs C .nil ρ = .nx ρ := rfl
@[simp] theorem ss_cons {s : S} {r : Ss} : evSs C (.cons s r) ρ = (evS C s ρ).bind fun ρ => evSs C r ρ := rfl
end
@[simp] theorem readV_eq (ρ : Env) (i : Nat) : readV ρ i = (match ρ[i]? with
  | some (some (.raw _)) => .bad
  | some (some s) => .ok (.pv s.dat) (ρ.set i (some s.frozen))
  | _ => .bad) := rfl
@[simp] theorem lookV_eq (ρ : Env) (i : Nat) : lookV ρ i = (match ρ[i]? with
  | some (some (.raw _)) => .bad
  | some (some s) => .ok s.dat ρ
  | _ => .bad) := rfl
@[simp] theorem pk_n (ev : Env → R Val) (ρ : Env) : pk none ev ρ = dd (ev ρ) := rfl
@[simp] theorem pk_s (i : Nat) (ev : Env → R Val) (ρ : Env) : pk (some i) ev ρ = lookV ρ i := rfl
@[simp] theorem dd_ok (x : Val) (ρ : Env) : dd (.ok x ρ) = .ok x.dat ρ := rfl
@[simp] theorem dd_exc (c : Nat) (x : Option D) (ρ : Env) : dd (.exc c x ρ) = .exc c x ρ := rfl
@[simp] theorem dd_bad : dd .bad = .bad := rfl
@[simp] theorem andD_t (k : R Val) (ρ : Env) : andD (.bool true) k ρ = k := rfl
@[simp] theorem andD_f (k : R Val) (ρ : Env) : andD (.bool false) k ρ = .ok (.pv (.bool false)) ρ := rfl
@[simp] theorem orD_t (k : R Val) (ρ : Env) : orD (.bool true) k ρ = .ok (.pv (.bool true)) ρ := rfl
@[simp] theorem orD_f (k : R Val) (ρ : Env) : orD (.bool false) k ρ = k := rfl
@[simp] theorem chainD_t (k : R Val) (ρ : Env) : chainD (some true) k ρ = k := rfl
@[simp] theorem chainD_f (k : R Val) (ρ : Env) : chainD (some false) k ρ = .ok (.pv (.bool false)) ρ := rfl
@[simp] theorem frV_i (i : Int) : frV (.int i) = .pv (.int i) := rfl
@[simp] theorem frV_t (xs : List D) : frV (.tuple xs) = .pv (.tuple xs) := rfl
@[simp] theorem frV_l (xs : List D) : frV (.list xs) = .fr xs := rfl
@[simp] theorem frV_s (x : Str) : frV (.str x) = .pv (.str x) := rfl
@[simp] theorem sl_v (d : D) : (Slot.v d).dat = d := rfl
@[simp] theorem sl_own (d : List D) : (Slot.own d).dat = .list d := rfl
@[simp] theorem sl_io (d : List D) : (Slot.io d).dat = .list d := rfl
@[simp] theorem sl_fz (d : List D) : (Slot.fz d).dat = .list d := rfl
@[simp] theorem sf_v (d : D) : (Slot.v d).frozen = .v d := rfl
@[simp] theorem sf_own (d : List D) : (Slot.own d).frozen = .v (.list d) := rfl
@[simp] theorem sf_io (d : List D) : (Slot.io d).frozen = .fz d := rfl
@[simp] theorem sfr_v (d : D) : (Slot.v d).free = true := rfl
@[simp] theorem sfr_own (d : List D) : (Slot.own d).free = true := rfl
@[simp] theorem isV_v (i : Nat) : isV (.v i) = some i := rfl
@[simp] theorem isV_k (d : D) : isV (.k d) = none := rfl
@[simp] theorem isV_g (d : Nat) : isV (.g d) = none := rfl
@[simp] theorem isV_bin (o : BOp) (a b : E) : isV (.bin o a b) = none := rfl
@[simp] theorem isV_neg (a : E) : isV (.neg a) = none := rfl
@[simp] theorem isV_not (a : E) : isV (.not a) = none := rfl
@[simp] theorem isV_and (a b : E) : isV (.and a b) = none := rfl
@[simp] theorem isV_or (a b : E) : isV (.or a b) = none := rfl
@[simp] theorem isV_cmp (o : COp) (a b : E) : isV (.cmp o a b) = none := rfl
@[simp] theorem isV_chain (o p : COp) (a b c : E) : isV (.chain o p a b c) = none := rfl
@[simp] theorem isV_ife (c : T) (a b : E) : isV (.ife c a b) = none := rfl
@[simp] theorem isV_tup (es : Es) : isV (.tup es) = none := rfl
@[simp] theorem isV_lst (es : Es) : isV (.lst es) = none := rfl
@[simp] theorem isV_ix (a b : E) : isV (.ix a b) = none := rfl
@[simp] theorem isV_ixv (a : Nat) (b : E) : isV (.ixv a b) = none := rfl
@[simp] theorem isV_sl (a b c : E) : isV (.sl a b c) = none := rfl
@[simp] theorem isV_slv (a : Nat) (b c : E) : isV (.slv a b c) = none := rfl
@[simp] theorem isV_rev (a : E) : isV (.rev a) = none := rfl
@[simp] theorem isV_call (j : Nat) (es : Es) : isV (.call j es) = none := rfl
@[simp] theorem isV_cio (j i : Nat) (es : Es) : isV (.cio j i es) = none := rfl
@[simp] theorem isV_craw (j i : Nat) : isV (.craw j i) = none := rfl
@[simp] theorem isV_scr (j : Nat) (i : Int) : isV (.scr j i) = none := rfl
@[simp] theorem isV_b1 (b : Blt) (a : E) : isV (.b1 b a) = none := rfl
@[simp] theorem isV_b2 (b : Blt) (a c : E) : isV (.b2 b a c) = none := rfl
@[simp] theorem isV_isi (a : E) (ts : List Ty) : isV (.isi a ts) = none := rfl
@[simp] theorem isV_lc (a : E) (t : Tg) (i : It) (c : T) : isV (.lc a t i c) = none := rfl
@[simp] theorem b_add (i j : Int) : binD .add (.int i) (.int j) = some (.int (i + j)) := rfl
@[simp] theorem b_sub (i j : Int) : binD .sub (.int i) (.int j) = some (.int (i - j)) := rfl
theorem b_mul {i j : Int} (h1 : i.natAbs < BIG) (h2 : j.natAbs < BIG) : binD .mul (.int i) (.int j) = some (.int (i * j)) := if_pos ⟨h1, h2⟩
theorem b_mod {i j : Int} (h : 0 < j) : binD .mod (.int i) (.int j) = some (.int (i % j)) := if_pos h
theorem b_fdiv {i j : Int} (h : 0 < j) (h2 : j.natAbs < DIVB) : binD .fdiv (.int i) (.int j) = some (.int (i / j)) := if_pos ⟨h, h2⟩
theorem lt_BIG {n : Nat} (h : n < 2 ^ 250) : n < BIG := by
  rw [BIG_eq]
  exact Nat.lt_of_lt_of_le h (Nat.pow_le_pow_right (by decide) (by decide))
theorem lt_DIVB {n : Nat} (h : n < 2 ^ 250) : n < DIVB := by
  rw [DIVB_eq]
  exact Nat.lt_of_lt_of_le h (Nat.pow_le_pow_right (by decide) (by decide))
@[simp] theorem c_lt (i j : Int) : cmpD .lt (.int i) (.int j) = some (decide (i < j)) := rfl
@[simp] theorem c_le (i j : Int) : cmpD .le (.int i) (.int j) = some (decide (i ≤ j)) := rfl
@[simp] theorem c_gt (i j : Int) : cmpD .gt (.int i) (.int j) = some (decide (j < i)) := rfl
@[simp] theorem c_ge (i j : Int) : cmpD .ge (.int i) (.int j) = some (decide (j ≤ i)) := rfl
@[simp] theorem tr_b (b : Bool) : truB (.bool b) = some b := rfl
@[simp] theorem tr_i (i : Int) : truB (.int i) = some (i != 0) := rfl
@[simp] theorem putD_eq (ρ : Env) (i : Nat) (d : D) : putD ρ i d = putV ρ i (.pv d) := rfl
@[simp] theorem putV_pv (ρ : Env) (i : Nat) (d : D) : putV ρ i (.pv d) = if freeAt ρ i = true then .ok () (ρ.set i (some (.v d))) else .bad := rfl
@[simp] theorem putV_fr (ρ : Env) (i : Nat) (d : List D) : putV ρ i (.fr d) = if freeAt ρ i = true then .ok () (ρ.set i (some (.own d))) else .bad := rfl
def freeO : Option Slot → Bool
  | some s => s.free
  | none => true
@[simp] theorem freeO_n : freeO none = true := rfl
@[simp] theorem freeO_v (d : D) : freeO (some (.v d)) = true := rfl
@[simp] theorem freeO_own (d : List D) : freeO (some (.own d)) = true := rfl
@[simp] theorem freeO_z (z : Option D) : freeO (z.map Slot.v) = true := by cases z <;> rfl
@[simp] theorem freeAt_eq (ρ : Env) (i : Nat) : freeAt ρ i = (match ρ[i]? with
  | some o => freeO o
  | none => false) := by
  unfold freeAt freeO
  rcases ρ[i]? with _ | _ | s <;> rfl
@[simp] theorem asgV_n (ρ : Env) (i : Nat) (x : Val) : asgV ρ (.n i) x = toNx (putV ρ i x) := rfl
@[simp] theorem asgV_t (ρ : Env) (i : List Nat) (x : Val) : asgV ρ (.t i) x = toNx (putT ρ (.t i) x.dat) := rfl
@[simp] theorem toNx_ok (u : Unit) (ρ : Env) : toNx (.ok u ρ) = .nx ρ := rfl
@[simp] theorem putT_n (ρ : Env) (i : Nat) (d : D) : putT ρ (.n i) d = putD ρ i d := rfl
@[simp] theorem putT_t (ρ : Env) (is : List Nat) (ds : List D) : putT ρ (.t is) (.tuple ds) = if ds.length = is.length then putAll ρ is ds else .bad := rfl
@[simp] theorem putAll_nil (ρ : Env) : putAll ρ [] [] = .ok () ρ := rfl
@[simp] theorem putAll_cons (ρ : Env) (i : Nat) (is : List Nat) (d : D) (ds : List D) : putAll ρ (i :: is) (d :: ds) = (putD ρ i d).bind fun _ ρ => putAll ρ is ds := rfl
@[simp] theorem x_l (xs : List D) (i : Int) : ixD (.list xs) (.int i) = L2.atI xs i := rfl
@[simp] theorem x_t (xs : List D) (i : Int) : ixD (.tuple xs) (.int i) = L2.atI xs i := rfl
@[simp] theorem bl_lenl (xs : List D) : bltD .len [.list xs] = some (.int xs.length) := rfl
@[simp] theorem bl_lent (xs : List D) : bltD .len [.tuple xs] = some (.int xs.length) := rfl
@[simp] theorem bl_abs (i : Int) : bltD .abs [.int i] = some (.int (if i < 0 then -i else i)) := rfl
@[simp] theorem bl_int (i : Int) : bltD .int [.int i] = some (.int i) := rfl
@[simp] theorem bl_tl (xs : List D) : bltD .tuple [.list xs] = some (.tuple xs) := rfl
@[simp] theorem bl_tt (xs : List D) : bltD .tuple [.tuple xs] = some (.tuple xs) := rfl
@[simp] theorem bl_all (xs : List D) : bltD .all [.list xs] = (boolsOf xs).map fun bs => .bool (bs.all id) := rfl
@[simp] theorem bl_any (xs : List D) : bltD .any [.list xs] = (boolsOf xs).map fun bs => .bool (bs.any id) := rfl
@[simp] theorem bo_nil : boolsOf [] = some [] := rfl
@[simp] theorem bo_cons (b : Bool) (r : List D) : boolsOf (.bool b :: r) = (boolsOf r).map (b :: ·) := rfl
@[simp] theorem bv_len (d : D) : bltV .len d = .pv d := rfl
@[simp] theorem bv_abs (d : D) : bltV .abs d = .pv d := rfl
@[simp] theorem bv_int (d : D) : bltV .int d = .pv d := rfl
@[simp] theorem bv_tup (d : D) : bltV .tuple d = .pv d := rfl
@[simp] theorem bv_all (d : D) : bltV .all d = .pv d := rfl
@[simp] theorem bv_any (d : D) : bltV .any d = .pv d := rfl
@[simp] theorem n_i (i : Int) : negD (.int i) = some (.int (-i)) := rfl
@[simp] theorem n_b (b : Bool) : notD (.bool b) = some (.bool (!b)) := rfl
@[simp] theorem wk_l (xs : List D) : walkD (.list xs) = some xs := rfl
@[simp] theorem wk_t (xs : List D) : walkD (.tuple xs) = some xs := rfl
@[simp] theorem backR_n (ρ : Env) (x : Val) (o : Option Slot) : backR none ρ (.ret x o) = .ok x ρ := rfl
@[simp] theorem backR_nx (ρ : Env) (c : Nat) (x : Option D) (o : Option Slot) : backR none ρ (.exc c x o) = .exc c x ρ := rfl
@[simp] theorem tupV_eq (ds : List D) (ρ : Env) : tupV ds ρ = if ds.length ≤ LIM then .ok (.pv (.tuple ds)) ρ else .bad := rfl
@[simp] theorem lstV_eq (ds : List D) (ρ : Env) : lstV ds ρ = if ds.length ≤ LIM then .ok (.fr ds) ρ else .bad := rfl
@[simp] theorem lcEnd_ok (ys : List D) (ρ : Env) : lcEnd (.ok ys ρ) = lstV ys ρ := rfl
theorem run_succ {P : List Fn} {gl : Nat → Option D} {n j : Nat} {as : List Slot} {f : Fn} (h : P[j]? = some f) : run P gl (n + 1) j as = if as.length = f.ar ∧ argOk as = true then finR as (evSs ⟨run P gl n, gl⟩ f.body (as.map some ++ List.replicate (f.nl - f.ar) none)) else .bad := by
  conv => lhs; unfold run
  rw [h]
@[simp] theorem finR_nx (as : List Slot) (ρ : Env) : finR as (.nx ρ) = (match outOf as ρ with
  | some o => .ret (.pv .none) o
  | none => .bad) := rfl
@[simp] theorem finR_ret (as : List Slot) (x : Val) (ρ : Env) : finR as (.ret x ρ) = (match outOf as ρ with
  | some o => .ret x o
  | none => .bad) := rfl
@[simp] theorem finR_exc (as : List Slot) (c : Nat) (x : Option D) (ρ : Env) : finR as (.exc c x ρ) = (match outOf as ρ with
  | some o => .exc c x o
  | none => .bad) := rfl
@[simp] theorem outOf_v (d : D) (as : List Slot) (ρ : Env) : outOf (.v d :: as) ρ = some none := rfl
@[simp] theorem outOf_raw (d : List D) (as : List Slot) (ρ : Env) : outOf (.raw d :: as) ρ = some none := rfl
@[simp] theorem outOf_io (d : List D) (as : List Slot) (ρ : Env) : outOf (.io d :: as) ρ = (match ρ.getD 0 none with
  | some (.io xs) => some (some (.io xs))
  | some (.fz xs) => some (some (.fz xs))
  | _ => none) := rfl
@[simp] theorem ao_nil : argOk [] = true := rfl
@[simp] theorem ao_v (d : D) (r : List Slot) : argOk (.v d :: r) = r.all fun s => match s with
    | .v _ => true
    | _ => false := rfl
@[simp] theorem ao_io (d : List D) (r : List Slot) : argOk (.io d :: r) = r.all fun s => match s with
    | .v _ => true
    | _ => false := rfl
@[simp] theorem ao_raw (d : List D) : argOk [.raw d] = true := rfl
@[simp] theorem retV_eq (ρ : Env) (i : Nat) : retV ρ i = (match ρ[i]? with
  | some (some (.own xs)) => .ret (.fr xs) (ρ.set i none)
  | some (some (.raw _)) => .bad
  | some (some s) => .ret (.pv s.dat) (ρ.set i (some s.frozen))
  | _ => .bad) := rfl
@[simp] theorem putX_eq (ρ : Env) (i : Nat) (j : Int) (d : D) : putX ρ i (.int j) d = (match ρ[i]? with
  | some (some (.own xs)) => (match setAt? xs j d with
    | some ys => .nx (ρ.set i (some (.own ys)))
    | none => .bad)
  | some (some (.io xs)) => (match setAt? xs j d with
    | some ys => .nx (ρ.set i (some (.io ys)))
    | none => .bad)
  | _ => .bad) := by
  unfold putX
  rcases ρ[i]? with _ | _ | s
  · rfl
  · rfl
  · cases s <;> rfl
@[simp] theorem ioArg_eq (ρ : Env) (i : Nat) : ioArg ρ i = (match ρ[i]? with
  | some (some (.own xs)) => some xs
  | some (some (.io xs)) => some xs
  | _ => none) := rfl
theorem at_nat {xs : List D} {i : Int} (h0 : 0 ≤ i) (h : i < xs.length) : L2.atI xs i = xs[i.toNat]? := by
  unfold L2.atI L2.ixN
  grind
theorem set_nat {xs : List D} {i : Int} {d : D} (h0 : 0 ≤ i) (h : i < xs.length) : setAt? xs i d = some (xs.set i.toNat d) := by
  unfold setAt? L2.ixN
  grind
theorem shp_i (i : Int) : shp (.int i) = true := rfl
theorem shp_b (i : Bool) : shp (.bool i) = true := rfl
theorem shp_n : shp .none = true := rfl
theorem shp_t2 (a b : Int) : shp (.tuple [.int a, .int b]) = true := rfl
theorem shp_t4 (a b c d : Int) : shp (.tuple [.int a, .int b, .int c, .int d]) = true := rfl
theorem cmp_eq {a b : D} (h : shp a = true) (h2 : shp b = true) : cmpD .eq a b = some (PyData.eqv a b) := by simp [cmpD, h, h2]
theorem cmp_ne {a b : D} (h : shp a = true) (h2 : shp b = true) : cmpD .ne a b = some (!PyData.eqv a b) := by simp [cmpD, h, h2]
@[simp] theorem c_eqi (i j : Int) : cmpD .eq (.int i) (.int j) = some (decide (i = j)) := by
  have e : cmpD .eq (.int i) (.int j) = some (PyData.eqv (.int i) (.int j)) := cmp_eq rfl rfl
  rw [e]
  show some (i == j) = _
  by_cases h : i = j <;> simp [h]
@[simp] theorem c_nei (i j : Int) : cmpD .ne (.int i) (.int j) = some (!decide (i = j)) := by
  have e : cmpD .ne (.int i) (.int j) = some (!PyData.eqv (.int i) (.int j)) := cmp_ne rfl rfl
  rw [e]
  show some (!(i == j)) = _
  by_cases h : i = j <;> simp [h]
@[simp] theorem c_eqb (i j : Bool) : cmpD .eq (.bool i) (.bool j) = some (i == j) := cmp_eq rfl rfl
@[simp] theorem c_neb (i j : Bool) : cmpD .ne (.bool i) (.bool j) = some (!(i == j)) := cmp_ne rfl rfl
theorem eqv2 (a b c d : Int) : PyData.eqv (.tuple [.int a, .int b]) (.tuple [.int c, .int d]) = (a == c && (b == d && true)) := rfl
theorem eqv4 (a b c d a' b' c' d' : Int) : PyData.eqv (.tuple [.int a, .int b, .int c, .int d]) (.tuple [.int a', .int b', .int c', .int d']) = (a == a' && (b == b' && (c == c' && (d == d' && true)))) := rfl
@[simp] theorem c_eq2 (a b c d : Int) : cmpD .eq (.tuple [.int a, .int b]) (.tuple [.int c, .int d]) = some (decide (a = c) && decide (b = d)) := by
  have e : cmpD .eq (.tuple [.int a, .int b]) (.tuple [.int c, .int d]) = some (PyData.eqv (.tuple [.int a, .int b]) (.tuple [.int c, .int d])) := cmp_eq rfl rfl
  rw [e, eqv2]
  by_cases h1 : a = c <;> by_cases h2 : b = d <;> simp [h1, h2]
@[simp] theorem c_ne2 (a b c d : Int) : cmpD .ne (.tuple [.int a, .int b]) (.tuple [.int c, .int d]) = some (!(decide (a = c) && decide (b = d))) := by
  have e : cmpD .ne (.tuple [.int a, .int b]) (.tuple [.int c, .int d]) = some (!PyData.eqv (.tuple [.int a, .int b]) (.tuple [.int c, .int d])) := cmp_ne rfl rfl
  rw [e, eqv2]
  by_cases h1 : a = c <;> by_cases h2 : b = d <;> simp [h1, h2]
theorem c_ne4 (a b c d : Int) : cmpD .ne (.tuple [.int a, .int b, .int c, .int d]) (.tuple [.int a, .int b, .int c, .int d]) = some false := by
  have e : cmpD .ne (.tuple [.int a, .int b, .int c, .int d]) (.tuple [.int a, .int b, .int c, .int d]) = some (!PyData.eqv (.tuple [.int a, .int b, .int c, .int d]) (.tuple [.int a, .int b, .int c, .int d])) := cmp_ne rfl rfl
  rw [e, eqv4]
  simp
end Pv

namespace Pv
open PySem
/-! ### the drawing of the figures -/
def drawHead : S := (.ite (.and (.e (.cmp .eq (.ixv 0 (.k (.int 2))) (.k (.int 0)))) (.e (.cmp .lt (.ixv 0 (.k (.int 1))) (.b1 .len (.ixv 0 (.k (.int 0)))))))
 (.cons (.asg (.n 3) (.ix (.ixv 0 (.k (.int 0))) (.ixv 0 (.k (.int 1)))))
 (.cons (.set 0 (.k (.int 1)) (.bin .add (.ixv 0 (.k (.int 1))) (.k (.int 1))))
 (.cons (.set 0 (.k (.int 3)) (.bin .mod (.b1 .int (.bin .add (.bin .add (.bin .mul (.ixv 0 (.k (.int 3))) (.k (.int 48271))) (.v 3)) (.k (.int 31)))) (.k (.int 2147483647))))
 (.cons (.ite (.e (.cmp .ge (.v 3) (.bin .pow (.k (.int 10)) (.k (.int 18)))))
 (.cons (.set 0 (.k (.int 2)) (.v 3))
 .nil)
 .nil)
 .nil))))
 .nil)
def drawTail : Ss := (.cons (.ite (.e (.cmp .gt (.ixv 0 (.k (.int 2))) (.k (.int 0))))
 (.cons (.asg (.n 4) (.bin .mod (.b1 .int (.ixv 0 (.k (.int 2)))) (.v 1)))
 (.cons (.set 0 (.k (.int 2)) (.bin .fdiv (.ixv 0 (.k (.int 2))) (.v 1)))
 (.cons (.retv 4)
 .nil)))
 .nil)
 (.cons (.set 0 (.k (.int 4)) (.bin .add (.ixv 0 (.k (.int 4))) (.k (.int 1))))
 (.cons (.asg (.n 2) (.bin .mod (.b1 .int (.bin .mul (.b1 .int (.bin .add (.ixv 0 (.k (.int 3))) (.bin .mul (.k (.int 6151)) (.ixv 0 (.k (.int 4)))))) (.k (.int 40692)))) (.k (.int 2147483399))))
 (.cons (.asg (.n 2) (.bin .mod (.b1 .int (.bin .mul (.v 2) (.bin .add (.bin .fdiv (.v 2) (.k (.int 1223))) (.k (.int 52027))))) (.k (.int 2147483629))))
 (.cons (.asg (.n 2) (.bin .mod (.b1 .int (.bin .mul (.v 2) (.bin .add (.bin .fdiv (.v 2) (.k (.int 2671))) (.k (.int 69621))))) (.k (.int 2147483647))))
 (.cons (.ret (.bin .mod (.b1 .int (.bin .fdiv (.v 2) (.k (.int 32)))) (.v 1)))
 .nil))))))
def fDraw : Fn := ⟨2, 5, .cons drawHead drawTail⟩
def lowC : T := (.e (.cmp .gt (.v 3) (.k (.int 0))))
def lowB : Ss := (.cons (.par [3, 2] (.cons (.bin .mod (.b1 .int (.v 2)) (.v 3)) (.cons (.v 3) .nil))) .nil)
def lowLoop : S := .whl lowC lowB
def fLow : Fn := ⟨2, 4, (.cons (.par [3, 2] (.cons (.b1 .abs (.v 0)) (.cons (.b1 .abs (.v 1)) .nil)))
 (.cons lowLoop
 (.cons (.asg (.n 2) (.ife (.e (.cmp .gt (.v 1) (.k (.int 0)))) (.v 2) (.bin .sub (.k (.int 0)) (.v 2))))
 (.cons (.ret (.tup (.cons (.bin .fdiv (.v 0) (.v 2)) (.cons (.bin .fdiv (.v 1) (.v 2)) .nil))))
 .nil))))⟩
def comC : T := (.e (.cmp .gt (.v 1) (.k (.int 0))))
def comB : Ss := (.cons (.par [0, 1] (.cons (.v 1) (.cons (.bin .mod (.v 0) (.v 1)) .nil))) .nil)
def comLoop : S := .whl comC comB
def fCommon : Fn := ⟨2, 2, (.cons (.par [0, 1] (.cons (.b1 .abs (.v 0)) (.cons (.b1 .abs (.v 1)) .nil)))
 (.cons comLoop
 (.cons (.retv 0)
 .nil)))⟩
def handLc : E := (.lc (.b1 .abs (.b1 .int (.v 2))) (.n 2) (.of (.scr 0 63)) .yes)
def fHand : Fn := ⟨1, 3, (.cons (.asg (.n 1) handLc)
 (.cons (.ret (.lst (.cons (.v 1) (.cons (.k (.int 0)) (.cons (.k (.int 0)) (.cons (.bin .add (.k (.int 97)) (.bin .mul (.k (.int 5)) (.b1 .len (.v 1)))) (.cons (.k (.int 0)) .nil)))))))
 .nil))⟩
/-- the hand: the cells, the place, the figures left, the state, the count -/
def HandOk (n : Nat) (xs : List D) : Prop := ∃ (cs : List Int) (i b s c : Int), xs = [.list (cs.map PyData.int), .int i, .int b, .int s, .int c] ∧ (∀ x ∈ cs, 0 ≤ x) ∧ 0 ≤ i ∧ 0 ≤ b ∧ 0 ≤ s ∧ s < 2147483648 ∧ 0 ≤ c ∧ c ≤ n
theorem HandOk.mono {n m : Nat} {xs : List D} (h : HandOk n xs) (hm : n ≤ m) : HandOk m xs := by
  obtain ⟨cs, i, b, s, c, e, h1, h2, h3, h4, h5, h6, h7⟩ := h
  exact ⟨cs, i, b, s, c, e, h1, h2, h3, h4, h5, h6, by omega⟩
theorem at0 {a b c d e : D} : L2.atI [a, b, c, d, e] 0 = some a := rfl
theorem at1 {a b c d e : D} : L2.atI [a, b, c, d, e] 1 = some b := rfl
theorem at2 {a b c d e : D} : L2.atI [a, b, c, d, e] 2 = some c := rfl
theorem at3 {a b c d e : D} : L2.atI [a, b, c, d, e] 3 = some d := rfl
theorem at4 {a b c d e : D} : L2.atI [a, b, c, d, e] 4 = some e := rfl
theorem st1 {a b c d e x : D} : setAt? [a, b, c, d, e] 1 x = some [a, x, c, d, e] := rfl
theorem st2 {a b c d e x : D} : setAt? [a, b, c, d, e] 2 x = some [a, b, x, d, e] := rfl
theorem st3 {a b c d e x : D} : setAt? [a, b, c, d, e] 3 x = some [a, b, c, x, e] := rfl
theorem st4 {a b c d e x : D} : setAt? [a, b, c, d, e] 4 x = some [a, b, c, d, x] := rfl
theorem big_lit {n : Nat} (h : n < 2 ^ 250) : n < BIG := lt_BIG h
theorem mulS {i j : Int} (h1 : i.natAbs < 2 ^ 250) (h2 : j.natAbs < 2 ^ 250) : binD .mul (.int i) (.int j) = some (.int (i * j)) := b_mul (lt_BIG h1) (lt_BIG h2)
theorem divS {i j : Int} (h1 : 0 < j) (h2 : j.natAbs < 2 ^ 250) : binD .fdiv (.int i) (.int j) = some (.int (i / j)) := b_fdiv h1 (lt_DIVB h2)
theorem mod_lt {x m : Int} (h : 0 < m) : 0 ≤ x % m ∧ x % m < m := ⟨Int.emod_nonneg _ (by omega), Int.emod_lt_of_pos _ h⟩
section
variable {P : List Fn} {gl : Nat → Option D} {j : Nat}
theorem draw_tail {C : Cfg} {cs : D} {i b s c many : Int} {z : Option Slot} {h0 : List D} {as : List Slot} (hm : 0 < many) (hm2 : many < 1000000000) (hb : 0 ≤ b) (hs : 0 ≤ s) (hs2 : s < 2147483648) (hc : 0 ≤ c) (hc2 : c < 1000000000) :
    ∃ r b' c' : Int, finR (.io h0 :: as) (evSs C drawTail [some (.io [cs, .int i, .int b, .int s, .int c]), some (.v (.int many)), none, z, none]) = .ret (.pv (.int r)) (some (.io [cs, .int i, .int b', .int s, .int c'])) ∧ 0 ≤ r ∧ r < many ∧ 0 ≤ b' ∧ 0 ≤ c' ∧ c' ≤ c + 1 := by
  have hd : many.natAbs < 2 ^ 250 := by omega
  by_cases h : 0 < b
  · refine ⟨b % many, b / many, c, ?_, (mod_lt hm).1, (mod_lt hm).2, Int.ediv_nonneg hb (by omega), hc, by omega⟩
    · simp [drawTail, at2, h, b_mod hm, divS hm hd, st2]
  · have m1 : binD .mul (.int 6151) (.int (c + 1)) = some (.int (6151 * (c + 1))) := mulS (by decide) (by omega)
    have m2 : binD .mul (.int (s + 6151 * (c + 1))) (.int 40692) = some (.int ((s + 6151 * (c + 1)) * 40692)) := mulS (by omega) (by decide)
    have q1 := mod_lt (x := (s + 6151 * (c + 1)) * 40692) (m := 2147483399) (by decide)
    generalize hn1 : (s + 6151 * (c + 1)) * 40692 % 2147483399 = n1 at q1
    have d1 : binD .fdiv (.int n1) (.int 1223) = some (.int (n1 / 1223)) := divS (by decide) (by decide)
    have m3 : binD .mul (.int n1) (.int (n1 / 1223 + 52027)) = some (.int (n1 * (n1 / 1223 + 52027))) := mulS (by omega) (by omega)
    have q2 := mod_lt (x := n1 * (n1 / 1223 + 52027)) (m := 2147483629) (by decide)
    generalize hn2 : n1 * (n1 / 1223 + 52027) % 2147483629 = n2 at q2
    have d2 : binD .fdiv (.int n2) (.int 2671) = some (.int (n2 / 2671)) := divS (by decide) (by decide)
    have m4 : binD .mul (.int n2) (.int (n2 / 2671 + 69621)) = some (.int (n2 * (n2 / 2671 + 69621))) := mulS (by omega) (by omega)
    have q3 := mod_lt (x := n2 * (n2 / 2671 + 69621)) (m := 2147483647) (by decide)
    generalize hn3 : n2 * (n2 / 2671 + 69621) % 2147483647 = n3 at q3
    have d3 : binD .fdiv (.int n3) (.int 32) = some (.int (n3 / 32)) := divS (by decide) (by decide)
    have o1 : ∀ x : Int, binD .mod (.int x) (.int 2147483399) = some (.int (x % 2147483399)) := fun x => b_mod (by decide)
    have o2 : ∀ x : Int, binD .mod (.int x) (.int 2147483629) = some (.int (x % 2147483629)) := fun x => b_mod (by decide)
    have o3 : ∀ x : Int, binD .mod (.int x) (.int 2147483647) = some (.int (x % 2147483647)) := fun x => b_mod (by decide)
    refine ⟨n3 / 32 % many, b, c + 1, ?_, (mod_lt hm).1, (mod_lt hm).2, hb, by omega, by omega⟩
    · simp [drawTail, at2, at3, at4, h, b_mod hm, st4, m1, m2, hn1, o1, d1, m3, hn2, o2, d2, m4, hn3, o3, d3]
theorem draw_ok {n m : Nat} {many : Int} {xs : List D} (hP : P[j]? = some fDraw) (H : HandOk m xs) (hm : 0 < many) (hm2 : many < 1000000000) (hc2 : m < 1000000000) :
    ∃ (r : Int) (ys : List D), run P gl (n + 1) j [.io xs, .v (.int many)] = .ret (.pv (.int r)) (some (.io ys)) ∧ HandOk (m + 1) ys ∧ 0 ≤ r ∧ r < many := by
  obtain ⟨cs, i, b, s, c, rfl, h1, h2, h3, h4, h5, h6, h7⟩ := H
  have done : ∀ (i' b' s' : Int) (z : Option Slot) (ρ : Env), 0 ≤ i' → 0 ≤ b' → 0 ≤ s' → s' < 2147483648 → evS ⟨run P gl n, gl⟩ drawHead [some (.io [.list (cs.map PyData.int), .int i, .int b, .int s, .int c]), some (.v (.int many)), none, none, none] = .nx [some (.io [.list (cs.map PyData.int), .int i', .int b', .int s', .int c]), some (.v (.int many)), none, z, none] →
      ∃ (r : Int) (ys : List D), run P gl (n + 1) j [.io [.list (cs.map PyData.int), .int i, .int b, .int s, .int c], .v (.int many)] = .ret (.pv (.int r)) (some (.io ys)) ∧ HandOk (m + 1) ys ∧ 0 ≤ r ∧ r < many := by
    intro i' b' s' z _ k1 k2 k3 k4 e
    obtain ⟨r, b2, c2, q, q1, q2, q3, q4, q5⟩ := draw_tail (C := ⟨run P gl n, gl⟩) (cs := .list (cs.map PyData.int)) (i := i') (b := b') (s := s') (c := c) (many := many) (z := z) (h0 := [.list (cs.map PyData.int), .int i, .int b, .int s, .int c]) (as := [.v (.int many)]) hm hm2 k2 k3 k4 h6 (by omega)
    refine ⟨r, _, ?_, ⟨cs, i', b2, s', c2, rfl, h1, k1, q3, k3, k4, q4, by omega⟩, q1, q2⟩
    rw [run_succ hP, if_pos ⟨rfl, rfl⟩, ← q]
    show finR _ (evSs _ (.cons drawHead drawTail) [some (.io [.list (cs.map PyData.int), .int i, .int b, .int s, .int c]), some (.v (.int many)), none, none, none]) = _
    rw [ss_cons, e]
    rfl
  by_cases c1 : b = 0 ∧ i < cs.length
  · obtain ⟨e1, c2⟩ := c1
    subst e1
    have ea : L2.atI (cs.map PyData.int) i = some (.int (cs[i.toNat]'(by omega))) := by
      rw [at_nat h2 (by simpa using c2), List.getElem?_map, List.getElem?_eq_getElem (by omega)]
      rfl
    have hx : 0 ≤ cs[i.toNat]'(by omega) := h1 _ (List.getElem_mem _)
    generalize cs[i.toNat]'(by omega) = x at ea hx
    have m1 : binD .mul (.int s) (.int 48271) = some (.int (s * 48271)) := mulS (by omega) (by decide)
    have q1 := mod_lt (x := s * 48271 + x + 31) (m := 2147483647) (by decide)
    have o1 : binD .mod (.int (s * 48271 + x + 31)) (.int 2147483647) = some (.int ((s * 48271 + x + 31) % 2147483647)) := b_mod (by decide)
    have pw : binD .pow (.int 10) (.int 18) = some (.int 1000000000000000000) := by simp [binD]
    by_cases c3 : 1000000000000000000 ≤ x
    · refine done (i + 1) x _ (some (.v (.int x))) [] (by omega) hx q1.1 (by omega) ?_
      simp [drawHead, at0, at1, at2, at3, st1, st2, st3, ea, m1, o1, pw, c2, c3]
    · refine done (i + 1) 0 _ (some (.v (.int x))) [] (by omega) (by omega) q1.1 (by omega) ?_
      simp [drawHead, at0, at1, at2, at3, st1, st2, st3, ea, m1, o1, pw, c2, c3]
  · refine done i b s none [] h2 h3 h4 h5 ?_
    by_cases c2 : b = 0
    · have : ¬ i < cs.length := fun z => c1 ⟨c2, z⟩
      simp [drawHead, at0, at1, at2, c2, this]
    · simp [drawHead, at0, at1, at2, c2]
end
end Pv

namespace Pv
open PySem
/-! ### loops and comprehensions -/
theorem forGo_inv {f : D → Env → SR} (I : Nat → Env → Prop) {ds : List D} {ρ : Env} (h0 : I 0 ρ) (step : ∀ i d ρ, ds[i]? = some d → I i ρ → ∃ ρ', f d ρ = .nx ρ' ∧ I (i + 1) ρ') : ∃ ρ', forGo f ds ρ = .nx ρ' ∧ I ds.length ρ' := by
  induction ds generalizing I ρ with
  | nil => exact ⟨ρ, rfl, h0⟩
  | cons x xs ih =>
    obtain ⟨ρ1, e, h1⟩ := step 0 x ρ rfl h0
    obtain ⟨ρ2, e2, h2⟩ := ih (fun i ρ => I (i + 1) ρ) h1 fun i d ρ hd hi => step (i + 1) d ρ (by simpa using hd) hi
    refine ⟨ρ2, ?_, h2⟩
    unfold forGo
    rw [e]
    exact e2
theorem set_back {ρ : Env} {i : Nat} (hi : i < ρ.length) (x : Option Slot) : (ρ.set i x).set i (ρ.getD i none) = ρ := by
  rw [List.set_set]
  apply List.ext_getElem?
  intro j
  by_cases h : i = j
  · subst h
    rw [List.getElem?_set_self hi, List.getD_eq_getElem?_getD, List.getElem?_eq_getElem hi]
    rfl
  · rw [List.getElem?_set_ne h]
theorem lcTurn_n {i : Nat} {ev : Env → R (Option D)} {ρ : Env} {x : D} {o : Option D} (hi : i < ρ.length) (hp : plainAt ρ [i] = true) (h : ev (ρ.set i (some (.v x))) = .ok o (ρ.set i (some (.v x)))) : lcTurn (.n i) ev x ρ = .ok o ρ := by
  unfold lcTurn
  rw [if_pos (show plainAt ρ (Tg.n i).slots = true from hp)]
  have e1 : putT (wipeE ρ (Tg.n i).slots) (.n i) x = .ok () (ρ.set i (some (.v x))) := by
    show putV (ρ.set i none) i (.pv x) = _
    unfold putV
    rw [if_pos]
    · rw [List.set_set]
    · unfold freeAt
      rw [List.getElem?_set_self hi]
  rw [e1]
  show (ev (ρ.set i (some (.v x)))).bind _ = _
  rw [h]
  show R.ok o (backE ρ (ρ.set i (some (.v x))) [i]) = _
  congr 1
  exact set_back hi _
theorem lcGo_n {i : Nat} {ev : Env → R (Option D)} {ρ : Env} {g : D → D} (hi : i < ρ.length) (hp : plainAt ρ [i] = true) : ∀ {xs : List D}, (∀ x ∈ xs, ev (ρ.set i (some (.v x))) = .ok (some (g x)) (ρ.set i (some (.v x)))) → lcGo (lcTurn (.n i) ev) xs ρ = .ok (xs.map g) ρ
  | [], _ => rfl
  | x :: xs, h => by
    unfold lcGo
    rw [lcTurn_n hi hp (h x List.mem_cons_self)]
    show (lcGo _ xs ρ).bind _ = _
    rw [lcGo_n hi hp fun y hy => h y (List.mem_cons_of_mem _ hy)]
    rfl
theorem lcTurn_2 {i j : Nat} {ev : Env → R (Option D)} {ρ : Env} {x y : D} {o : Option D} (hi : i < ρ.length) (hj : j < ρ.length) (hij : i ≠ j) (hp : plainAt ρ [i, j] = true) (h : ev ((ρ.set i (some (.v x))).set j (some (.v y))) = .ok o ((ρ.set i (some (.v x))).set j (some (.v y)))) : lcTurn (.t [i, j]) ev (.tuple [x, y]) ρ = .ok o ρ := by
  unfold lcTurn
  rw [if_pos (show plainAt ρ (Tg.t [i, j]).slots = true from hp)]
  have e1 : putT (wipeE ρ (Tg.t [i, j]).slots) (.t [i, j]) (.tuple [x, y]) = .ok () ((ρ.set i (some (.v x))).set j (some (.v y))) := by
    show (if ([x, y] : List D).length = [i, j].length then putAll ((ρ.set j none).set i none) [i, j] [x, y] else .bad) = _
    rw [if_pos (show ([x, y] : List D).length = [i, j].length from rfl)]
    have f1 : freeAt ((ρ.set j none).set i none) i = true := by
      unfold freeAt
      rw [List.getElem?_set_self (by simpa using hi)]
    have f2 : freeAt (((ρ.set j none).set i none).set i (some (.v x))) j = true := by
      unfold freeAt
      rw [List.getElem?_set_ne hij, List.getElem?_set_ne hij, List.getElem?_set_self hj]
    rw [putAll_cons, putD_eq, putV_pv, if_pos f1]
    show putAll _ [j] [y] = _
    rw [putAll_cons, putD_eq, putV_pv, if_pos f2]
    show R.ok () _ = _
    congr 1
    rw [List.set_set, List.set_comm _ _ hij.symm, List.set_set]
  rw [e1]
  show (ev ((ρ.set i (some (.v x))).set j (some (.v y)))).bind _ = _
  rw [h]
  show R.ok o (backE ρ ((ρ.set i (some (.v x))).set j (some (.v y))) [i, j]) = _
  congr 1
  show ((((ρ.set i (some (.v x))).set j (some (.v y))).set j (ρ.getD j none)).set i (ρ.getD i none)) = ρ
  rw [List.set_set, List.set_comm _ _ hij.symm, List.set_set]
  rw [List.set_comm _ _ hij]
  apply List.ext_getElem?
  intro k
  by_cases h1 : i = k
  · subst h1
    rw [List.getElem?_set_self (by simpa using hi), List.getD_eq_getElem?_getD, List.getElem?_eq_getElem hi]
    rfl
  · rw [List.getElem?_set_ne h1]
    by_cases h2 : j = k
    · subst h2
      rw [List.getElem?_set_self hj, List.getD_eq_getElem?_getD, List.getElem?_eq_getElem hj]
      rfl
    · rw [List.getElem?_set_ne h2]
theorem rngOf1 {j : Int} (h0 : -(2 ^ 62) ≤ j) (h1 : j < 2 ^ 62) : rngOf [.int j] = some (0, j.toNat, 1) := if_pos ⟨h0, h1⟩
theorem rngOfA {k : Int} (hk : k.natAbs ≤ 1000000) : rngOf [.int (k.natAbs : Int)] = some (0, k.natAbs, 1) := by
  have := rngOf1 (j := (k.natAbs : Int)) (by omega) (by omega)
  rw [this]
  rfl
theorem cio_own {call : List Slot → FR} {i : Nat} {args : Env → R (List D)} {ρ ρ' : Env} {xs xs' ys : List D} {ds : List D} {x : Val} (h0 : ρ[i]? = some (some (.own xs))) (h1 : args ρ = .ok ds ρ') (h2 : ρ'[i]? = some (some (.own xs'))) (hc : call (.io xs' :: ds.map .v) = .ret x (some (.io ys))) : cioGo call i args ρ = .ok x (ρ'.set i (some (.own ys))) := by
  unfold cioGo ioArg
  simp [h0, h1, h2, hc, backR, backS]
theorem cio_io {call : List Slot → FR} {i : Nat} {args : Env → R (List D)} {ρ ρ' : Env} {xs xs' ys : List D} {ds : List D} {x : Val} (h0 : ρ[i]? = some (some (.io xs))) (h1 : args ρ = .ok ds ρ') (h2 : ρ'[i]? = some (some (.io xs'))) (hc : call (.io xs' :: ds.map .v) = .ret x (some (.io ys))) : cioGo call i args ρ = .ok x (ρ'.set i (some (.io ys))) := by
  unfold cioGo ioArg
  simp [h0, h1, h2, hc, backR, backS]
theorem ecio_own {C : Cfg} {j i : Nat} {es : Es} {ρ ρ' : Env} {xs xs' ys : List D} {ds : List D} {x : Val} (h0 : ρ[i]? = some (some (.own xs))) (h1 : evA C es ρ = .ok ds ρ') (h2 : ρ'[i]? = some (some (.own xs'))) (hc : C.call j (.io xs' :: ds.map .v) = .ret x (some (.io ys))) : evE C (.cio j i es) ρ = .ok x (ρ'.set i (some (.own ys))) := by
  rw [e_cio]
  exact cio_own h0 h1 h2 hc
theorem ecio_io {C : Cfg} {j i : Nat} {es : Es} {ρ ρ' : Env} {xs xs' ys : List D} {ds : List D} {x : Val} (h0 : ρ[i]? = some (some (.io xs))) (h1 : evA C es ρ = .ok ds ρ') (h2 : ρ'[i]? = some (some (.io xs'))) (hc : C.call j (.io xs' :: ds.map .v) = .ret x (some (.io ys))) : evE C (.cio j i es) ρ = .ok x (ρ'.set i (some (.io ys))) := by
  rw [e_cio]
  exact cio_io h0 h1 h2 hc
theorem s_whl_step {C : Cfg} {c : T} {b : Ss} {ρ : Env} : evS C (.whl c b) ρ = (match evT C c ρ with
    | .ok true ρ => (match evSs C b ρ with
      | .nx ρ => evS C (.whl c b) ρ
      | .ct ρ => evS C (.whl c b) ρ
      | .brk ρ => .nx ρ
      | r => r)
    | .ok false ρ => .nx ρ
    | .exc c x ρ => .exc c x ρ
    | .bad => .bad) := whl_step _ _ _
theorem whl_f {C : Cfg} {c : T} {b : Ss} {ρ ρ' : Env} (h : evT C c ρ = .ok false ρ') : evS C (.whl c b) ρ = .nx ρ' := by rw [s_whl_step, h]
theorem whl_t {C : Cfg} {c : T} {b : Ss} {ρ ρ1 ρ2 : Env} (h : evT C c ρ = .ok true ρ1) (h2 : evSs C b ρ1 = .nx ρ2) : evS C (.whl c b) ρ = evS C (.whl c b) ρ2 := by
  rw [s_whl_step, h]
  simp only [h2]
section
variable {P : List Fn} {gl : Nat → Option D} {j n : Nat}
/-! ### the hand -/
theorem hand_ok {ns : List Int} (hP : P[j]? = some fHand) : ∃ xs, run P gl (n + 1) j [.raw (ns.map PyData.int)] = .ret (.fr xs) none ∧ HandOk 0 xs := by
  have hl : (cut (ns.map PyData.int) none (some 63)) = (cut ns none (some 63)).map PyData.int := by
    unfold cut
    rw [List.length_map, List.map_take, List.map_drop]
  have hlen : (cut ns none (some 63)).length ≤ 63 := by
    unfold cut
    rw [List.length_take, List.length_drop]
    have : HT.sIx ns.length ns.length (some 63) ≤ 63 := by
      simp [HT.sIx]
      omega
    omega
  generalize cut ns none (some 63) = cs at hl hlen
  have lc : ∀ C : Cfg, evE C handLc [some (.raw (ns.map PyData.int)), none, none] = .ok (.fr ((cs.map fun i => if i < 0 then -i else i).map PyData.int)) [some (.raw (ns.map PyData.int)), none, none] := fun C => by
    unfold handLc
    rw [e_lc]
    have e1 : evI C (.of (.scr 0 63)) [some (.raw (ns.map PyData.int)), none, none] = .ok (cs.map PyData.int) [some (.raw (ns.map PyData.int)), none, none] := by simp [scrV, hl]
    rw [e1]
    show lcEnd (lcGo _ _ _) = _
    rw [lcGo_n (g := fun d => match d with | .int i => .int (if i < 0 then -i else i) | d => d) (by simp) rfl ?_]
    · have h6 : cs.length ≤ LIM := Nat.le_trans hlen (by decide)
      simp [h6]
    · intro x hx
      obtain ⟨i, _, rfl⟩ := List.mem_map.mp hx
      simp
  have m1 : binD .mul (.int 5) (.int (cs.length : Int)) = some (.int (5 * (cs.length : Int))) := mulS (by decide) (by omega)
  refine ⟨[.list ((cs.map fun i => if i < 0 then -i else i).map PyData.int), .int 0, .int 0, .int (97 + 5 * cs.length), .int 0], ?_, ⟨_, 0, 0, _, 0, rfl, ?_, by omega, by omega, by omega, by omega, by omega, by omega⟩⟩
  · rw [run_succ hP, if_pos ⟨rfl, rfl⟩]
    have h5 : (5 : Nat) ≤ LIM := by decide
    simp [fHand, lc, m1, h5]
  · intro x hx
    obtain ⟨i, _, rfl⟩ := List.mem_map.mp hx
    split <;> omega
/-! ### the greatest common part -/
theorem gcd_pos {a b : Nat} (h : 0 < b) : 0 < Nat.gcd a b := Nat.gcd_pos_of_pos_right _ h
theorem low_loop {C : Cfg} {t u : Option Slot} : ∀ (m a b : Nat), a ≤ m → evS C lowLoop [t, u, some (.v (.int b)), some (.v (.int a))] = .nx [t, u, some (.v (.int (Nat.gcd a b))), some (.v (.int 0))]
  | 0, a, b, h => by
    have e : a = 0 := by omega
    subst e
    rw [Nat.gcd_zero_left]
    exact whl_f (by simp [lowC])
  | m + 1, a, b, h => by
    by_cases h0 : a = 0
    · subst h0
      rw [Nat.gcd_zero_left]
      exact whl_f (by simp [lowC])
    · have hp : (0 : Int) < a := by omega
      have ih := low_loop (C := C) (t := t) (u := u) m (b % a) a (by have := Nat.mod_lt b (show 0 < a by omega); omega)
      rw [Nat.gcd_rec a b, ← ih]
      exact whl_t (ρ1 := [t, u, some (.v (.int b)), some (.v (.int a))]) (by simp [lowC]; omega) (by simp [lowB, b_mod hp])
theorem common_loop {C : Cfg} : ∀ (m a b : Nat), a ≤ m → evS C comLoop [some (.v (.int b)), some (.v (.int a))] = .nx [some (.v (.int (Nat.gcd a b))), some (.v (.int 0))]
  | 0, a, b, h => by
    have e : a = 0 := by omega
    subst e
    rw [Nat.gcd_zero_left]
    exact whl_f (by simp [comC])
  | m + 1, a, b, h => by
    by_cases h0 : a = 0
    · subst h0
      rw [Nat.gcd_zero_left]
      exact whl_f (by simp [comC])
    · have hp : (0 : Int) < a := by omega
      have ih := common_loop (C := C) m (b % a) a (by have := Nat.mod_lt b (show 0 < a by omega); omega)
      rw [Nat.gcd_rec a b, ← ih]
      exact whl_t (ρ1 := [some (.v (.int b)), some (.v (.int a))]) (by simp [comC]; omega) (by simp [comB, b_mod hp])
theorem abs_nat (i : Int) : (if i < 0 then -i else i) = (i.natAbs : Int) := by split <;> omega
theorem common_ok {a b : Int} (hP : P[j]? = some fCommon) : run P gl (n + 1) j [.v (.int a), .v (.int b)] = .ret (.pv (.int (Int.gcd a b))) none := by
  rw [run_succ hP, if_pos ⟨rfl, rfl⟩]
  have e := common_loop (C := ⟨run P gl n, gl⟩) b.natAbs b.natAbs a.natAbs (Nat.le_refl _)
  simp [fCommon, abs_nat, e, Int.gcd, Nat.gcd_comm]
/-- lowest terms, the bottom above 0 -/
theorem low_pos {t b : Int} (hP : P[j]? = some fLow) (hb : 0 < b) (hb2 : b < 2 ^ 250) : run P gl (n + 1) j [.v (.int t), .v (.int b)] = .ret (.pv (.tuple [.int (t / Int.gcd t b), .int (b / Int.gcd t b)])) none := by
  have hg : 0 < Int.gcd t b := Int.gcd_pos_of_ne_zero_right _ (by omega)
  have hle : (Int.gcd t b : Int) ≤ b := Int.le_of_dvd hb (Int.gcd_dvd_right ..)
  rw [run_succ hP, if_pos ⟨rfl, rfl⟩]
  have e := low_loop (C := ⟨run P gl n, gl⟩) (t := some (.v (.int t))) (u := some (.v (.int b))) t.natAbs t.natAbs b.natAbs (Nat.le_refl _)
  have e2 : ((t.natAbs.gcd b.natAbs : Nat) : Int) = (Int.gcd t b : Int) := rfl
  rw [e2] at e
  have d1 : ∀ x, binD .fdiv (.int x) (.int (Int.gcd t b)) = some (.int (x / Int.gcd t b)) := fun x => divS (by omega) (by omega)
  have h2 : (2 : Nat) ≤ LIM := by decide
  simp [fLow, abs_nat, e, hb, d1, h2]
/-- the bottom below 0 -/
theorem low_neg {t b : Int} (hP : P[j]? = some fLow) (hb : b < 0) (hg : Int.gcd t b = 1) : run P gl (n + 1) j [.v (.int t), .v (.int b)] = .ret (.pv (.tuple [.int (-t), .int (-b)])) none := by
  rw [run_succ hP, if_pos ⟨rfl, rfl⟩]
  have e := low_loop (C := ⟨run P gl n, gl⟩) (t := some (.v (.int t))) (u := some (.v (.int b))) t.natAbs t.natAbs b.natAbs (Nat.le_refl _)
  have e2 : ((t.natAbs.gcd b.natAbs : Nat) : Int) = 1 := by
    show (Int.gcd t b : Int) = 1
    rw [hg]
    rfl
  rw [e2] at e
  have d1 : ∀ x, binD .fdiv (.int x) (.int (-1)) = some (.int (-x)) := fun x => by
    have : x.fdiv (-1) = -x := by simp [Int.fdiv_neg]
    have l1 : (1 : Nat) < DIVB := lt_DIVB (by decide)
    simp [binD, this, l1]
  have h2 : (2 : Nat) ≤ LIM := by decide
  have hb' : ¬ 0 < b := by omega
  simp [fLow, abs_nat, e, hb', d1, h2]
end
end Pv

namespace Pv
open PySem
/-! ### told and due are alike -/
def isLc (j : Nat) : E := (.lc (.call j (.cons (.v 3) (.cons (.v 4) .nil))) (.t [3, 4]) (.zip (.v 0) (.v 1)) .yes)
def fIs (j : Nat) : Fn := ⟨2, 5, (.cons (.ite (.e (.isi (.v 1) [.tup, .lst]))
 (.cons (.ite (.or (.e (.cmp .ne (.isi (.v 0) [.tup]) (.isi (.v 1) [.tup]))) (.not (.e (.isi (.v 0) [.tup, .lst]))))
 (.cons (.ret (.k (.bool false)))
 .nil)
 .nil)
 (.cons (.ret (.and (.cmp .eq (.b1 .len (.v 0)) (.b1 .len (.v 1))) (.b1 .all (isLc j))))
 .nil))
 .nil)
 (.cons (.ite (.e (.isi (.v 1) [.dic]))
 (.cons (.ite (.or (.not (.e (.isi (.v 0) [.dic]))) (.e (.cmp .ne (.b1 .len (.v 0)) (.b1 .len (.v 1)))))
 (.cons (.ret (.k (.bool false)))
 .nil)
 .nil)
 (.cons (.ret (.b1 .all (.lc (.and (.cmp .isin (.v 2) (.v 0)) (.call j (.cons (.ixv 0 (.v 2)) (.cons (.ixv 1 (.v 2)) .nil)))) (.n 2) (.of (.v 1)) .yes)))
 .nil))
 .nil)
 (.cons (.ite (.or (.e (.isi (.v 1) [.str])) (.e (.cmp .is (.v 1) (.k .none))))
 (.cons (.ret (.and (.cmp .eq (.isi (.v 0) [.str]) (.isi (.v 1) [.str])) (.cmp .eq (.v 0) (.v 1))))
 .nil)
 .nil)
 (.cons (.ret (.and (.isi (.v 0) [.int]) (.and (.cmp .eq (.isi (.v 0) [.bool]) (.isi (.v 1) [.bool])) (.cmp .eq (.v 0) (.v 1)))))
 .nil))))⟩
@[simp] theorem c_isn_i (i : Int) : cmpD .is (.int i) .none = some false := rfl
@[simp] theorem c_isn_t (i : List D) : cmpD .is (.tuple i) .none = some false := rfl
@[simp] theorem c_isn_n : cmpD .is .none .none = some true := rfl
@[simp] theorem ty_ii (i : Int) : Ty.is .int (.int i) = true := rfl
@[simp] theorem ty_bi (i : Int) : Ty.is .bool (.int i) = false := rfl
@[simp] theorem ty_si (i : Int) : Ty.is .str (.int i) = false := rfl
@[simp] theorem ty_ti (i : Int) : Ty.is .tup (.int i) = false := rfl
@[simp] theorem ty_li (i : Int) : Ty.is .lst (.int i) = false := rfl
@[simp] theorem ty_di (i : Int) : Ty.is .dic (.int i) = false := rfl
@[simp] theorem ty_tt (i : List D) : Ty.is .tup (.tuple i) = true := rfl
@[simp] theorem ty_it (i : List D) : Ty.is .int (.tuple i) = false := rfl
@[simp] theorem ty_bt (i : List D) : Ty.is .bool (.tuple i) = false := rfl
@[simp] theorem ty_lt (i : List D) : Ty.is .lst (.tuple i) = false := rfl
@[simp] theorem ty_dt (i : List D) : Ty.is .dic (.tuple i) = false := rfl
@[simp] theorem ty_st (i : List D) : Ty.is .str (.tuple i) = false := rfl
section
variable {P : List Fn} {gl : Nat → Option D} {j n : Nat}
theorem is_int (hP : P[j]? = some (fIs j)) (i : Int) : run P gl (n + 1) j [.v (.int i), .v (.int i)] = .ret (.pv (.bool true)) none := by
  rw [run_succ hP, if_pos ⟨rfl, rfl⟩]
  simp [fIs]
/-- told is due: every item of a tuple is alike, so the tuple is -/
theorem is_tup {m : Nat} (hP : P[j]? = some (fIs j)) (ds : List D) (hl : ds.length ≤ LIM) (h : ∀ d ∈ ds, run P gl m j [.v d, .v d] = .ret (.pv (.bool true)) none) : run P gl (m + 1) j [.v (.tuple ds), .v (.tuple ds)] = .ret (.pv (.bool true)) none := by
  rw [run_succ hP, if_pos ⟨rfl, rfl⟩]
  have z : zipD ds ds = ds.map fun d => .tuple [d, d] := by
    clear h hl
    induction ds with
    | nil => rfl
    | cons d r ih => simp [zipD, ih]
  have lc : evE ⟨run P gl m, gl⟩ (isLc j) [some (.v (.tuple ds)), some (.v (.tuple ds)), none, none, none] = .ok (.fr (ds.map fun _ => .bool true)) [some (.v (.tuple ds)), some (.v (.tuple ds)), none, none, none] := by
    unfold isLc
    rw [e_lc]
    have e1 : evI ⟨run P gl m, gl⟩ (.zip (.v 0) (.v 1)) [some (.v (.tuple ds)), some (.v (.tuple ds)), none, none, none] = .ok (ds.map fun d => .tuple [d, d]) [some (.v (.tuple ds)), some (.v (.tuple ds)), none, none, none] := by simp [zipO, z]
    rw [e1]
    show lcEnd (lcGo _ _ _) = _
    have e2 : ∀ xs : List D, (∀ d ∈ xs, run P gl m j [.v d, .v d] = .ret (.pv (.bool true)) none) → lcGo (lcTurn (.t [3, 4]) fun ρ => (evT ⟨run P gl m, gl⟩ .yes ρ).bind fun t ρ => iteR t (bindD (evE ⟨run P gl m, gl⟩ (.call j (.cons (.v 3) (.cons (.v 4) .nil))) ρ) fun y ρ => .ok (some y) ρ) (.ok none ρ)) (xs.map fun d => .tuple [d, d]) [some (.v (.tuple ds)), some (.v (.tuple ds)), none, none, none] = .ok (xs.map fun _ => .bool true) [some (.v (.tuple ds)), some (.v (.tuple ds)), none, none, none] := by
      intro xs
      induction xs with
      | nil => intro _; rfl
      | cons x xs ih =>
        intro hx
        rw [List.map_cons]
        unfold lcGo
        rw [lcTurn_2 (o := some (.bool true)) (by simp) (by simp) (by decide) rfl (by simp [hx x List.mem_cons_self])]
        show (lcGo _ _ _).bind _ = _
        rw [ih fun d hd => hx d (List.mem_cons_of_mem _ hd)]
        rfl
    rw [e2 ds h]
    simp [hl]
  have bo : ∀ xs : List D, boolsOf (xs.map fun _ => PyData.bool true) = some (xs.map fun _ => true) := fun xs => by
    induction xs with
    | nil => rfl
    | cons x r ih => simp [ih]
  have iv : isV (isLc j) = none := rfl
  simp [fIs, lc, bo, iv]
end
end Pv

namespace Pv
open PySem
/-! ### the basics, by the numbers of the defs -/
def fIsInt : Fn := ⟨1, 1, (.cons (.ret (.and (.isi (.v 0) [.int]) (.not (.isi (.v 0) [.bool])))) .nil)⟩
def fSized : Fn := ⟨3, 3, (.cons (.ret (.and (.isi (.v 0) [.tup]) (.chain .le .le (.v 1) (.b1 .len (.v 0)) (.v 2)))) .nil)⟩
def fAreInts (ji js : Nat) : Fn := ⟨3, 4, (.cons (.ret (.and (.call js (.cons (.v 0) (.cons (.v 1) (.cons (.v 2) .nil)))) (.b1 .all (.lc (.call ji (.cons (.v 3) .nil)) (.n 3) (.of (.v 0)) .yes)))) .nil)⟩
def fIsRatio (ji js jc g : Nat) : Fn := ⟨1, 2, (.cons (.ite (.or (.not (.e (.call js (.cons (.v 0) (.cons (.k (.int 2)) (.cons (.k (.int 2)) .nil)))))) (.not (.e (.b1 .all (.lc (.call ji (.cons (.v 1) .nil)) (.n 1) (.of (.v 0)) .yes)))))
 (.cons (.ret (.k (.bool false)))
 .nil)
 .nil)
 (.cons (.ite (.or (.e (.cmp .ge (.b1 .abs (.ixv 0 (.k (.int 0)))) (.g g))) (.not (.e (.chain .lt .lt (.k (.int 0)) (.ixv 0 (.k (.int 1))) (.g g)))))
 (.cons (.ret (.k (.bool false)))
 .nil)
 .nil)
 (.cons (.ret (.cmp .eq (.call jc (.cons (.ixv 0 (.k (.int 0))) (.cons (.ixv 0 (.k (.int 1))) .nil))) (.k (.int 1))))
 .nil)))⟩
def fCheck1 (jr x : Nat) : Fn := ⟨1, 1, (.cons (.ite (.not (.e (.call jr (.cons (.v 0) .nil))))
 (.cons (.raise x)
 .nil)
 .nil)
 .nil)⟩
def fMade (jc : Nat) : Fn := ⟨2, 3, (.cons (.asg (.n 2) (.call jc (.cons (.v 0) (.cons (.v 1) .nil))))
 (.cons (.asg (.n 2) (.ife (.e (.cmp .gt (.v 1) (.k (.int 0)))) (.v 2) (.bin .sub (.k (.int 0)) (.v 2))))
 (.cons (.ret (.tup (.cons (.bin .fdiv (.v 0) (.v 2)) (.cons (.bin .fdiv (.v 1) (.v 2)) .nil))))
 .nil)))⟩
def fPlus (jm : Nat) : Fn := ⟨2, 2, (.cons (.ret (.call jm (.cons (.bin .add (.bin .mul (.ixv 0 (.k (.int 0))) (.ixv 1 (.k (.int 1)))) (.bin .mul (.ixv 1 (.k (.int 0))) (.ixv 0 (.k (.int 1))))) (.cons (.bin .mul (.ixv 0 (.k (.int 1))) (.ixv 1 (.k (.int 1)))) .nil))))
 .nil)⟩
def fLess : Fn := ⟨2, 2, (.cons (.ret (.cmp .lt (.bin .mul (.ixv 0 (.k (.int 0))) (.ixv 1 (.k (.int 1)))) (.bin .mul (.ixv 1 (.k (.int 0))) (.ixv 0 (.k (.int 1))))))
 .nil)⟩
def fSome (jd : Nat) : Fn := ⟨2, 2, (.cons (.ret (.ixv 1 (.cio jd 0 (.cons (.b1 .len (.v 1)) .nil))))
 .nil)⟩
def pr (p : Int × Int) : D := .tuple [.int p.1, .int p.2]
/-- what is below 2 ** 120 -/
def Md (i : Int) : Prop := i.natAbs < 2 ^ 120
theorem md_mul {a b : Int} (h : Md a) (h2 : Md b) : binD .mul (.int a) (.int b) = some (.int (a * b)) := mulS (Nat.lt_trans h (by decide)) (Nat.lt_trans h2 (by decide))
theorem jx0 {a b : D} : L2.atI [a, b] 0 = some a := rfl
theorem jx1 {a b : D} : L2.atI [a, b] 1 = some b := rfl
theorem lim2 : (2 : Nat) ≤ LIM := by decide
theorem lim3 : (3 : Nat) ≤ LIM := by decide
theorem lim4 : (4 : Nat) ≤ LIM := by decide
theorem lim5 : (5 : Nat) ≤ LIM := by decide
theorem prx0 (p : Int × Int) : ixD (pr p) (.int 0) = some (.int p.1) := rfl
theorem prx1 (p : Int × Int) : ixD (pr p) (.int 1) = some (.int p.2) := rfl
theorem pr_isn (p : Int × Int) : cmpD .is (pr p) .none = some false := rfl
theorem pr_isnot (p : Int × Int) : cmpD .isnot (pr p) .none = some true := rfl
theorem n_isnot : cmpD .isnot .none .none = some false := rfl
theorem cio_k {C : Cfg} {j : Nat} {k : Int} {xs ys : List D} {x : Val} {s : Option Slot} {rest : Env} (h : C.call j [.io xs, .v (.int k)] = .ret x (some (.io ys))) : evE C (.cio j 1 (.cons (.k (.int k)) .nil)) (s :: some (.own xs) :: rest) = .ok x (s :: some (.own ys) :: rest) :=
  ecio_own (xs := xs) (xs' := xs) (ds := [.int k]) (ρ' := s :: some (.own xs) :: rest) rfl (by simp) rfl h
theorem cio_k0 {C : Cfg} {j : Nat} {k : Int} {xs ys : List D} {x : Val} {rest : Env} (h : C.call j [.io xs, .v (.int k)] = .ret x (some (.io ys))) : evE C (.cio j 0 (.cons (.k (.int k)) .nil)) (some (.io xs) :: rest) = .ok x (some (.io ys) :: rest) :=
  ecio_io (xs := xs) (xs' := xs) (ds := [.int k]) (ρ' := some (.io xs) :: rest) rfl (by simp) rfl h
theorem cio_u {C : Cfg} {j : Nat} {xs ys : List D} {x : Val} {s : Option Slot} {rest : Env} (h : C.call j [.io xs] = .ret x (some (.io ys))) : evE C (.cio j 1 .nil) (s :: some (.own xs) :: rest) = .ok x (s :: some (.own ys) :: rest) :=
  ecio_own (xs := xs) (xs' := xs) (ds := []) (ρ' := s :: some (.own xs) :: rest) rfl rfl rfl h
section
variable {P : List Fn} {gl : Nat → Option D} {n j ji js jc jr jm jd g x : Nat}
theorem isInt_ok (hP : P[j]? = some fIsInt) (i : Int) : run P gl (n + 1) j [.v (.int i)] = .ret (.pv (.bool true)) none := by
  rw [run_succ hP, if_pos ⟨rfl, rfl⟩]
  simp [fIsInt]
theorem sized_ok (hP : P[j]? = some fSized) {ds : List D} {lo hi : Int} (h1 : lo ≤ ds.length) (h2 : ds.length ≤ hi) : run P gl (n + 1) j [.v (.tuple ds), .v (.int lo), .v (.int hi)] = .ret (.pv (.bool true)) none := by
  rw [run_succ hP, if_pos ⟨rfl, rfl⟩]
  simp [fSized, h1, h2]
theorem all_true (xs : List D) : boolsOf (xs.map fun _ => PyData.bool true) = some (xs.map fun _ => true) := by
  induction xs with
  | nil => rfl
  | cons x r ih => simp [ih]
theorem areInts_ok (hP : P[j]? = some (fAreInts ji js)) (hI : P[ji]? = some fIsInt) (hs : P[js]? = some fSized) {ns : List Int} {lo hi : Int} (h1 : lo ≤ ns.length) (h2 : ns.length ≤ hi) (hl : ns.length ≤ LIM) : run P gl (n + 2) j [.v (.tuple (ns.map .int)), .v (.int lo), .v (.int hi)] = .ret (.pv (.bool true)) none := by
  rw [run_succ hP, if_pos ⟨rfl, rfl⟩]
  have s1 := sized_ok (gl := gl) (n := n) hs (ds := ns.map .int) (lo := lo) (hi := hi) (by simpa using h1) (by simpa using h2)
  have lc : evE ⟨run P gl (n + 1), gl⟩ (.lc (.call ji (.cons (.v 3) .nil)) (.n 3) (.of (.v 0)) .yes) [some (.v (.tuple (ns.map .int))), some (.v (.int lo)), some (.v (.int hi)), none] = .ok (.fr ((ns.map PyData.int).map fun _ => .bool true)) [some (.v (.tuple (ns.map .int))), some (.v (.int lo)), some (.v (.int hi)), none] := by
    rw [e_lc]
    have e1 : evI ⟨run P gl (n + 1), gl⟩ (.of (.v 0)) [some (.v (.tuple (ns.map .int))), some (.v (.int lo)), some (.v (.int hi)), none] = .ok (ns.map .int) [some (.v (.tuple (ns.map .int))), some (.v (.int lo)), some (.v (.int hi)), none] := by simp
    rw [e1, R.bind_ok, lcGo_n (g := fun _ => .bool true) (by simp) rfl ?_]
    · simp [hl]
    · intro y hy
      obtain ⟨i, _, rfl⟩ := List.mem_map.mp hy
      simp [isInt_ok hI]
  simp only [fAreInts]
  have bo := all_true (ns.map PyData.int)
  simp [s1, lc, -List.map_map, bo]
theorem isRatio_ok (hP : P[j]? = some (fIsRatio ji js jc g)) (hi : P[ji]? = some fIsInt) (hs : P[js]? = some fSized) (hc : P[jc]? = some fCommon) (hg : gl g = some (.int 10000000000000000000000000000000000000000)) {p : Int × Int} (h1 : p.1.natAbs < 10 ^ 40) (h2 : 0 < p.2) (h3 : p.2 < 10 ^ 40) (h4 : Int.gcd p.1 p.2 = 1) : run P gl (n + 2) j [.v (pr p)] = .ret (.pv (.bool true)) none := by
  obtain ⟨p, q⟩ := p
  dsimp only at *
  rw [run_succ hP, if_pos ⟨rfl, rfl⟩]
  have lc : evE ⟨run P gl (n + 1), gl⟩ (.lc (.call ji (.cons (.v 1) .nil)) (.n 1) (.of (.v 0)) .yes) [some (.v (.tuple [.int p, .int q])), none] = .ok (.fr [.bool true, .bool true]) [some (.v (.tuple [.int p, .int q])), none] := by
    rw [e_lc]
    have e1 : evI ⟨run P gl (n + 1), gl⟩ (.of (.v 0)) [some (.v (.tuple [.int p, .int q])), none] = .ok [.int p, .int q] [some (.v (.tuple [.int p, .int q])), none] := by simp
    rw [e1, R.bind_ok, lcGo_n (g := fun _ => .bool true) (by simp) rfl (by simp [isInt_ok hi])]
    simp [lim2]
  have s1 := sized_ok (gl := gl) (n := n) hs (ds := [.int p, .int q]) (lo := 2) (hi := 2) (by simp) (by simp)
  have a1 : ¬ (10000000000000000000000000000000000000000 : Int) ≤ (p.natAbs : Int) := by omega
  have a2 : q < 10000000000000000000000000000000000000000 := by omega
  have cm := common_ok (gl := gl) (n := n) (a := p) (b := q) hc
  simp [fIsRatio, pr, s1, lc, hg, jx0, jx1, abs_nat, a1, a2, h2, cm, h4]
theorem check1_ok {d : D} (hP : P[j]? = some (fCheck1 jr x)) (h : run P gl n jr [.v d] = .ret (.pv (.bool true)) none) : run P gl (n + 1) j [.v d] = .ret (.pv .none) none := by
  rw [run_succ hP, if_pos ⟨rfl, rfl⟩]
  simp [fCheck1, h]
/-- in lowest terms, the bottom above 0 -/
def redP (t b : Int) : Int × Int := if 0 < b then (t / Int.gcd t b, b / Int.gcd t b) else (-(t / Int.gcd t b), -(b / Int.gcd t b))
theorem fdiv_neg_gcd {t g : Int} (hg : 0 < g) (hd : g ∣ t) : t.fdiv (-g) = -(t / g) := by
  obtain ⟨k, rfl⟩ := hd
  rw [Int.mul_ediv_cancel_left _ (by omega), show g * k = (-g) * (-k) by rw [Int.neg_mul_neg], Int.mul_fdiv_cancel_left _ (by omega)]
/-- the divisor that made and _law_low take -/
theorem gcd_le {t b : Int} (hb : b ≠ 0) : Int.gcd t b ≤ b.natAbs := Nat.le_of_dvd (by omega) (Int.natCast_dvd_natCast.mp (by rw [Int.dvd_natAbs]; exact Int.gcd_dvd_right ..))
theorem red_div {t b : Int} (hb : b ≠ 0) (hz : b.natAbs < 2 ^ 250) (y : Int) (hy : (Int.gcd t b : Int) ∣ y) : binD .fdiv (.int y) (.int (if 0 < b then (Int.gcd t b : Int) else 0 - (Int.gcd t b : Int))) = some (.int (if 0 < b then y / Int.gcd t b else -(y / Int.gcd t b))) := by
  have hg : 0 < Int.gcd t b := Int.gcd_pos_of_ne_zero_right _ hb
  have hle := gcd_le (t := t) hb
  by_cases h : 0 < b
  · rw [if_pos h, if_pos h]
    exact divS (by omega) (by omega)
  · rw [if_neg h, if_neg h]
    have h1 : (0 - (Int.gcd t b : Int)).natAbs < DIVB := lt_DIVB (by omega)
    show (if 0 < 0 - (Int.gcd t b : Int) ∧ (0 - (Int.gcd t b : Int)).natAbs < DIVB then some (PyData.int (y / (0 - (Int.gcd t b : Int)))) else if 0 - (Int.gcd t b : Int) < 0 ∧ (0 - (Int.gcd t b : Int)).natAbs < DIVB then some (PyData.int (y.fdiv (0 - (Int.gcd t b : Int)))) else none) = _
    rw [if_neg (by omega), if_pos ⟨by omega, h1⟩, Int.zero_sub, fdiv_neg_gcd (by omega) hy]
theorem low_ok {t b : Int} (hP : P[j]? = some fLow) (hb : b ≠ 0) (hz : b.natAbs < 2 ^ 250) : run P gl (n + 1) j [.v (.int t), .v (.int b)] = .ret (.pv (pr (redP t b))) none := by
  rw [run_succ hP, if_pos ⟨rfl, rfl⟩]
  have e := low_loop (C := ⟨run P gl n, gl⟩) (t := some (.v (.int t))) (u := some (.v (.int b))) t.natAbs t.natAbs b.natAbs (Nat.le_refl _)
  have e2 : ((t.natAbs.gcd b.natAbs : Nat) : Int) = (Int.gcd t b : Int) := rfl
  rw [e2] at e
  have d1 := red_div (t := t) hb hz t (Int.gcd_dvd_left ..)
  have d2 := red_div (t := t) hb hz b (Int.gcd_dvd_right ..)
  by_cases h : 0 < b
  · simp only [if_pos h] at d1 d2
    simp [fLow, abs_nat, e, h, d1, d2, lim2, pr, redP]
  · simp only [if_neg h, Int.zero_sub] at d1 d2
    simp [fLow, abs_nat, e, h, d1, d2, lim2, pr, redP]
theorem made_ok {t b : Int} (hP : P[j]? = some (fMade jc)) (hc : P[jc]? = some fCommon) (hb : b ≠ 0) (hz : b.natAbs < 2 ^ 250) : run P gl (n + 2) j [.v (.int t), .v (.int b)] = .ret (.pv (pr (redP t b))) none := by
  rw [run_succ hP, if_pos ⟨rfl, rfl⟩]
  have cm := common_ok (gl := gl) (n := n) (a := t) (b := b) hc
  have d1 := red_div (t := t) hb hz t (Int.gcd_dvd_left ..)
  have d2 := red_div (t := t) hb hz b (Int.gcd_dvd_right ..)
  by_cases h : 0 < b
  · simp only [if_pos h] at d1 d2
    simp [fMade, cm, h, d1, d2, lim2, pr, redP]
  · simp only [if_neg h, Int.zero_sub] at d1 d2
    simp [fMade, cm, h, d1, d2, lim2, pr, redP]
theorem plus_ok {p q : Int × Int} (hP : P[j]? = some (fPlus jm)) (hm : P[jm]? = some (fMade jc)) (hc : P[jc]? = some fCommon) (h1 : Md p.1) (h2 : Md p.2) (h3 : Md q.1) (h4 : Md q.2) (hb : p.2 * q.2 ≠ 0) (hz : (p.2 * q.2).natAbs < 2 ^ 250) : run P gl (n + 3) j [.v (pr p), .v (pr q)] = .ret (.pv (pr (redP (p.1 * q.2 + q.1 * p.2) (p.2 * q.2)))) none := by
  rw [run_succ hP, if_pos ⟨rfl, rfl⟩]
  have md := made_ok (gl := gl) (n := n) (t := p.1 * q.2 + q.1 * p.2) hm hc hb hz
  simp [fPlus, prx0, prx1, md_mul h1 h4, md_mul h3 h2, md_mul h2 h4, md]
theorem less_ok {p q : Int × Int} (hP : P[j]? = some fLess) (h1 : Md p.1) (h2 : Md p.2) (h3 : Md q.1) (h4 : Md q.2) : run P gl (n + 1) j [.v (pr p), .v (pr q)] = .ret (.pv (.bool (decide (p.1 * q.2 < q.1 * p.2)))) none := by
  rw [run_succ hP, if_pos ⟨rfl, rfl⟩]
  simp [fLess, prx0, prx1, md_mul h1 h4, md_mul h3 h2]
/-- one of the things -/
theorem some_ok {xs : List D} {m : Nat} {ds : List D} (hP : P[j]? = some (fSome jd)) (hd : P[jd]? = some fDraw) (H : HandOk m xs) (hl : 0 < ds.length) (hl2 : ds.length < 1000) (hm : m < 1000000000) : ∃ (d : D) (ys : List D), run P gl (n + 2) j [.io xs, .v (.list ds)] = .ret (.pv d) (some (.io ys)) ∧ HandOk (m + 1) ys ∧ d ∈ ds := by
  obtain ⟨r, ys, e, h, r0, r1⟩ := draw_ok (P := P) (gl := gl) (j := jd) (n := n) (many := ds.length) hd H (by omega) (by omega) hm
  have hx : ds[r.toNat]? = some (ds[r.toNat]'(by omega)) := List.getElem?_eq_getElem _
  refine ⟨ds[r.toNat]'(by omega), ys, ?_, h, List.getElem_mem _⟩
  rw [run_succ hP, if_pos ⟨rfl, rfl⟩]
  have ea : L2.atI ds r = some (ds[r.toNat]'(by omega)) := by rw [at_nat r0 r1, hx]
  generalize ds[r.toNat]'(by omega) = d at ea hx
  have ci : evE ⟨run P gl (n + 1), gl⟩ (.cio jd 0 (.cons (.b1 .len (.v 1)) .nil)) [some (.io xs), some (.v (.list ds))] = .ok (.pv (.int r)) [some (.io ys), some (.v (.list ds))] := ecio_io (xs := xs) (xs' := xs) (ds := [.int ds.length]) (ρ' := [some (.io xs), some (.v (.list ds))]) rfl (by simp) rfl e
  simp [fSome, ci, ea]
end
end Pv

namespace Pv
open PySem
/-! ### known terms and a rest: the number they make -/
def numB (jp jm : Nat) : Ss := (.cons (.asg (.n 2) (.ife (.e (.cmp .is (.v 2) (.k .none))) (.tup (.cons (.v 3) (.cons (.k (.int 1)) .nil))) (.call jp (.cons (.tup (.cons (.v 3) (.cons (.k (.int 1)) .nil))) (.cons (.call jm (.cons (.ixv 2 (.k (.int 1))) (.cons (.ixv 2 (.k (.int 0))) .nil))) .nil)))))
 .nil)
def numL (jp jm : Nat) : S := (.for_ (.n 3) (.of (.rev (.v 0))) (numB jp jm))
def fNum (jp jm : Nat) : Fn := ⟨2, 4, (.cons (.asg (.n 2) (.v 1))
 (.cons (numL jp jm)
 (.cons (.retv 2)
 .nil)))⟩
def valB (jl : Nat) : Ss := (.cons (.asg (.n 2) (.ife (.e (.cmp .is (.v 2) (.k .none))) (.tup (.cons (.v 3) (.cons (.k (.int 1)) .nil))) (.call jl (.cons (.bin .add (.bin .mul (.v 3) (.ixv 2 (.k (.int 0)))) (.ixv 2 (.k (.int 1)))) (.cons (.ixv 2 (.k (.int 0))) .nil)))))
 .nil)
def valL (jl : Nat) : S := (.for_ (.n 3) (.of (.rev (.v 0))) (valB jl))
def fVal (jl : Nat) : Fn := ⟨2, 4, (.cons (.asg (.n 2) (.v 1))
 (.cons (valL jl)
 (.cons (.retv 2)
 .nil)))⟩
def dO : Option (Int × Int) → D
  | none => .none
  | some p => pr p
def stp (t : Int) : Option (Int × Int) → Int × Int
  | none => (t, 1)
  | some p => (t * p.1 + p.2, p.1)
def valK (ts : List Int) (r : Option (Int × Int)) : Option (Int × Int) := ts.foldr (fun t h => some (stp t h)) r
/-- may be gone on from, by a term -/
def Nice (h : Option (Int × Int)) : Prop := ∀ p, h = some p → 0 < p.1 ∧ Int.gcd p.1 p.2 = 1 ∧ Md p.1 ∧ Md p.2
def okUs : List Int → Option (Int × Int) → Prop
  | [], _ => True
  | u :: us, h => Nice h ∧ Md u ∧ okUs us (some (stp u h))
theorem redP_one {t b : Int} (h : Int.gcd t b = 1) (hb : 0 < b) : redP t b = (t, b) := by
  unfold redP
  rw [if_pos hb, h]
  simp
theorem gcd_stp {t p q : Int} (h : Int.gcd p q = 1) : Int.gcd (t * p + q) p = 1 := by
  rw [Int.gcd_eq_one_iff] at h ⊢
  intro c h1 h2
  refine h c h2 ?_
  have : q = (t * p + q) - t * p := by omega
  rw [this]
  exact Int.dvd_sub h1 (Int.dvd_mul_of_dvd_right h2)
section
variable {P : List Fn} {gl : Nat → Option D} {n j jl jp jm jc : Nat}
theorem val_step {h : Option (Int × Int)} {t : Int} {a b : Option Slot} (hl : P[jl]? = some fLow) (hn : Nice h) (ht : Md t) : evSs ⟨run P gl (n + 1), gl⟩ (valB jl) [a, b, some (.v (dO h)), some (.v (.int t))] = .nx [a, b, some (.v (dO (some (stp t h)))), some (.v (.int t))] := by
  cases h with
  | none => simp [valB, dO, stp, pr, lim2]
  | some p =>
    obtain ⟨h1, h2, h3, h4⟩ := hn p rfl
    have hb : p.1.natAbs < 2 ^ 250 := by
      have h3 : p.1.natAbs < 2 ^ 120 := h3
      omega
    have lo := low_ok (gl := gl) (n := n) (t := t * p.1 + p.2) (b := p.1) hl (by omega) hb
    rw [redP_one (gcd_stp h2) h1] at lo
    simp [valB, dO, stp, pr_isn, prx0, prx1, md_mul ht h3, lo]
theorem num_step {h : Option (Int × Int)} {t : Int} {a b : Option Slot} (hp : P[jp]? = some (fPlus jm)) (hm : P[jm]? = some (fMade jc)) (hc : P[jc]? = some fCommon) (hn : Nice h) (ht : Md t) : evSs ⟨run P gl (n + 3), gl⟩ (numB jp jm) [a, b, some (.v (dO h)), some (.v (.int t))] = .nx [a, b, some (.v (dO (some (stp t h)))), some (.v (.int t))] := by
  cases h with
  | none => simp [numB, dO, stp, pr, lim2]
  | some p =>
    obtain ⟨h1, h2, h3, h4⟩ := hn p rfl
    have hb : p.1.natAbs < 2 ^ 250 := by
      have h3 : p.1.natAbs < 2 ^ 120 := h3
      omega
    have m1 := made_ok (gl := gl) (n := n + 1) (t := p.2) (b := p.1) hm hc (by omega) hb
    rw [redP_one (by rw [Int.gcd_comm]; exact h2) h1] at m1
    have m2 := plus_ok (gl := gl) (n := n) (p := (t, 1)) (q := (p.2, p.1)) hp hm hc ht (show (1 : Int).natAbs < 2 ^ 120 by decide) h4 h3 (by dsimp only; omega) (by dsimp only; omega)
    dsimp only at m2
    rw [Int.mul_one, Int.one_mul, redP_one (gcd_stp h2) h1] at m2
    have pt : PyData.tuple [.int t, .int 1] = pr (t, 1) := rfl
    simp [numB, dO, stp, pr_isn, prx0, prx1, m1, lim2, pt, m2]
def foldU (us : List Int) (h : Option (Int × Int)) : Option (Int × Int) := us.foldl (fun h t => some (stp t h)) h
theorem foldU_rev (ts : List Int) (r : Option (Int × Int)) : foldU ts.reverse r = valK ts r := by
  unfold foldU valK
  rw [List.foldl_reverse]
theorem fold_for {C : Cfg} {B : Ss} {a b : Option Slot} (step : ∀ h t, Nice h → Md t → evSs C B [a, b, some (.v (dO h)), some (.v (.int t))] = .nx [a, b, some (.v (dO (some (stp t h)))), some (.v (.int t))]) :
    ∀ (us : List Int) (h : Option (Int × Int)) (z : Option D), okUs us h → ∃ z' : Option D, forGo (fun x ρ => (putT ρ (.n 3) x).toS fun _ ρ => evSs C B ρ) (us.map PyData.int) [a, b, some (.v (dO h)), z.map Slot.v] = .nx [a, b, some (.v (dO (foldU us h))), z'.map Slot.v]
  | [], h, z, _ => ⟨z, rfl⟩
  | u :: us, h, z, ok => by
    obtain ⟨o1, o2, o3⟩ := ok
    obtain ⟨z', e⟩ := fold_for step us (some (stp u h)) (some (.int u)) o3
    refine ⟨z', ?_⟩
    rw [List.map_cons]
    unfold forGo
    have e1 : ((putT [a, b, some (.v (dO h)), z.map Slot.v] (.n 3) (.int u)).toS fun _ ρ => evSs C B ρ) = .nx [a, b, some (.v (dO (some (stp u h)))), some (.v (.int u))] := by simp [step h u o1 o2]
    rw [e1]
    exact e
theorem val_ok {ts : List Int} {r : Option (Int × Int)} (hP : P[j]? = some (fVal jl)) (hl : P[jl]? = some fLow) (ok : okUs ts.reverse r) : run P gl (n + 2) j [.v (.tuple (ts.map PyData.int)), .v (dO r)] = .ret (.pv (dO (valK ts r))) none := by
  rw [run_succ hP, if_pos ⟨rfl, rfl⟩]
  obtain ⟨z', e⟩ := fold_for (C := ⟨run P gl (n + 1), gl⟩) (B := valB jl) (a := some (.v (.tuple (ts.map PyData.int)))) (b := some (.v (dO r))) (fun h t hn ht => val_step hl hn ht) ts.reverse r none ok
  have lp : evS ⟨run P gl (n + 1), gl⟩ (valL jl) [some (.v (.tuple (ts.map PyData.int))), some (.v (dO r)), some (.v (dO r)), none] = .nx [some (.v (.tuple (ts.map PyData.int))), some (.v (dO r)), some (.v (dO (valK ts r))), z'.map Slot.v] := by
    unfold valL
    rw [s_for]
    have e1 : evI ⟨run P gl (n + 1), gl⟩ (.of (.rev (.v 0))) [some (.v (.tuple (ts.map PyData.int))), some (.v (dO r)), some (.v (dO r)), none] = .ok (ts.reverse.map PyData.int) [some (.v (.tuple (ts.map PyData.int))), some (.v (dO r)), some (.v (dO r)), none] := by simp [revD]
    rw [e1, R.toS_ok, ← foldU_rev]
    exact e
  simp [fVal, lp]
theorem num_ok {ts : List Int} {r : Option (Int × Int)} (hP : P[j]? = some (fNum jp jm)) (hp : P[jp]? = some (fPlus jm)) (hm : P[jm]? = some (fMade jc)) (hc : P[jc]? = some fCommon) (ok : okUs ts.reverse r) : run P gl (n + 4) j [.v (.tuple (ts.map PyData.int)), .v (dO r)] = .ret (.pv (dO (valK ts r))) none := by
  rw [run_succ hP, if_pos ⟨rfl, rfl⟩]
  obtain ⟨z', e⟩ := fold_for (C := ⟨run P gl (n + 3), gl⟩) (B := numB jp jm) (a := some (.v (.tuple (ts.map PyData.int)))) (b := some (.v (dO r))) (fun h t hn ht => num_step hp hm hc hn ht) ts.reverse r none ok
  have lp : evS ⟨run P gl (n + 3), gl⟩ (numL jp jm) [some (.v (.tuple (ts.map PyData.int))), some (.v (dO r)), some (.v (dO r)), none] = .nx [some (.v (.tuple (ts.map PyData.int))), some (.v (dO r)), some (.v (dO (valK ts r))), z'.map Slot.v] := by
    unfold numL
    rw [s_for]
    have e1 : evI ⟨run P gl (n + 3), gl⟩ (.of (.rev (.v 0))) [some (.v (.tuple (ts.map PyData.int))), some (.v (dO r)), some (.v (dO r)), none] = .ok (ts.reverse.map PyData.int) [some (.v (.tuple (ts.map PyData.int))), some (.v (dO r)), some (.v (dO r)), none] := by simp [revD]
    rw [e1, R.toS_ok, ← foldU_rev]
    exact e
  simp [fNum, lp]
end
end Pv

namespace Pv
open PySem
/-! ### numbers of known terms: how great, how they stand -/
def vec : Option (Int × Int) → Int × Int
  | none => (1, 0)
  | some p => p
def valV (ts : List Int) (p : Int × Int) : Int × Int := ts.foldr (fun t h => (t * h.1 + h.2, h.1)) p
theorem valK_eq : ∀ {ts : List Int} (r : Option (Int × Int)), ts ≠ [] → valK ts r = some (valV ts (vec r))
  | [], _, h => absurd rfl h
  | [t], r, _ => by
    cases r with
    | none => show some (t, 1) = some (t * 1 + 0, 1); rw [Int.mul_one, Int.add_zero]
    | some p => rfl
  | t :: u :: ts, r, _ => by
    have ih := valK_eq (ts := u :: ts) r (by simp)
    show some (stp t (valK (u :: ts) r)) = some _
    rw [ih]
    rfl
def bnd : List Int → Nat
  | [] => 1
  | t :: ts => (t.natAbs + 1) * bnd ts
def sgn : List Int → Int
  | [] => 1
  | _ :: ts => -sgn ts
theorem sgn_or : ∀ ts, sgn ts = 1 ∨ sgn ts = -1
  | [] => .inl rfl
  | _ :: ts => by
    show -sgn ts = 1 ∨ -sgn ts = -1
    rcases sgn_or ts with h | h <;> rw [h] <;> simp
/-- the cross product of two numbers of the same terms -/
theorem cross : ∀ (ts : List Int) (x y : Int × Int), (valV ts x).1 * (valV ts y).2 - (valV ts y).1 * (valV ts x).2 = sgn ts * (x.1 * y.2 - y.1 * x.2)
  | [], x, y => by show x.1 * y.2 - y.1 * x.2 = 1 * _; rw [Int.one_mul]
  | t :: ts, x, y => by
    have ih := cross ts x y
    show (t * (valV ts x).1 + (valV ts x).2) * (valV ts y).1 - (t * (valV ts y).1 + (valV ts y).2) * (valV ts x).1 = -sgn ts * (x.1 * y.2 - y.1 * x.2)
    grind
/-- above 0, in lowest terms, at most k -/
structure PosV (k : Nat) (p : Int × Int) : Prop where
  top : 0 < p.1
  bot : 0 ≤ p.2
  gcd : Int.gcd p.1 p.2 = 1
  h1 : p.1.natAbs ≤ k
  h2 : p.2.natAbs ≤ k
theorem stp_bound {t : Int} {p q : Int} {k : Nat} (h1 : p.natAbs ≤ k) (h2 : q.natAbs ≤ k) : (t * p + q).natAbs ≤ (t.natAbs + 1) * k := by
  have e1 := Int.natAbs_add_le (t * p) q
  rw [Int.natAbs_mul] at e1
  have e2 : t.natAbs * p.natAbs ≤ t.natAbs * k := Nat.mul_le_mul_left _ h1
  rw [Nat.add_mul]
  omega
theorem posV_val {k : Nat} {p : Int × Int} (h : PosV k p) : ∀ ts : List Int, (∀ t ∈ ts, 0 < t) → PosV (bnd ts * k) (valV ts p)
  | [], _ => by rw [show bnd [] = 1 from rfl, Nat.one_mul]; exact h
  | t :: ts, ht => by
    have ih := posV_val h ts fun u hu => ht u (List.mem_cons_of_mem _ hu)
    have t0 := ht t List.mem_cons_self
    have hb : bnd (t :: ts) * k = (t.natAbs + 1) * (bnd ts * k) := Nat.mul_assoc _ _ _
    have i1 := ih.top
    have i2 := ih.bot
    refine ⟨?_, ?_, gcd_stp ih.gcd, ?_, ?_⟩
    · show 0 < t * (valV ts p).1 + (valV ts p).2
      have : 0 < t * (valV ts p).1 := Int.mul_pos t0 i1
      omega
    · show 0 ≤ (valV ts p).1
      omega
    · rw [hb]; exact stp_bound ih.h1 ih.h2
    · rw [hb]
      show (valV ts p).1.natAbs ≤ _
      have := ih.h1
      exact Nat.le_trans this (Nat.le_mul_of_pos_left _ (by omega))
/-- what a rest is: none, or a ratio of at least 1 -/
def RestOk (k : Nat) (r : Option (Int × Int)) : Prop := 1 ≤ k ∧ ∀ p, r = some p → 0 < p.2 ∧ p.2 ≤ p.1 ∧ Int.gcd p.1 p.2 = 1 ∧ p.1.natAbs ≤ k
theorem RestOk.pos {k : Nat} {r : Option (Int × Int)} (h : RestOk k r) : PosV k (vec r) := by
  cases r with
  | none => exact ⟨by decide, by decide, by decide, h.1, Nat.zero_le _⟩
  | some p =>
    obtain ⟨h1, h2, h3, h4⟩ := h.2 p rfl
    exact ⟨by show 0 < p.1; omega, by show 0 ≤ p.2; omega, h3, h4, by show p.2.natAbs ≤ k; omega⟩
theorem RestOk.mono {k l : Nat} {r : Option (Int × Int)} (h : RestOk k r) (hl : k ≤ l) : RestOk l r := ⟨by have := h.1; omega, fun p e => by obtain ⟨h1, h2, h3, h4⟩ := h.2 p e; exact ⟨h1, h2, h3, by omega⟩⟩
theorem restNone {k : Nat} (h : 1 ≤ k) : RestOk k none := ⟨h, fun _ e => nomatch e⟩
theorem restOne {k : Nat} (h : 1 ≤ k) : RestOk k (some (1, 1)) := ⟨h, fun p e => by cases e; exact ⟨by decide, by decide, by decide, h⟩⟩
/-- known terms -/
structure Kn (ts : List Int) : Prop where
  ne : ts ≠ []
  len : ts.length ≤ 20
  tail : ∀ t ∈ ts.tail, 0 < t
  each : ∀ t ∈ ts, t.natAbs < 1000000
theorem okUs_snoc {u : Int} : ∀ {us : List Int} {h : Option (Int × Int)}, okUs us h → Nice (foldU us h) → Md u → okUs (us ++ [u]) h
  | [], h, _, h2, h3 => ⟨h2, h3, trivial⟩
  | v :: us, h, h1, h2, h3 => ⟨h1.1, h1.2.1, okUs_snoc (us := us) h1.2.2 h2 h3⟩
theorem bnd_pos : ∀ ts, 0 < bnd ts
  | [] => Nat.one_pos
  | t :: ts => Nat.mul_pos (by omega) (bnd_pos ts)
theorem md_small {i : Int} (h : i.natAbs < 1000000) : Md i := Nat.lt_trans h (by decide)
theorem nice_val {k : Nat} {r : Option (Int × Int)} {ts : List Int} (h : RestOk k r) (ht : ∀ t ∈ ts, 0 < t) (hb : bnd ts * k < 2 ^ 120) : Nice (valK ts r) := by
  intro p hp
  by_cases e : ts = []
  · subst e
    have hp : r = some p := hp
    obtain ⟨h1, h2, h3, h4⟩ := h.2 p hp
    have hb : 1 * k < 2 ^ 120 := hb
    refine ⟨by omega, h3, ?_, ?_⟩ <;> unfold Md <;> omega
  · rw [valK_eq r e] at hp
    cases hp
    have q := posV_val h.pos ts ht
    exact ⟨q.top, q.gcd, Nat.lt_of_le_of_lt q.h1 hb, Nat.lt_of_le_of_lt q.h2 hb⟩
theorem okUs_pos {k : Nat} {r : Option (Int × Int)} (h : RestOk k r) : ∀ (ts : List Int), (∀ t ∈ ts.tail, 0 < t) → (∀ t ∈ ts, t.natAbs < 1000000) → bnd ts * k < 2 ^ 120 → okUs ts.reverse r
  | [], _, _, _ => trivial
  | t :: ts, ht, hs, hb => by
    have hb2 : bnd ts * k < 2 ^ 120 := by
      refine Nat.lt_of_le_of_lt ?_ hb
      show bnd ts * k ≤ (t.natAbs + 1) * bnd ts * k
      rw [Nat.mul_assoc]
      exact Nat.le_mul_of_pos_left _ (by omega)
    rw [List.reverse_cons]
    refine okUs_snoc (okUs_pos h ts (fun u hu => ht u (List.mem_of_mem_tail hu)) (fun u hu => hs u (List.mem_cons_of_mem _ hu)) hb2) ?_ (md_small (hs t List.mem_cons_self))
    rw [foldU_rev]
    exact nice_val h ht hb2
theorem Kn.ok {k : Nat} {r : Option (Int × Int)} {ts : List Int} (kn : Kn ts) (h : RestOk k r) (hb : bnd ts * k < 2 ^ 120) : okUs ts.reverse r := okUs_pos h ts kn.tail kn.each hb
/-- the number: a ratio in lowest terms -/
structure RatV (k : Nat) (p : Int × Int) : Prop where
  bot : 0 < p.2
  gcd : Int.gcd p.1 p.2 = 1
  h1 : p.1.natAbs ≤ k
  h2 : p.2.natAbs ≤ k
theorem Kn.rat {k : Nat} {r : Option (Int × Int)} {ts : List Int} (kn : Kn ts) (h : RestOk k r) : RatV (bnd ts * k) (valV ts (vec r)) := by
  cases ts with
  | nil => exact absurd rfl kn.ne
  | cons t ts =>
    have q := posV_val h.pos ts kn.tail
    have hb : bnd (t :: ts) * k = (t.natAbs + 1) * (bnd ts * k) := Nat.mul_assoc _ _ _
    refine ⟨q.top, gcd_stp q.gcd, ?_, ?_⟩
    · rw [hb]; exact stp_bound q.h1 q.h2
    · rw [hb]
      exact Nat.le_trans q.h1 (Nat.le_mul_of_pos_left _ (by omega))
def lessP (p q : Int × Int) : Prop := p.1 * q.2 < q.1 * p.2
instance (p q : Int × Int) : Decidable (lessP p q) := inferInstanceAs (Decidable (_ < _))
/-- the ends, the lesser first -/
def roomV (ts : List Int) : (Int × Int) × (Int × Int) := if lessP (valV ts (1, 1)) (valV ts (1, 0)) then (valV ts (1, 1), valV ts (1, 0)) else (valV ts (1, 0), valV ts (1, 1))
theorem ends_cross (ts : List Int) : (valV ts (1, 1)).1 * (valV ts (1, 0)).2 - (valV ts (1, 0)).1 * (valV ts (1, 1)).2 = -sgn ts := by
  rw [cross]
  show sgn ts * (1 * 0 - 1 * 1) = _
  omega
theorem ends_one (ts : List Int) : lessP (valV ts (1, 0)) (valV ts (1, 1)) ↔ ¬ lessP (valV ts (1, 1)) (valV ts (1, 0)) := by
  have h := ends_cross ts
  have := sgn_or ts
  unfold lessP
  omega
/-- a number of the same terms lies in the room -/
theorem in_room (ts : List Int) {x : Int × Int} (h0 : 0 ≤ x.2) (h1 : x.2 ≤ x.1) : ¬ lessP (valV ts x) (roomV ts).1 ∧ ¬ lessP (roomV ts).2 (valV ts x) := by
  have c1 := cross ts x (1, 0)
  have c2 := cross ts x (1, 1)
  have h := ends_cross ts
  dsimp only at c1 c2
  rcases sgn_or ts with s | s
  · rw [s] at c1 c2 h
    have l : lessP (valV ts (1, 1)) (valV ts (1, 0)) := by unfold lessP; omega
    unfold roomV
    rw [if_pos l]
    unfold lessP
    dsimp only
    omega
  · rw [s] at c1 c2 h
    have l : ¬ lessP (valV ts (1, 1)) (valV ts (1, 0)) := by unfold lessP; omega
    unfold roomV
    rw [if_neg l]
    unfold lessP
    dsimp only
    omega
end Pv

namespace Pv
open PySem
/-! ### the defs over known terms -/
def fAreKnown (ja g1 g2 : Nat) : Fn := ⟨1, 2, (.cons (.ite (.or (.not (.e (.call ja (.cons (.v 0) (.cons (.k (.int 1)) (.cons (.g g1) .nil)))))) (.not (.e (.b1 .all (.lc (.cmp .lt (.b1 .abs (.v 1)) (.g g2)) (.n 1) (.of (.v 0)) .yes)))))
 (.cons (.ret (.k (.bool false)))
 .nil)
 .nil)
 (.cons (.ret (.b1 .all (.lc (.cmp .gt (.v 1) (.k (.int 0))) (.n 1) (.of (.slv 0 (.k (.int 1)) .nop)) .yes)))
 .nil))⟩
def fIsRest (jr : Nat) : Fn := ⟨1, 1, (.cons (.ret (.or (.cmp .is (.v 0) (.k .none)) (.and (.call jr (.cons (.v 0) .nil)) (.cmp .ge (.ixv 0 (.k (.int 0))) (.ixv 0 (.k (.int 1)))))))
 .nil)⟩
def fNumBy (jk jr jn x : Nat) : Fn := ⟨2, 2, (.cons (.expr (.call jk (.cons (.v 0) .nil)))
 (.cons (.ite (.not (.e (.call jr (.cons (.v 1) .nil))))
 (.cons (.raise x)
 .nil)
 .nil)
 (.cons (.ret (.call jn (.cons (.v 0) (.cons (.v 1) .nil))))
 .nil)))⟩
def fEnds (jn : Nat) : Fn := ⟨1, 1, (.cons (.ret (.tup (.cons (.call jn (.cons (.v 0) (.cons (.k .none) .nil))) (.cons (.call jn (.cons (.v 0) (.cons (.tup (.cons (.k (.int 1)) (.cons (.k (.int 1)) .nil))) .nil))) .nil))))
 .nil)⟩
def fRoomOf (je jl : Nat) : Fn := ⟨1, 3, (.cons (.asg (.t [1, 2]) (.call je (.cons (.v 0) .nil)))
 (.cons (.ret (.ife (.e (.call jl (.cons (.v 2) (.cons (.v 1) .nil)))) (.tup (.cons (.v 2) (.cons (.v 1) .nil))) (.tup (.cons (.v 1) (.cons (.v 2) .nil)))))
 .nil))⟩
def fLawRoom (jv jl : Nat) : Fn := ⟨1, 3, (.cons (.par [1, 2] (.cons (.call jv (.cons (.v 0) (.cons (.k .none) .nil))) (.cons (.call jv (.cons (.v 0) (.cons (.tup (.cons (.k (.int 1)) (.cons (.k (.int 1)) .nil))) .nil))) .nil)))
 (.cons (.ret (.ife (.e (.call jl (.cons (.v 1) (.cons (.v 2) .nil)))) (.tup (.cons (.v 1) (.cons (.v 2) .nil))) (.tup (.cons (.v 2) (.cons (.v 1) .nil)))))
 .nil))⟩
def knB (js : Nat) : Ss := (.cons (.app 1 (.bin .add (.k (.int 1)) (.cio js 0 (.cons (.lst (.cons (.k (.int 0)) (.cons (.k (.int 0)) (.cons (.k (.int 1)) (.cons (.k (.int 2)) (.cons (.k (.int 3)) (.cons (.k (.int 9)) (.cons (.k (.int 100)) .nil)))))))) .nil))))
 .nil)
def knL (jd js : Nat) : S := (.for_ (.n 2) (.rng (.cons (.cio jd 0 (.cons (.k (.int 5)) .nil)) .nil)) (knB js))
def fLawKnown (jd js : Nat) : Fn := ⟨1, 3, (.cons (.asg (.n 1) (.lst (.cons (.bin .sub (.cio jd 0 (.cons (.k (.int 12)) .nil)) (.k (.int 4))) .nil)))
 (.cons (knL jd js)
 (.cons (.ret (.b1 .tuple (.v 1)))
 .nil)))⟩
def fLawRest (jd jl : Nat) : Fn := ⟨1, 2, (.cons (.ite (.e (.cmp .eq (.cio jd 0 (.cons (.k (.int 4)) .nil)) (.k (.int 0))))
 (.cons (.ret (.k .none))
 .nil)
 .nil)
 (.cons (.asg (.n 1) (.bin .add (.k (.int 1)) (.cio jd 0 (.cons (.k (.int 9)) .nil))))
 (.cons (.ret (.call jl (.cons (.bin .add (.v 1) (.cio jd 0 (.cons (.k (.int 30)) .nil))) (.cons (.v 1) .nil))))
 .nil)))⟩
abbrev tuI (ts : List Int) : D := .tuple (ts.map PyData.int)
theorem cut_tail (xs : List D) : cut xs (some 1) none = xs.tail := by
  unfold cut
  rw [HT.sIx_none, show (1 : Int) = ((1 : Nat) : Int) from rfl, HT.sIx_nat]
  cases xs with
  | nil => rfl
  | cons x xs =>
    have : min 1 (x :: xs).length = 1 := by simp
    rw [this]
    simp
section
variable {P : List Fn} {gl : Nat → Option D} {n j ji js jc jr jm jd jp ja jk jn je jl jv jf g g1 g2 x : Nat}
theorem replT (xs : List D) : xs.map (fun _ => PyData.bool true) = List.replicate xs.length (.bool true) := by
  induction xs with
  | nil => rfl
  | cons x r ih => rw [List.map_cons, ih]; rfl
@[simp high] theorem allR (k : Nat) : bltD .all [.list (List.replicate k (.bool true))] = some (.bool true) := by
  have e : boolsOf (List.replicate k (.bool true)) = some (List.replicate k true) := by
    induction k with
    | zero => rfl
    | succ k ih => simp [List.replicate_succ, ih]
  rw [bl_all, e]
  simp
/-- a comprehension over ints, each told true -/
theorem lc_ints {C : Cfg} {e : E} {i : Nat} {it : It} {ρ : Env} {ns : List Int} (hi : i < ρ.length) (hp : plainAt ρ [i] = true) (hit : evI C it ρ = .ok (ns.map PyData.int) ρ) (hl : ns.length ≤ LIM)
    (he : ∀ k ∈ ns, evE C e (ρ.set i (some (.v (.int k)))) = .ok (.pv (.bool true)) (ρ.set i (some (.v (.int k))))) : evE C (.lc e (.n i) it .yes) ρ = .ok (.fr (List.replicate ns.length (.bool true))) ρ := by
  rw [e_lc, hit, R.bind_ok, lcGo_n (g := fun _ => .bool true) hi hp ?_, replT]
  · simp [hl]
  · intro y hy
    obtain ⟨k, hk, rfl⟩ := List.mem_map.mp hy
    simp [he k hk]
theorem areKnown_ok {ts : List Int} (hP : P[j]? = some (fAreKnown ja g1 g2)) (hA : P[ja]? = some (fAreInts ji js)) (hI : P[ji]? = some fIsInt) (hS : P[js]? = some fSized) (hg1 : gl g1 = some (.int 20)) (hg2 : gl g2 = some (.int 1000000000000)) (kn : Kn ts) : run P gl (n + 3) j [.v (tuI ts)] = .ret (.pv (.bool true)) none := by
  rw [run_succ hP, if_pos ⟨rfl, rfl⟩]
  have hl : ts.length ≤ LIM := Nat.le_trans kn.len (by decide)
  have hpos : 0 < ts.length := List.length_pos_iff.mpr kn.ne
  have a1 := areInts_ok (gl := gl) (n := n) hA hI hS (ns := ts) (lo := 1) (hi := 20) (by omega) (by have := kn.len; omega) hl
  have l1 : evE ⟨run P gl (n + 2), gl⟩ (.lc (.cmp .lt (.b1 .abs (.v 1)) (.g g2)) (.n 1) (.of (.v 0)) .yes) [some (.v (tuI ts)), none] = .ok (.fr (List.replicate ts.length (.bool true))) [some (.v (tuI ts)), none] := by
    refine lc_ints (by simp) rfl (by simp) hl fun k hk => ?_
    have := kn.each k hk
    simp [hg2, abs_nat]
    omega
  have l2 : evE ⟨run P gl (n + 2), gl⟩ (.lc (.cmp .gt (.v 1) (.k (.int 0))) (.n 1) (.of (.slv 0 (.k (.int 1)) .nop)) .yes) [some (.v (tuI ts)), none] = .ok (.fr (List.replicate ts.tail.length (.bool true))) [some (.v (tuI ts)), none] := by
    refine lc_ints (by simp) rfl (by simp [partR, partO, isNop, slD, cut_tail, List.map_tail]) (by rw [List.length_tail]; omega) fun k hk => ?_
    have := kn.tail k hk
    simp [this]
  rw [List.length_tail] at l2
  simp [fAreKnown, hg1, a1, l1, l2]
theorem isRest_ok {k : Nat} {r : Option (Int × Int)} (hP : P[j]? = some (fIsRest jr)) (hr : P[jr]? = some (fIsRatio ji js jc g)) (hI : P[ji]? = some fIsInt) (hS : P[js]? = some fSized) (hc : P[jc]? = some fCommon) (hg : gl g = some (.int 10000000000000000000000000000000000000000)) (h : RestOk k r) (hk : k < 10 ^ 40) : run P gl (n + 3) j [.v (dO r)] = .ret (.pv (.bool true)) none := by
  rw [run_succ hP, if_pos ⟨rfl, rfl⟩]
  cases r with
  | none => simp [fIsRest, dO]
  | some p =>
    obtain ⟨h1, h2, h3, h4⟩ := h.2 p rfl
    have ra := isRatio_ok (gl := gl) (n := n) hr hI hS hc hg (p := p) (by omega) h1 (by omega) h3
    simp [fIsRest, dO, pr_isn, ra, prx0, prx1, h2]
theorem numBy_ok {k : Nat} {ts : List Int} {r : Option (Int × Int)} (hP : P[j]? = some (fNumBy jf jr jn x)) (hk : run P gl (n + 4) jf [.v (tuI ts)] = .ret (.pv .none) none) (hr : run P gl (n + 4) jr [.v (dO r)] = .ret (.pv (.bool true)) none) (hn : run P gl (n + 4) jn [.v (tuI ts), .v (dO r)] = .ret (.pv (dO (valK ts r))) none) : run P gl (n + 5) j [.v (tuI ts), .v (dO r)] = .ret (.pv (dO (valK ts r))) none := by
  rw [run_succ hP, if_pos ⟨rfl, rfl⟩]
  simp [fNumBy, hk, hr, hn]
theorem pr11 : PyData.tuple [.int 1, .int 1] = dO (some (1, 1)) := rfl
theorem none_dO : PyData.none = dO none := rfl
/-- what both rooms lean on -/
structure Small (p : Int × Int) : Prop where
  h1 : Md p.1
  h2 : Md p.2
theorem RatV.small {k : Nat} {p : Int × Int} (h : RatV k p) (hk : k < 2 ^ 120) : Small p := ⟨Nat.lt_of_le_of_lt h.h1 hk, Nat.lt_of_le_of_lt h.h2 hk⟩
theorem roomOf_ok {ts : List Int} (hP : P[j]? = some (fRoomOf je jl)) (hE : P[je]? = some (fEnds jn)) (hl : P[jl]? = some fLess) (hN : P[jn]? = some (fNum jp jm)) (hp : P[jp]? = some (fPlus jm)) (hm : P[jm]? = some (fMade jc)) (hc : P[jc]? = some fCommon) (kn : Kn ts) (hb : bnd ts < 2 ^ 120) : run P gl (n + 6) j [.v (tuI ts)] = .ret (.pv (.tuple [pr (roomV ts).1, pr (roomV ts).2])) none := by
  rw [run_succ hP, if_pos ⟨rfl, rfl⟩]
  have hb1 : bnd ts * 1 < 2 ^ 120 := by omega
  have n1 := num_ok (gl := gl) (n := n) hN hp hm hc (kn.ok (restNone (Nat.le_refl 1)) hb1)
  have n2 := num_ok (gl := gl) (n := n) hN hp hm hc (kn.ok (restOne (Nat.le_refl 1)) hb1)
  rw [valK_eq _ kn.ne] at n1 n2
  have n1 : run P gl _ _ [.v (tuI ts), .v .none] = .ret (.pv (pr (valV ts (1, 0)))) none := n1
  have n2 : run P gl _ _ [.v (tuI ts), .v (.tuple [.int 1, .int 1])] = .ret (.pv (pr (valV ts (1, 1)))) none := n2
  have s1 := (kn.rat (restNone (Nat.le_refl 1))).small hb1
  have s2 := (kn.rat (restOne (Nat.le_refl 1))).small hb1
  have en : run P gl (n + 5) je [.v (tuI ts)] = .ret (.pv (.tuple [pr (valV ts (1, 0)), pr (valV ts (1, 1))])) none := by
    rw [run_succ hE, if_pos ⟨rfl, rfl⟩]
    simp [fEnds, n1, n2, lim2]
  have le := less_ok (gl := gl) (n := n + 4) (p := valV ts (1, 1)) (q := valV ts (1, 0)) hl s2.h1 s2.h2 s1.h1 s1.h2
  by_cases h : lessP (valV ts (1, 1)) (valV ts (1, 0))
  · unfold roomV
    rw [if_pos h]
    have h : (valV ts (1, 1)).1 * (valV ts (1, 0)).2 < (valV ts (1, 0)).1 * (valV ts (1, 1)).2 := h
    simp only [h, decide_true] at le
    simp [fRoomOf, en, le, lim2]
  · unfold roomV
    rw [if_neg h]
    have h : ¬ (valV ts (1, 1)).1 * (valV ts (1, 0)).2 < (valV ts (1, 0)).1 * (valV ts (1, 1)).2 := h
    simp only [h, decide_false] at le
    simp [fRoomOf, en, le, lim2]
theorem lawRoom_ok {ts : List Int} {jw : Nat} (hP : P[j]? = some (fLawRoom jv jl)) (hl : P[jl]? = some fLess) (hV : P[jv]? = some (fVal jw)) (hw : P[jw]? = some fLow) (kn : Kn ts) (hb : bnd ts < 2 ^ 120) : run P gl (n + 3) j [.v (tuI ts)] = .ret (.pv (.tuple [pr (roomV ts).1, pr (roomV ts).2])) none := by
  rw [run_succ hP, if_pos ⟨rfl, rfl⟩]
  have hb1 : bnd ts * 1 < 2 ^ 120 := by omega
  have n1 := val_ok (gl := gl) (n := n) hV hw (kn.ok (restNone (Nat.le_refl 1)) hb1)
  have n2 := val_ok (gl := gl) (n := n) hV hw (kn.ok (restOne (Nat.le_refl 1)) hb1)
  rw [valK_eq _ kn.ne] at n1 n2
  have n1 : run P gl _ _ [.v (tuI ts), .v .none] = .ret (.pv (pr (valV ts (1, 0)))) none := n1
  have n2 : run P gl _ _ [.v (tuI ts), .v (.tuple [.int 1, .int 1])] = .ret (.pv (pr (valV ts (1, 1)))) none := n2
  have s1 := (kn.rat (restNone (Nat.le_refl 1))).small hb1
  have s2 := (kn.rat (restOne (Nat.le_refl 1))).small hb1
  have le := less_ok (gl := gl) (n := n + 1) (p := valV ts (1, 0)) (q := valV ts (1, 1)) hl s1.h1 s1.h2 s2.h1 s2.h2
  have one := ends_one ts
  by_cases h : lessP (valV ts (1, 1)) (valV ts (1, 0))
  · unfold roomV
    rw [if_pos h]
    have h : ¬ (valV ts (1, 0)).1 * (valV ts (1, 1)).2 < (valV ts (1, 1)).1 * (valV ts (1, 0)).2 := fun z => one.mp z h
    simp only [h, decide_false] at le
    simp [fLawRoom, n1, n2, le, lim2]
  · unfold roomV
    rw [if_neg h]
    have h : (valV ts (1, 0)).1 * (valV ts (1, 1)).2 < (valV ts (1, 1)).1 * (valV ts (1, 0)).2 := one.mpr h
    simp only [h, decide_true] at le
    simp [fLawRoom, n1, n2, le, lim2]
end
end Pv

namespace Pv
open PySem
/-! ### drawn known terms, drawn rests -/
theorem addX_own {ρ : Env} {i : Nat} {xs : List D} {d : D} (h : ρ[i]? = some (some (.own xs))) (hl : xs.length < LIM) : addX ρ i d = .nx (ρ.set i (some (.own (xs ++ [d])))) := by
  unfold addX
  rw [h]
  exact if_pos hl
theorem bnd_le {T : Nat} : ∀ {ts : List Int}, (∀ t ∈ ts, t.natAbs ≤ T) → bnd ts ≤ (T + 1) ^ ts.length
  | [], _ => Nat.le_refl _
  | t :: ts, h => by
    have ih := bnd_le (ts := ts) fun u hu => h u (List.mem_cons_of_mem _ hu)
    have h0 := h t List.mem_cons_self
    show (t.natAbs + 1) * bnd ts ≤ (T + 1) ^ (ts.length + 1)
    rw [Nat.pow_succ, Nat.mul_comm]
    exact Nat.mul_le_mul ih (by omega)
theorem redP_pos {t b : Int} (hb : 0 < b) : redP t b = (t / Int.gcd t b, b / Int.gcd t b) := if_pos hb
theorem redP_rat {t b : Int} {k : Nat} (hb : 0 < b) (h1 : t.natAbs ≤ k) (h2 : b.natAbs ≤ k) : RatV k (redP t b) := by
  have g : 0 < Int.gcd t b := Int.gcd_pos_of_ne_zero_right _ (by omega)
  rw [redP_pos hb]
  exact ⟨Int.ediv_pos_of_pos_of_dvd (by omega) (by omega) (Int.gcd_dvd_right ..), Int.gcd_ediv_gcd_ediv_gcd g, Nat.le_trans (Int.natAbs_ediv_le_natAbs _ _) h1, Nat.le_trans (Int.natAbs_ediv_le_natAbs _ _) h2⟩
def seven : List D := [.int 0, .int 0, .int 1, .int 2, .int 3, .int 9, .int 100]
theorem of_seven {d : D} (h : d ∈ seven) : ∃ k : Int, d = .int k ∧ 0 ≤ k ∧ k ≤ 100 := by
  unfold seven at h
  simp only [List.mem_cons, List.not_mem_nil, or_false] at h
  rcases h with rfl | rfl | rfl | rfl | rfl | rfl | rfl <;> exact ⟨_, rfl, by decide, by decide⟩
/-- drawn known terms -/
structure KnD (ts : List Int) : Prop where
  kn : Kn ts
  len : ts.length ≤ 5
  each : ∀ t ∈ ts, t.natAbs ≤ 101
theorem KnD.bnd {ts : List Int} (h : KnD ts) : bnd ts ≤ 102 ^ 5 := Nat.le_trans (bnd_le h.each) (Nat.pow_le_pow_right (by decide) h.len)
section
variable {P : List Fn} {gl : Nat → Option D} {n j jd js jl : Nat}
theorem lawKnown_ok {xs : List D} {c : Nat} (hP : P[j]? = some (fLawKnown jd js)) (hd : P[jd]? = some fDraw) (hs : P[js]? = some (fSome jd)) (H : HandOk c xs) (hc : c < 1000000) : ∃ (ts : List Int) (ys : List D), run P gl (n + 3) j [.io xs] = .ret (.pv (tuI ts)) (some (.io ys)) ∧ HandOk (c + 10) ys ∧ KnD ts := by
  obtain ⟨r1, x1, e1, H1, a1, a2⟩ := draw_ok (P := P) (gl := gl) (j := jd) (n := n + 1) (many := 12) hd H (by decide) (by decide) (by omega)
  obtain ⟨r2, x2, e2, H2, b1, b2⟩ := draw_ok (P := P) (gl := gl) (j := jd) (n := n + 1) (many := 5) hd H1 (by decide) (by decide) (by omega)
  obtain ⟨q, rq⟩ : ∃ q : Nat, r2 = q := ⟨r2.natAbs, by omega⟩
  subst rq
  have c1 := fun rest => cio_k0 (C := ⟨run P gl (n + 2), gl⟩) (j := jd) (k := 12) (rest := rest) e1
  have c2 := fun rest => cio_k0 (C := ⟨run P gl (n + 2), gl⟩) (j := jd) (k := 5) (rest := rest) e2
  have lp : ∃ (ys : List D) (us : List Int) (z : Option D), evS ⟨run P gl (n + 2), gl⟩ (knL jd js) [some (.io x1), some (.own [.int (r1 - 4)]), none] = .nx [some (.io ys), some (.own (((r1 - 4) :: us).map PyData.int)), z.map Slot.v] ∧ HandOk (c + 2 + q) ys ∧ us.length = q ∧ ∀ u ∈ us, 0 < u ∧ u ≤ 101 := by
    unfold knL
    rw [s_for]
    have e3 : evI ⟨run P gl (n + 2), gl⟩ (.rng (.cons (.cio jd 0 (.cons (.k (.int 5)) .nil)) .nil)) [some (.io x1), some (.own [.int (r1 - 4)]), none] = .ok (rangeD 0 q 1) [some (.io x2), some (.own [.int (r1 - 4)]), none] :=
      i_rngA (ds := [.int (q : Int)]) (by simp [c2]) (rngOfA (k := (q : Int)) (by omega))
    rw [e3, R.toS_ok]
    obtain ⟨ρ', f1, ys, us, z, f2, f3, f4, f5⟩ := forGo_inv (f := fun x ρ => (putT ρ (.n 2) x).toS fun _ ρ => evSs ⟨run P gl (n + 2), gl⟩ (knB js) ρ) (ds := rangeD 0 q 1) (ρ := [some (.io x2), some (.own [.int (r1 - 4)]), none])
      (fun i ρ => ∃ (ys : List D) (us : List Int) (z : Option D), ρ = [some (.io ys), some (.own (((r1 - 4) :: us).map PyData.int)), z.map Slot.v] ∧ HandOk (c + 2 + i) ys ∧ us.length = i ∧ ∀ u ∈ us, 0 < u ∧ u ≤ 101) ⟨x2, [], none, rfl, H2, rfl, fun u hu => nomatch hu⟩ (by
        rintro i d ρ hd' ⟨ys, us, z, rfl, G1, G2, G3⟩
        have hi : i < q := by
          have := (List.getElem?_eq_some_iff.mp hd').1
          rwa [rangeD_len] at this
        obtain ⟨d2, ws, k1, k2, k3⟩ := some_ok (gl := gl) (n := n) (ds := seven) hs hd G1 (by decide) (by decide) (by omega)
        obtain ⟨k, rfl, k4, k5⟩ := of_seven k3
        refine ⟨_, ?_, ws, us ++ [1 + k], some d, rfl, k2, by simp [G2], fun u hu => ?_⟩
        · have ev : ∀ (f : List D), evE ⟨run P gl (n + 2), gl⟩ (.cio js 0 (.cons (.lst (.cons (.k (.int 0)) (.cons (.k (.int 0)) (.cons (.k (.int 1)) (.cons (.k (.int 2)) (.cons (.k (.int 3)) (.cons (.k (.int 9)) (.cons (.k (.int 100)) .nil)))))))) .nil)) [some (.io ys), some (.own f), some (.v d)] = .ok (.pv (.int k)) [some (.io ws), some (.own f), some (.v d)] := fun f =>
            ecio_io (xs := ys) (xs' := ys) (ds := [.list seven]) (ρ' := [some (.io ys), some (.own f), some (.v d)]) rfl (by
              have : (7 : Nat) ≤ LIM := by decide
              simp [this, seven]) rfl k1
          have ad : ∀ y : D, addX [some (.io ws), some (.own (PyData.int (r1 - 4) :: us.map PyData.int)), some (.v d)] 1 y = .nx [some (.io ws), some (.own ((PyData.int (r1 - 4) :: us.map PyData.int) ++ [y])), some (.v d)] := fun y => addX_own rfl (by
            have : LIM = 1000000 := rfl
            simp
            omega)
          simp [knB, ev, ad]
        · rcases List.mem_append.mp hu with hu | hu
          · exact G3 u hu
          · have : u = 1 + k := by simpa using hu
            omega)
    rw [rangeD_len] at f3 f4
    exact ⟨ys, us, z, by rw [f1, f2], f3, f4, f5⟩
  obtain ⟨ys, us, z, f1, f2, f3, f4⟩ := lp
  refine ⟨(r1 - 4) :: us, ys, ?_, f2.mono (by omega), ⟨⟨by simp, by simp; omega, fun t ht => (f4 t ht).1, ?_⟩, by simp; omega, ?_⟩⟩
  · rw [run_succ hP, if_pos ⟨rfl, rfl⟩]
    have h1 : (1 : Nat) ≤ LIM := by decide
    simp at f1
    simp [fLawKnown, c1, h1, f1]
  · intro t ht
    rcases List.mem_cons.mp ht with rfl | ht
    · omega
    · have := f4 t ht
      omega
  · intro t ht
    rcases List.mem_cons.mp ht with rfl | ht
    · omega
    · have := f4 t ht
      omega
theorem lawRest_ok {xs : List D} {c : Nat} (hP : P[j]? = some (fLawRest jd jl)) (hd : P[jd]? = some fDraw) (hl : P[jl]? = some fLow) (H : HandOk c xs) (hc : c < 1000000) : ∃ (r : Option (Int × Int)) (ys : List D), run P gl (n + 2) j [.io xs] = .ret (.pv (dO r)) (some (.io ys)) ∧ HandOk (c + 3) ys ∧ RestOk 40 r := by
  obtain ⟨r1, x1, e1, H1, a1, a2⟩ := draw_ok (P := P) (gl := gl) (j := jd) (n := n) (many := 4) hd H (by decide) (by decide) (by omega)
  obtain ⟨r2, x2, e2, H2, b1, b2⟩ := draw_ok (P := P) (gl := gl) (j := jd) (n := n) (many := 9) hd H1 (by decide) (by decide) (by omega)
  obtain ⟨r3, x3, e3, H3, d1, d2⟩ := draw_ok (P := P) (gl := gl) (j := jd) (n := n) (many := 30) hd H2 (by decide) (by decide) (by omega)
  have c1 := fun rest => cio_k0 (C := ⟨run P gl (n + 1), gl⟩) (j := jd) (k := 4) (rest := rest) e1
  have c2 := fun rest => cio_k0 (C := ⟨run P gl (n + 1), gl⟩) (j := jd) (k := 9) (rest := rest) e2
  have c3 := fun rest => cio_k0 (C := ⟨run P gl (n + 1), gl⟩) (j := jd) (k := 30) (rest := rest) e3
  by_cases h : r1 = 0
  · refine ⟨none, x1, ?_, H1.mono (by omega), restNone (by decide)⟩
    rw [run_succ hP, if_pos ⟨rfl, rfl⟩]
    subst h
    simp [fLawRest, c1, dO]
  · have lo := low_ok (gl := gl) (n := n) (t := 1 + r2 + r3) (b := 1 + r2) hl (by omega) (by omega)
    have ra := redP_rat (t := 1 + r2 + r3) (b := 1 + r2) (k := 40) (by omega) (by omega) (by omega)
    refine ⟨some (redP (1 + r2 + r3) (1 + r2)), x3, ?_, H3, ⟨by decide, fun p hp => ?_⟩⟩
    · rw [run_succ hP, if_pos ⟨rfl, rfl⟩]
      simp [fLawRest, c1, h, c2, c3, lo, dO]
    · cases hp
      refine ⟨ra.bot, ?_, ra.gcd, ra.h1⟩
      rw [redP_pos (by omega)]
      exact Int.ediv_le_ediv (by have : 0 < Int.gcd (1 + r2 + r3) (1 + r2) := Int.gcd_pos_of_ne_zero_right _ (by omega)
                                 omega) (by omega)
end
end Pv

namespace Pv
open PySem
/-! ### maps of ratios: the plain side -/
structure M4 where
  a : Int
  b : Int
  c : Int
  d : Int
def t4 (m : M4) : D := .tuple [.int m.a, .int m.b, .int m.c, .int m.d]
def M4.top (m : M4) (x : Int × Int) : Int := m.a * x.1 + m.b * x.2
def M4.bot (m : M4) (x : Int × Int) : Int := m.c * x.1 + m.d * x.2
def M4.det (m : M4) : Int := m.a * m.d - m.b * m.c
def mapO (m : M4) (x : Int × Int) : Option (Int × Int) := if m.bot x = 0 then none else some (redP (m.top x) (m.bot x))
def poleR (m : M4) : Int × Int := redP (0 - m.d) m.c
def overO (m : M4) (lo hi : Int × Int) : Option (Int × Int) := if m.c = 0 then none else if lessP (poleR m) lo ∨ lessP hi (poleR m) then none else some (poleR m)
theorem red_mul {t b : Int} (hb : b ≠ 0) : ∃ s g : Int, 0 < g ∧ (s = 1 ∨ s = -1) ∧ 0 < s * b ∧ t = s * g * (redP t b).1 ∧ b = s * g * (redP t b).2 ∧ 0 < (redP t b).2 := by
  have hg : 0 < Int.gcd t b := Int.gcd_pos_of_ne_zero_right _ hb
  obtain ⟨g, eg⟩ : ∃ g : Int, g = Int.gcd t b := ⟨_, rfl⟩
  have e1 : g * (t / g) = t := by rw [eg]; exact Int.mul_ediv_cancel' (Int.gcd_dvd_left ..)
  have e2 : g * (b / g) = b := by rw [eg]; exact Int.mul_ediv_cancel' (Int.gcd_dvd_right ..)
  have g0 : 0 < g := by omega
  unfold redP
  rw [← eg]
  by_cases h : 0 < b
  · rw [if_pos h]
    refine ⟨1, g, g0, .inl rfl, by omega, by dsimp only; rw [Int.one_mul, e1], by dsimp only; rw [Int.one_mul, e2], ?_⟩
    show 0 < b / g
    refine Int.pos_of_mul_pos_left ?_ g0
    rw [Int.mul_comm, e2]
    exact h
  · rw [if_neg h]
    refine ⟨-1, g, g0, .inr rfl, by omega, ?_, ?_, ?_⟩
    · show t = -1 * g * -(t / g)
      rw [show (-1 : Int) * g * -(t / g) = g * (t / g) by grind, e1]
    · show b = -1 * g * -(b / g)
      rw [show (-1 : Int) * g * -(b / g) = g * (b / g) by grind, e2]
    · show 0 < -(b / g)
      have : 0 < g * -(b / g) := by rw [Int.mul_neg, e2]; omega
      exact Int.pos_of_mul_pos_left (by rw [Int.mul_comm]; exact this) g0
/-- both bottoms of one sign: less is told by the cross product -/
theorem red_less {t b t' b' s : Int} (hs : s = 1 ∨ s = -1) (h : 0 < s * b) (h' : 0 < s * b') : lessP (redP t b) (redP t' b') ↔ t * b' < t' * b := by
  obtain ⟨s1, g1, p1, q1, r1, e1, f1, _⟩ := red_mul (t := t) (b := b) (by intro z; rw [z] at h; omega)
  obtain ⟨s2, g2, p2, q2, r2, e2, f2, _⟩ := red_mul (t := t') (b := b') (by intro z; rw [z] at h'; omega)
  have a1 : s1 = s := by rcases hs with rfl | rfl <;> rcases q1 with rfl | rfl <;> omega
  have a2 : s2 = s := by rcases hs with rfl | rfl <;> rcases q2 with rfl | rfl <;> omega
  subst a1
  subst a2
  generalize redP t b = x at *
  generalize redP t' b' = y at *
  have ss : s2 * s2 = 1 := by rcases hs with rfl | rfl <;> rfl
  have gg : 0 < g1 * g2 := Int.mul_pos p1 p2
  have m1 : t * b' = (g1 * g2) * (x.1 * y.2) := by rw [e1, f2]; grind
  have m2 : t' * b = (g1 * g2) * (y.1 * x.2) := by rw [e2, f1]; grind
  unfold lessP
  rw [m1, m2]
  constructor
  · exact fun z => Int.mul_lt_mul_of_pos_left z gg
  · exact fun z => Int.lt_of_mul_lt_mul_left z (Int.le_of_lt gg)
theorem less_trans {x y z : Int × Int} (hx : 0 < x.2) (hy : 0 < y.2) (hz : 0 < z.2) (h1 : lessP x y) (h2 : ¬ lessP z y) : lessP x z := by
  unfold lessP at *
  have a1 : x.1 * y.2 * z.2 < y.1 * x.2 * z.2 := Int.mul_lt_mul_of_pos_right h1 hz
  have a2 : y.1 * z.2 * x.2 ≤ z.1 * y.2 * x.2 := Int.mul_le_mul_of_nonneg_right (by omega) (by omega)
  have a3 : y.2 * (x.1 * z.2) < y.2 * (z.1 * x.2) := by
    have b1 : y.2 * (x.1 * z.2) = x.1 * y.2 * z.2 := by grind
    have b2 : y.2 * (z.1 * x.2) = z.1 * y.2 * x.2 := by grind
    have b3 : y.1 * x.2 * z.2 = y.1 * z.2 * x.2 := by grind
    omega
  exact Int.lt_of_mul_lt_mul_left a3 (Int.le_of_lt hy)
theorem less_trans' {x y z : Int × Int} (hx : 0 < x.2) (hy : 0 < y.2) (hz : 0 < z.2) (h1 : ¬ lessP y x) (h2 : lessP y z) : lessP x z := by
  unfold lessP at *
  have a1 : y.1 * z.2 * x.2 < z.1 * y.2 * x.2 := Int.mul_lt_mul_of_pos_right h2 hx
  have a2 : x.1 * y.2 * z.2 ≤ y.1 * x.2 * z.2 := Int.mul_le_mul_of_nonneg_right (by omega) (by omega)
  have a3 : y.2 * (x.1 * z.2) < y.2 * (z.1 * x.2) := by
    have b1 : y.2 * (x.1 * z.2) = x.1 * y.2 * z.2 := by grind
    have b2 : y.2 * (z.1 * x.2) = z.1 * y.2 * x.2 := by grind
    have b3 : y.1 * x.2 * z.2 = y.1 * z.2 * x.2 := by grind
    omega
  exact Int.lt_of_mul_lt_mul_left a3 (Int.le_of_lt hy)
/-- no pole between lo and hi: one sign all over -/
theorem one_sign {m : M4} {lo hi : Int × Int} (hm : m.c ≠ 0 ∨ m.d ≠ 0) (hlo : 0 < lo.2) (hhi : 0 < hi.2) (h : overO m lo hi = none) :
    ∃ s : Int, (s = 1 ∨ s = -1) ∧ ∀ y : Int × Int, 0 < y.2 → ¬ lessP y lo → ¬ lessP hi y → 0 < s * m.bot y := by
  have sg : ∀ z : Int, z ≠ 0 → ∃ s : Int, (s = 1 ∨ s = -1) ∧ 0 < s * z := fun z hz => by
    by_cases h : 0 < z
    · exact ⟨1, .inl rfl, by omega⟩
    · exact ⟨-1, .inr rfl, by omega⟩
  unfold overO at h
  by_cases hc : m.c = 0
  · have hd : m.d ≠ 0 := hm.resolve_left fun z => z hc
    obtain ⟨s, s1, s2⟩ := sg _ hd
    refine ⟨s, s1, fun y y0 _ _ => ?_⟩
    unfold M4.bot
    rw [hc, Int.zero_mul, Int.zero_add, ← Int.mul_assoc]
    exact Int.mul_pos s2 y0
  · rw [if_neg hc] at h
    split at h
    · rename_i hp
      obtain ⟨s1, g1, p1, q1, r1, e1, f1, z1⟩ := red_mul (t := 0 - m.d) (b := m.c) hc
      have z1 : 0 < (poleR m).2 := z1
      have rel : (poleR m).1 * m.c = -m.d * (poleR m).2 := by
        have a1 : (poleR m).1 * m.c = s1 * g1 * (redP (0 - m.d) m.c).1 * (poleR m).2 := by
          conv => lhs; rw [f1]
          unfold poleR
          grind
        rw [a1, ← e1]
        grind
      have key : ∀ y : Int × Int, (poleR m).2 * m.bot y = m.c * (y.1 * (poleR m).2 - (poleR m).1 * y.2) := fun y => by
        unfold M4.bot
        generalize (poleR m).1 = u at *
        generalize (poleR m).2 = v at *
        grind
      obtain ⟨s, s2, s3⟩ := sg _ hc
      rcases hp with hp | hp
      · refine ⟨s, s2, fun y y0 y1 _ => ?_⟩
        have l := less_trans (x := poleR m) (y := lo) (z := y) z1 hlo y0 hp y1
        have l2 : 0 < y.1 * (poleR m).2 - (poleR m).1 * y.2 := by unfold lessP at l; omega
        have : 0 < (poleR m).2 * (s * m.bot y) := by
          have e : (poleR m).2 * (s * m.bot y) = (s * m.c) * (y.1 * (poleR m).2 - (poleR m).1 * y.2) := by
            have := key y
            grind
          rw [e]
          exact Int.mul_pos s3 l2
        exact Int.pos_of_mul_pos_left (by rw [Int.mul_comm]; exact this) z1
      · refine ⟨-s, by rcases s2 with rfl | rfl <;> simp, fun y y0 _ y2 => ?_⟩
        have l := less_trans' (x := y) (y := hi) (z := poleR m) y0 hhi z1 y2 hp
        have l2 : 0 < (poleR m).1 * y.2 - y.1 * (poleR m).2 := by unfold lessP at l; omega
        have : 0 < (poleR m).2 * (-s * m.bot y) := by
          have e : (poleR m).2 * (-s * m.bot y) = (s * m.c) * ((poleR m).1 * y.2 - y.1 * (poleR m).2) := by
            have := key y
            grind
          rw [e]
          exact Int.mul_pos s3 l2
        exact Int.pos_of_mul_pos_left (by rw [Int.mul_comm]; exact this) z1
    · cases h
/-- the image of what lies between lies between the images -/
theorem image_in {m : M4} {lo hi y : Int × Int} (hm : m.c ≠ 0 ∨ m.d ≠ 0) (hlo : 0 < lo.2) (hhi : 0 < hi.2) (hl : lessP lo hi) (h : overO m lo hi = none) (y0 : 0 < y.2) (y1 : ¬ lessP y lo) (y2 : ¬ lessP hi y) :
    ∃ p q r, mapO m lo = some p ∧ mapO m hi = some q ∧ mapO m y = some r ∧ ((lessP q p → ¬ lessP r q ∧ ¬ lessP p r) ∧ (¬ lessP q p → ¬ lessP r p ∧ ¬ lessP q r)) := by
  obtain ⟨s, hs, sign⟩ := one_sign hm hlo hhi h
  have b1 := sign lo hlo (by unfold lessP; omega) (by unfold lessP at *; omega)
  have b2 := sign hi hhi (by unfold lessP at *; omega) (by unfold lessP; omega)
  have b3 := sign y y0 y1 y2
  have nz : ∀ z : Int, 0 < s * z → z ≠ 0 := fun z h e => by rw [e] at h; omega
  refine ⟨_, _, _, if_neg (nz _ b1), if_neg (nz _ b2), if_neg (nz _ b3), ?_⟩
  have cr : ∀ x z : Int × Int, m.top x * m.bot z - m.top z * m.bot x = m.det * (x.1 * z.2 - z.1 * x.2) := fun x z => by
    unfold M4.top M4.bot M4.det
    grind
  rw [red_less hs b2 b1, red_less hs b3 b2, red_less hs b1 b3, red_less hs b3 b1, red_less hs b2 b3]
  have c1 := cr hi lo
  have c2 := cr y hi
  have c3 := cr lo y
  have d1 : 0 < hi.1 * lo.2 - lo.1 * hi.2 := by unfold lessP at hl; omega
  have d2 : y.1 * hi.2 - hi.1 * y.2 ≤ 0 := by unfold lessP at y2; omega
  have d3 : lo.1 * y.2 - y.1 * lo.2 ≤ 0 := by unfold lessP at y1; omega
  rcases Int.lt_or_le m.det 0 with hd | hd
  · have m1 : m.det * (hi.1 * lo.2 - lo.1 * hi.2) < 0 := Int.mul_neg_of_neg_of_pos hd d1
    have m2 : 0 ≤ m.det * (y.1 * hi.2 - hi.1 * y.2) := Int.mul_nonneg_of_nonpos_of_nonpos (by omega) d2
    have m3 : 0 ≤ m.det * (lo.1 * y.2 - y.1 * lo.2) := Int.mul_nonneg_of_nonpos_of_nonpos (by omega) d3
    omega
  · have m1 : 0 ≤ m.det * (hi.1 * lo.2 - lo.1 * hi.2) := Int.mul_nonneg hd (by omega)
    have m2 : m.det * (y.1 * hi.2 - hi.1 * y.2) ≤ 0 := Int.mul_nonpos_of_nonneg_of_nonpos hd d2
    have m3 : m.det * (lo.1 * y.2 - y.1 * lo.2) ≤ 0 := Int.mul_nonpos_of_nonneg_of_nonpos hd d3
    omega
/-- the pole is led nowhere -/
theorem pole_none {m : M4} (hc : m.c ≠ 0) : mapO m (poleR m) = none := by
  obtain ⟨s1, g1, p1, q1, r1, e1, f1, z1⟩ := red_mul (t := 0 - m.d) (b := m.c) hc
  unfold mapO
  rw [if_pos]
  unfold M4.bot poleR
  generalize (redP (0 - m.d) m.c).1 = u at *
  generalize (redP (0 - m.d) m.c).2 = v at *
  have : m.d = -(s1 * g1 * u) := by omega
  rw [this, f1]
  grind
end Pv

namespace Pv
open PySem
/-! ### the defs over maps -/
def fIsMap (ja g : Nat) : Fn := ⟨1, 2, (.cons (.ite (.or (.not (.e (.call ja (.cons (.v 0) (.cons (.k (.int 4)) (.cons (.k (.int 4)) .nil)))))) (.not (.e (.b1 .all (.lc (.cmp .lt (.b1 .abs (.v 1)) (.g g)) (.n 1) (.of (.v 0)) .yes)))))
 (.cons (.ret (.k (.bool false)))
 .nil)
 .nil)
 (.cons (.ret (.or (.cmp .ne (.ixv 0 (.k (.int 2))) (.k (.int 0))) (.cmp .ne (.ixv 0 (.k (.int 3))) (.k (.int 0)))))
 .nil))⟩
def fMappedTo (jm : Nat) : Fn := ⟨2, 7, (.cons (.asg (.t [3, 4, 5, 6]) (.v 0))
 (.cons (.asg (.n 2) (.bin .add (.bin .mul (.v 5) (.ixv 1 (.k (.int 0)))) (.bin .mul (.v 6) (.ixv 1 (.k (.int 1))))))
 (.cons (.ret (.ife (.e (.cmp .eq (.v 2) (.k (.int 0)))) (.k .none) (.call jm (.cons (.bin .add (.bin .mul (.v 3) (.ixv 1 (.k (.int 0)))) (.bin .mul (.v 4) (.ixv 1 (.k (.int 1))))) (.cons (.v 2) .nil)))))
 .nil)))⟩
def fMapped (jc jr jt : Nat) : Fn := ⟨2, 2, (.cons (.expr (.call jc (.cons (.v 0) .nil)))
 (.cons (.expr (.call jr (.cons (.v 1) .nil)))
 (.cons (.ret (.call jt (.cons (.v 0) (.cons (.v 1) .nil))))
 .nil)))⟩
def fOverIn (jm jl : Nat) : Fn := ⟨3, 6, (.cons (.par [4, 5] (.cons (.ixv 0 (.k (.int 2))) (.cons (.ixv 0 (.k (.int 3))) .nil)))
 (.cons (.ite (.e (.cmp .eq (.v 4) (.k (.int 0))))
 (.cons (.ret (.k .none))
 .nil)
 .nil)
 (.cons (.asg (.n 3) (.call jm (.cons (.bin .sub (.k (.int 0)) (.v 5)) (.cons (.v 4) .nil))))
 (.cons (.ret (.ife (.or (.e (.call jl (.cons (.v 3) (.cons (.v 1) .nil)))) (.e (.call jl (.cons (.v 2) (.cons (.v 3) .nil))))) (.k .none) (.v 3)))
 .nil))))⟩
def fRoomBy (jr jo jt jl gR gO : Nat) : Fn := ⟨2, 7, (.cons (.asg (.t [3, 4]) (.call jr (.cons (.v 1) .nil)))
 (.cons (.asg (.n 2) (.call jo (.cons (.v 0) (.cons (.v 3) (.cons (.v 4) .nil)))))
 (.cons (.ite (.e (.cmp .isnot (.v 2) (.k .none)))
 (.cons (.ret (.tup (.cons (.g gO) (.cons (.v 2) .nil))))
 .nil)
 .nil)
 (.cons (.par [5, 6] (.cons (.call jt (.cons (.v 0) (.cons (.v 3) .nil))) (.cons (.call jt (.cons (.v 0) (.cons (.v 4) .nil))) .nil)))
 (.cons (.ret (.ife (.e (.call jl (.cons (.v 6) (.cons (.v 5) .nil)))) (.tup (.cons (.g gR) (.cons (.v 6) (.cons (.v 5) .nil)))) (.tup (.cons (.g gR) (.cons (.v 5) (.cons (.v 6) .nil))))))
 .nil)))))⟩
def fMapRoom (jc jk jb : Nat) : Fn := ⟨2, 2, (.cons (.expr (.call jc (.cons (.v 0) .nil)))
 (.cons (.expr (.call jk (.cons (.v 1) .nil)))
 (.cons (.ret (.call jb (.cons (.v 0) (.cons (.v 1) .nil))))
 .nil)))⟩
def fLawMapped (jl : Nat) : Fn := ⟨2, 8, (.cons (.asg (.t [2, 3, 4, 5]) (.v 0))
 (.cons (.par [6, 7] (.cons (.bin .add (.bin .mul (.v 2) (.ixv 1 (.k (.int 0)))) (.bin .mul (.v 3) (.ixv 1 (.k (.int 1))))) (.cons (.bin .add (.bin .mul (.v 4) (.ixv 1 (.k (.int 0)))) (.bin .mul (.v 5) (.ixv 1 (.k (.int 1))))) .nil)))
 (.cons (.ret (.ife (.e (.cmp .eq (.v 7) (.k (.int 0)))) (.k .none) (.call jl (.cons (.v 6) (.cons (.v 7) .nil)))))
 .nil)))⟩
def fLawMapRoom (jr jw jl jt : Nat) : Fn := ⟨2, 9, (.cons (.asg (.t [2, 3]) (.call jr (.cons (.v 1) .nil)))
 (.cons (.asg (.t [4, 5]) (.slv 0 (.k (.int 2)) .nop))
 (.cons (.ite (.e (.cmp .ne (.v 4) (.k (.int 0))))
 (.cons (.asg (.n 6) (.call jw (.cons (.bin .sub (.k (.int 0)) (.v 5)) (.cons (.v 4) .nil))))
 (.cons (.ite (.and (.not (.e (.call jl (.cons (.v 6) (.cons (.v 2) .nil))))) (.not (.e (.call jl (.cons (.v 3) (.cons (.v 6) .nil))))))
 (.cons (.ret (.tup (.cons (.k (.str "over")) (.cons (.v 6) .nil))))
 .nil)
 .nil)
 .nil))
 .nil)
 (.cons (.par [7, 8] (.cons (.call jt (.cons (.v 0) (.cons (.v 2) .nil))) (.cons (.call jt (.cons (.v 0) (.cons (.v 3) .nil))) .nil)))
 (.cons (.ret (.ife (.e (.call jl (.cons (.v 8) (.cons (.v 7) .nil)))) (.tup (.cons (.k (.str "room")) (.cons (.v 8) (.cons (.v 7) .nil)))) (.tup (.cons (.k (.str "room")) (.cons (.v 7) (.cons (.v 8) .nil))))))
 .nil)))))⟩
def mpLc (js : Nat) : E := (.lc (.cio js 0 (.cons (.lst (.cons (.k (.int 0)) (.cons (.k (.int 1)) (.cons (.neg (.k (.int 1))) (.cons (.k (.int 2)) (.cons (.k (.int 3)) (.cons (.neg (.k (.int 2))) (.cons (.k (.int 5)) (.cons (.k (.int 7)) (.cons (.neg (.k (.int 4))) (.cons (.k (.int 10)) (.cons (.k (.int 100)) .nil)))))))))))) .nil)) (.n 2) (.rng (.cons (.k (.int 4)) .nil)) .yes)
def fLawMap (js : Nat) : Fn := ⟨1, 3, (.cons (.asg (.n 1) (mpLc js))
 (.cons (.ret (.ife (.or (.e (.cmp .ne (.ixv 1 (.k (.int 2))) (.k (.int 0)))) (.e (.cmp .ne (.ixv 1 (.k (.int 3))) (.k (.int 0))))) (.b1 .tuple (.v 1)) (.tup (.cons (.ixv 1 (.k (.int 0))) (.cons (.ixv 1 (.k (.int 1))) (.cons (.k (.int 0)) (.cons (.k (.int 1)) .nil)))))))
 .nil))⟩
/-- a drawn map -/
structure M4ok (m : M4) : Prop where
  a : m.a.natAbs ≤ 100
  b : m.b.natAbs ≤ 100
  c : m.c.natAbs ≤ 100
  d : m.d.natAbs ≤ 100
  nz : m.c ≠ 0 ∨ m.d ≠ 0
theorem ix0 {a b c d : D} : L2.atI [a, b, c, d] 0 = some a := rfl
theorem ix1 {a b c d : D} : L2.atI [a, b, c, d] 1 = some b := rfl
theorem ix2 {a b c d : D} : L2.atI [a, b, c, d] 2 = some c := rfl
theorem ix3 {a b c d : D} : L2.atI [a, b, c, d] 3 = some d := rfl
theorem cut2 {a b c d : D} : cut [a, b, c, d] (some 2) none = [c, d] := rfl
theorem md_100 {i : Int} (h : i.natAbs ≤ 100) : Md i := Nat.lt_of_le_of_lt h (by decide)
theorem lin_md {u v x y : Int} (h1 : u.natAbs ≤ 100) (h2 : v.natAbs ≤ 100) (h3 : Md x) (h4 : Md y) : (u * x + v * y).natAbs < 2 ^ 250 := by
  have e1 := Int.natAbs_add_le (u * x) (v * y)
  rw [Int.natAbs_mul, Int.natAbs_mul] at e1
  have e2 : u.natAbs * x.natAbs ≤ 100 * 2 ^ 120 := Nat.mul_le_mul h1 (Nat.le_of_lt h3)
  have e3 : v.natAbs * y.natAbs ≤ 100 * 2 ^ 120 := Nat.mul_le_mul h2 (Nat.le_of_lt h4)
  omega
section
variable {P : List Fn} {gl : Nat → Option D} {n j ji js jc jr jm jd ja jk jl jt jo jb jw g gR gO x : Nat} {m : M4}
theorem isMap_ok (hP : P[j]? = some (fIsMap ja g)) (hA : P[ja]? = some (fAreInts ji js)) (hI : P[ji]? = some fIsInt) (hS : P[js]? = some fSized) (hg : gl g = some (.int 1000000000000)) (hm : M4ok m) : run P gl (n + 3) j [.v (t4 m)] = .ret (.pv (.bool true)) none := by
  rw [run_succ hP, if_pos ⟨rfl, rfl⟩]
  obtain ⟨a, b, c, d⟩ := m
  obtain ⟨h1, h2, h3, h4, h5⟩ := hm
  dsimp only at *
  have a1 := areInts_ok (gl := gl) (n := n) hA hI hS (ns := [a, b, c, d]) (lo := 4) (hi := 4) (by simp) (by simp) (by simp [LIM])
  have l1 : evE ⟨run P gl (n + 2), gl⟩ (.lc (.cmp .lt (.b1 .abs (.v 1)) (.g g)) (.n 1) (.of (.v 0)) .yes) [some (.v (.tuple [.int a, .int b, .int c, .int d])), none] = .ok (.fr (List.replicate 4 (.bool true))) [some (.v (.tuple [.int a, .int b, .int c, .int d])), none] := by
    refine lc_ints (ns := [a, b, c, d]) (by simp) rfl (by simp) (by simp [LIM]) fun k hk => ?_
    simp at hk
    simp [hg, abs_nat]
    rcases hk with rfl | rfl | rfl | rfl <;> omega
  simp at a1
  by_cases hc : c = 0
  · have hd : d ≠ 0 := h5.resolve_left fun z => z hc
    subst hc
    simp [fIsMap, t4, a1, l1, -List.reduceReplicate, ix2, ix3, hd]
  · simp [fIsMap, t4, a1, l1, -List.reduceReplicate, ix2, ix3, hc]
theorem mappedTo_ok {y : Int × Int} (hP : P[j]? = some (fMappedTo jm)) (hM : P[jm]? = some (fMade jc)) (hc : P[jc]? = some fCommon) (hm : M4ok m) (h1 : Md y.1) (h2 : Md y.2) : run P gl (n + 3) j [.v (t4 m), .v (pr y)] = .ret (.pv (dO (mapO m y))) none := by
  rw [run_succ hP, if_pos ⟨rfl, rfl⟩]
  have m1 := md_mul (md_100 hm.a) h1
  have m2 := md_mul (md_100 hm.b) h2
  have m3 := md_mul (md_100 hm.c) h1
  have m4 := md_mul (md_100 hm.d) h2
  by_cases hz : m.bot y = 0
  · have hz' : m.c * y.1 + m.d * y.2 = 0 := hz
    simp [fMappedTo, t4, prx0, prx1, m1, m2, m3, m4, hz', mapO, hz, dO]
  · have hz' : ¬ m.c * y.1 + m.d * y.2 = 0 := hz
    have md := made_ok (gl := gl) (n := n) (t := m.a * y.1 + m.b * y.2) hM hc hz' (lin_md hm.c hm.d h1 h2)
    simp [fMappedTo, t4, prx0, prx1, m1, m2, m3, m4, hz', md, mapO, hz, dO]
    rfl
theorem lawMapped_ok {y : Int × Int} (hP : P[j]? = some (fLawMapped jl)) (hl : P[jl]? = some fLow) (hm : M4ok m) (h1 : Md y.1) (h2 : Md y.2) : run P gl (n + 2) j [.v (t4 m), .v (pr y)] = .ret (.pv (dO (mapO m y))) none := by
  rw [run_succ hP, if_pos ⟨rfl, rfl⟩]
  have m1 := md_mul (md_100 hm.a) h1
  have m2 := md_mul (md_100 hm.b) h2
  have m3 := md_mul (md_100 hm.c) h1
  have m4 := md_mul (md_100 hm.d) h2
  by_cases hz : m.bot y = 0
  · have hz' : m.c * y.1 + m.d * y.2 = 0 := hz
    simp [fLawMapped, t4, prx0, prx1, m1, m2, m3, m4, hz', mapO, hz, dO]
  · have hz' : ¬ m.c * y.1 + m.d * y.2 = 0 := hz
    have md := low_ok (gl := gl) (n := n) (t := m.a * y.1 + m.b * y.2) hl hz' (lin_md hm.c hm.d h1 h2)
    simp [fLawMapped, t4, prx0, prx1, m1, m2, m3, m4, hz', md, mapO, hz, dO]
    rfl
theorem pole_small (hm : M4ok m) : Md (poleR m).1 ∧ Md (poleR m).2 := by
  have e1 := Int.natAbs_ediv_le_natAbs (0 - m.d) (Int.gcd (0 - m.d) m.c)
  have e2 := Int.natAbs_ediv_le_natAbs m.c (Int.gcd (0 - m.d) m.c)
  have h3 := hm.c
  have h4 := hm.d
  unfold poleR redP Md
  split <;> dsimp only <;> constructor <;> omega
theorem overIn_ok {lo hi : Int × Int} (hP : P[j]? = some (fOverIn jm jl)) (hM : P[jm]? = some (fMade jc)) (hc : P[jc]? = some fCommon) (hl : P[jl]? = some fLess) (hm : M4ok m) (s1 : Small lo) (s2 : Small hi) : run P gl (n + 3) j [.v (t4 m), .v (pr lo), .v (pr hi)] = .ret (.pv (dO (overO m lo hi))) none := by
  rw [run_succ hP, if_pos ⟨rfl, rfl⟩]
  unfold overO
  by_cases h : m.c = 0
  · rw [if_pos h]
    simp [fOverIn, t4, ix2, ix3, h, dO]
  · rw [if_neg h]
    have md := made_ok (gl := gl) (n := n) (t := 0 - m.d) (b := m.c) hM hc h (by have := hm.c; omega)
    obtain ⟨p1, p2⟩ := pole_small hm
    have l1 := less_ok (gl := gl) (n := n + 1) (p := poleR m) (q := lo) hl p1 p2 s1.h1 s1.h2
    have l2 := less_ok (gl := gl) (n := n + 1) (p := hi) (q := poleR m) hl s2.h1 s2.h2 p1 p2
    have ep : redP (0 - m.d) m.c = poleR m := rfl
    rw [ep, Int.zero_sub] at md
    by_cases h1 : lessP (poleR m) lo
    · rw [if_pos (.inl h1)]
      have h1 : (poleR m).1 * lo.2 < lo.1 * (poleR m).2 := h1
      simp only [h1, decide_true] at l1
      simp [fOverIn, t4, ix2, ix3, h, md, l1, dO]
    · have h1' : ¬ (poleR m).1 * lo.2 < lo.1 * (poleR m).2 := h1
      simp only [h1', decide_false] at l1
      by_cases h2 : lessP hi (poleR m)
      · rw [if_pos (.inr h2)]
        have h2 : hi.1 * (poleR m).2 < (poleR m).1 * hi.2 := h2
        simp only [h2, decide_true] at l2
        simp [fOverIn, t4, ix2, ix3, h, md, l1, l2, dO]
      · rw [if_neg (by rintro (z | z); exact h1 z; exact h2 z)]
        have h2 : ¬ hi.1 * (poleR m).2 < (poleR m).1 * hi.2 := h2
        simp only [h2, decide_false] at l2
        simp [fOverIn, t4, ix2, ix3, h, md, l1, l2, dO]
end
end Pv

namespace Pv
open PySem
/-! ### rooms of maps -/
theorem lessP_iff {p q : Int × Int} : lessP p q ↔ p.1 * q.2 < q.1 * p.2 := Iff.rfl
theorem roomV_facts {ts : List Int} (kn : Kn ts) (hb : bnd ts < 2 ^ 100) : Small (roomV ts).1 ∧ Small (roomV ts).2 ∧ 0 < (roomV ts).1.2 ∧ 0 < (roomV ts).2.2 ∧ lessP (roomV ts).1 (roomV ts).2 := by
  have hb1 : bnd ts * 1 < 2 ^ 120 := by omega
  have r1 := kn.rat (restNone (Nat.le_refl 1))
  have r2 := kn.rat (restOne (Nat.le_refl 1))
  have s1 := r1.small hb1
  have s2 := r2.small hb1
  unfold roomV
  by_cases h : lessP (valV ts (1, 1)) (valV ts (1, 0))
  · rw [if_pos h]
    exact ⟨s2, s1, r2.bot, r1.bot, h⟩
  · rw [if_neg h]
    exact ⟨s1, s2, r1.bot, r2.bot, (ends_one ts).mpr h⟩
/-- what is told of a map's room -/
def mapRoom (m : M4) (ts : List Int) : D := match overO m (roomV ts).1 (roomV ts).2 with
  | some x => .tuple [.str "over", pr x]
  | none => (match mapO m (roomV ts).1, mapO m (roomV ts).2 with
    | some p, some q => if lessP q p then .tuple [.str "room", pr q, pr p] else .tuple [.str "room", pr p, pr q]
    | _, _ => .none)
theorem mapO_md {m : M4} {y p : Int × Int} (hm : M4ok m) (s : Small y) (hy : y.1.natAbs < 2 ^ 100) (hy2 : y.2.natAbs < 2 ^ 100) (h : mapO m y = some p) : Small p := by
  unfold mapO at h
  split at h
  · cases h
  · cases h
    have b1 : ∀ {u v : Int}, u.natAbs ≤ 100 → v.natAbs ≤ 100 → (u * y.1 + v * y.2).natAbs < 2 ^ 120 := fun {u v} h1 h2 => by
      have e1 := Int.natAbs_add_le (u * y.1) (v * y.2)
      rw [Int.natAbs_mul, Int.natAbs_mul] at e1
      have e2 : u.natAbs * y.1.natAbs ≤ 100 * 2 ^ 100 := Nat.mul_le_mul h1 (Nat.le_of_lt hy)
      have e3 : v.natAbs * y.2.natAbs ≤ 100 * 2 ^ 100 := Nat.mul_le_mul h2 (Nat.le_of_lt hy2)
      omega
    have c1 := b1 hm.a hm.b
    have c2 := b1 hm.c hm.d
    have e1 := Int.natAbs_ediv_le_natAbs (m.top y) (Int.gcd (m.top y) (m.bot y))
    have e2 := Int.natAbs_ediv_le_natAbs (m.bot y) (Int.gcd (m.top y) (m.bot y))
    have c1 : (m.top y).natAbs < 2 ^ 120 := c1
    have c2 : (m.bot y).natAbs < 2 ^ 120 := c2
    constructor <;> unfold Md redP <;> split <;> dsimp only <;> omega
section
variable {P : List Fn} {gl : Nat → Option D} {n j ji js jc jr jm jd ja jk jl jt jo jb jw g gR gO x : Nat} {m : M4} {ts : List Int}
theorem isnotO_none : cmpD .isnot (dO none) .none = some false := rfl
theorem isnotO_some (p : Int × Int) : cmpD .isnot (dO (some p)) .none = some true := rfl
/-- the ends as they lie below 2 ** 100 -/
theorem ends_100 (kn : Kn ts) (hb : bnd ts < 2 ^ 100) : ((roomV ts).1.1.natAbs < 2 ^ 100 ∧ (roomV ts).1.2.natAbs < 2 ^ 100) ∧ ((roomV ts).2.1.natAbs < 2 ^ 100 ∧ (roomV ts).2.2.natAbs < 2 ^ 100) := by
  have r1 := kn.rat (restNone (Nat.le_refl 1))
  have r2 := kn.rat (restOne (Nat.le_refl 1))
  have a1 := r1.h1
  have a2 := r1.h2
  have a3 := r2.h1
  have a4 := r2.h2
  have v1 : vec none = (1, 0) := rfl
  have v2 : vec (some (1, 1)) = (1, 1) := rfl
  rw [v1] at a1 a2
  rw [v2] at a3 a4
  unfold roomV
  split <;> dsimp only <;> omega
/-- the two images, where no pole lies between -/
theorem two_images (hm : M4ok m) (kn : Kn ts) (hb : bnd ts < 2 ^ 100) (h : overO m (roomV ts).1 (roomV ts).2 = none) : ∃ p q, mapO m (roomV ts).1 = some p ∧ mapO m (roomV ts).2 = some q ∧ Small p ∧ Small q := by
  obtain ⟨s1, s2, b1, b2, l⟩ := roomV_facts kn hb
  obtain ⟨⟨c1, c2⟩, c3, c4⟩ := ends_100 kn hb
  obtain ⟨p, q, r, e1, e2, _⟩ := image_in hm.nz b1 b2 l h b1 (by unfold lessP; omega) (by unfold lessP at *; omega)
  exact ⟨p, q, e1, e2, mapO_md hm s1 c1 c2 e1, mapO_md hm s2 c3 c4 e2⟩
theorem roomBy_ok (hP : P[j]? = some (fRoomBy jr jo jt jl gR gO)) (hr : run P gl (n + 6) jr [.v (tuI ts)] = .ret (.pv (.tuple [pr (roomV ts).1, pr (roomV ts).2])) none) (hO : P[jo]? = some (fOverIn jm jl)) (hT : P[jt]? = some (fMappedTo jm)) (hM : P[jm]? = some (fMade jc)) (hc : P[jc]? = some fCommon) (hl : P[jl]? = some fLess) (hgR : gl gR = some (.str "room")) (hgO : gl gO = some (.str "over"))
    (hm : M4ok m) (kn : Kn ts) (hb : bnd ts < 2 ^ 100) : run P gl (n + 7) j [.v (t4 m), .v (tuI ts)] = .ret (.pv (mapRoom m ts)) none := by
  rw [run_succ hP, if_pos ⟨rfl, rfl⟩]
  obtain ⟨s1, s2, b1, b2, l⟩ := roomV_facts kn hb
  have ov := overIn_ok (gl := gl) (n := n + 3) (lo := (roomV ts).1) (hi := (roomV ts).2) hO hM hc hl hm s1 s2
  unfold mapRoom
  cases ho : overO m (roomV ts).1 (roomV ts).2 with
  | some x =>
    rw [ho] at ov
    have i1 := isnotO_some x
    simp [fRoomBy, hr, ov, i1, hgO, lim2]
    rfl
  | none =>
    rw [ho] at ov
    have i1 := isnotO_none
    obtain ⟨p, q, e1, e2, s3, s4⟩ := two_images hm kn hb ho
    have m1 := mappedTo_ok (gl := gl) (n := n + 3) (y := (roomV ts).1) hT hM hc hm s1.h1 s1.h2
    have m2 := mappedTo_ok (gl := gl) (n := n + 3) (y := (roomV ts).2) hT hM hc hm s2.h1 s2.h2
    rw [e1] at m1
    rw [e2] at m2
    have m1 : run P gl _ _ [_, _] = .ret (.pv (pr p)) none := m1
    have m2 : run P gl _ _ [_, _] = .ret (.pv (pr q)) none := m2
    have le := less_ok (gl := gl) (n := n + 5) (p := q) (q := p) hl s4.h1 s4.h2 s3.h1 s3.h2
    simp only [e1, e2]
    by_cases h : lessP q p
    · rw [if_pos h]
      simp only [lessP_iff.mp h, decide_true] at le
      simp [fRoomBy, hr, ov, i1, hgR, lim3, m1, m2, le]
    · rw [if_neg h]
      have h' : ¬ q.1 * p.2 < p.1 * q.2 := h
      simp only [h', decide_false] at le
      simp [fRoomBy, hr, ov, i1, hgR, lim3, m1, m2, le]
theorem lawMapRoom_ok (hP : P[j]? = some (fLawMapRoom jr jw jl jt)) (hr : run P gl (n + 3) jr [.v (tuI ts)] = .ret (.pv (.tuple [pr (roomV ts).1, pr (roomV ts).2])) none) (hT : P[jt]? = some (fLawMapped jw)) (hw : P[jw]? = some fLow) (hl : P[jl]? = some fLess)
    (hm : M4ok m) (kn : Kn ts) (hb : bnd ts < 2 ^ 100) : run P gl (n + 4) j [.v (t4 m), .v (tuI ts)] = .ret (.pv (mapRoom m ts)) none := by
  rw [run_succ hP, if_pos ⟨rfl, rfl⟩]
  obtain ⟨s1, s2, b1, b2, l⟩ := roomV_facts kn hb
  have fin : overO m (roomV ts).1 (roomV ts).2 = none → ∃ p q, mapRoom m ts = (if lessP q p then .tuple [.str "room", pr q, pr p] else .tuple [.str "room", pr p, pr q]) ∧ run P gl (n + 3) jt [.v (t4 m), .v (pr (roomV ts).1)] = .ret (.pv (pr p)) none ∧ run P gl (n + 3) jt [.v (t4 m), .v (pr (roomV ts).2)] = .ret (.pv (pr q)) none ∧ run P gl (n + 3) jl [.v (pr q), .v (pr p)] = .ret (.pv (.bool (decide (lessP q p)))) none := fun ho => by
    obtain ⟨p, q, e1, e2, s3, s4⟩ := two_images hm kn hb ho
    have m1 := lawMapped_ok (gl := gl) (n := n + 1) (y := (roomV ts).1) hT hw hm s1.h1 s1.h2
    have m2 := lawMapped_ok (gl := gl) (n := n + 1) (y := (roomV ts).2) hT hw hm s2.h1 s2.h2
    rw [e1] at m1
    rw [e2] at m2
    have le := less_ok (gl := gl) (n := n + 2) (p := q) (q := p) hl s4.h1 s4.h2 s3.h1 s3.h2
    refine ⟨p, q, ?_, m1, m2, le⟩
    unfold mapRoom
    simp only [ho, e1, e2]
  have sd : slD (t4 m) (some 2) none = some (.tuple [.int m.c, .int m.d]) := rfl
  by_cases h : m.c = 0
  · have ho : overO m (roomV ts).1 (roomV ts).2 = none := by unfold overO; rw [if_pos h]
    obtain ⟨p, q, e1, m1, m2, le⟩ := fin ho
    rw [e1]
    by_cases h2 : lessP q p
    · rw [if_pos h2]
      simp only [h2, decide_true] at le
      simp [fLawMapRoom, hr, partR, partO, isNop, sd, h, m1, m2, le, lim3]
    · rw [if_neg h2]
      simp only [h2, decide_false] at le
      simp [fLawMapRoom, hr, partR, partO, isNop, sd, h, m1, m2, le, lim3]
  · obtain ⟨p1, p2⟩ := pole_small hm
    have md := low_ok (gl := gl) (n := n + 2) (t := 0 - m.d) (b := m.c) hw h (by have := hm.c; omega)
    have ep : redP (0 - m.d) m.c = poleR m := rfl
    rw [ep, Int.zero_sub] at md
    have l1 := less_ok (gl := gl) (n := n + 2) (p := poleR m) (q := (roomV ts).1) hl p1 p2 s1.h1 s1.h2
    have l2 := less_ok (gl := gl) (n := n + 2) (p := (roomV ts).2) (q := poleR m) hl s2.h1 s2.h2 p1 p2
    have l1 : run P gl (n + 3) jl [.v (pr (poleR m)), .v (pr (roomV ts).1)] = .ret (.pv (.bool (decide (lessP (poleR m) (roomV ts).1)))) none := l1
    have l2 : run P gl (n + 3) jl [.v (pr (roomV ts).2), .v (pr (poleR m))] = .ret (.pv (.bool (decide (lessP (roomV ts).2 (poleR m))))) none := l2
    by_cases c1 : lessP (poleR m) (roomV ts).1
    · have ho : overO m (roomV ts).1 (roomV ts).2 = none := by unfold overO; rw [if_neg h, if_pos (.inl c1)]
      obtain ⟨p, q, e1, m1, m2, le⟩ := fin ho
      rw [e1]
      simp only [c1, decide_true] at l1
      by_cases h2 : lessP q p
      · rw [if_pos h2]
        simp only [h2, decide_true] at le
        simp [fLawMapRoom, hr, partR, partO, isNop, sd, h, md, l1, m1, m2, le, lim3]
      · rw [if_neg h2]
        simp only [h2, decide_false] at le
        simp [fLawMapRoom, hr, partR, partO, isNop, sd, h, md, l1, m1, m2, le, lim3]
    · simp only [c1, decide_false] at l1
      by_cases c2 : lessP (roomV ts).2 (poleR m)
      · have ho : overO m (roomV ts).1 (roomV ts).2 = none := by unfold overO; rw [if_neg h, if_pos (.inr c2)]
        obtain ⟨p, q, e1, m1, m2, le⟩ := fin ho
        rw [e1]
        simp only [c2, decide_true] at l2
        by_cases h2 : lessP q p
        · rw [if_pos h2]
          simp only [h2, decide_true] at le
          simp [fLawMapRoom, hr, partR, partO, isNop, sd, h, md, l1, l2, m1, m2, le, lim3]
        · rw [if_neg h2]
          simp only [h2, decide_false] at le
          simp [fLawMapRoom, hr, partR, partO, isNop, sd, h, md, l1, l2, m1, m2, le, lim3]
      · simp only [c2, decide_false] at l2
        have ho : overO m (roomV ts).1 (roomV ts).2 = some (poleR m) := by unfold overO; rw [if_neg h, if_neg (by rintro (z | z); exact c1 z; exact c2 z)]
        unfold mapRoom
        rw [ho]
        simp [fLawMapRoom, hr, partR, partO, isNop, sd, h, md, l1, l2, lim2]
end
end Pv

namespace Pv
open PySem
/-! ### a drawn map -/
def eleven : List D := [.int 0, .int 1, .int (-1), .int 2, .int 3, .int (-2), .int 5, .int 7, .int (-4), .int 10, .int 100]
theorem of_eleven {d : D} (h : d ∈ eleven) : ∃ k : Int, d = .int k ∧ k.natAbs ≤ 100 := by
  unfold eleven at h
  simp only [List.mem_cons, List.not_mem_nil, or_false] at h
  rcases h with rfl | rfl | rfl | rfl | rfl | rfl | rfl | rfl | rfl | rfl | rfl <;> exact ⟨_, rfl, by decide⟩
theorem lcTurn_io {ev : Env → R (Option D)} {x y : D} {xs ys : List D} (h : ev [some (.io xs), none, some (.v x)] = .ok (some y) [some (.io ys), none, some (.v x)]) : lcTurn (.n 2) ev x [some (.io xs), none, none] = .ok (some y) [some (.io ys), none, none] := by
  unfold lcTurn
  rw [if_pos (show plainAt [some (.io xs), none, none] (Tg.n 2).slots = true from rfl)]
  have e1 : putT (wipeE [some (.io xs), none, none] (Tg.n 2).slots) (.n 2) x = .ok () [some (.io xs), none, some (.v x)] := rfl
  rw [e1, R.bind_ok, h]
  rfl
section
variable {P : List Fn} {gl : Nat → Option D} {n j jd js : Nat}
theorem lawMap_ok {xs : List D} {c : Nat} (hP : P[j]? = some (fLawMap js)) (hd : P[jd]? = some fDraw) (hs : P[js]? = some (fSome jd)) (H : HandOk c xs) (hc : c < 1000000) : ∃ (m : M4) (ys : List D), run P gl (n + 3) j [.io xs] = .ret (.pv (t4 m)) (some (.io ys)) ∧ HandOk (c + 4) ys ∧ M4ok m := by
  have one : ∀ (x : D) (c' : Nat) (zs : List D), HandOk c' zs → c' < 1000000000 → ∃ (k : Int) (ws : List D), k.natAbs ≤ 100 ∧ HandOk (c' + 1) ws ∧ lcTurn (.n 2) (fun ρ => (evT ⟨run P gl (n + 2), gl⟩ .yes ρ).bind fun t ρ => iteR t (bindD (evE ⟨run P gl (n + 2), gl⟩ (.cio js 0 (.cons (.lst (.cons (.k (.int 0)) (.cons (.k (.int 1)) (.cons (.neg (.k (.int 1))) (.cons (.k (.int 2)) (.cons (.k (.int 3)) (.cons (.neg (.k (.int 2))) (.cons (.k (.int 5)) (.cons (.k (.int 7)) (.cons (.neg (.k (.int 4))) (.cons (.k (.int 10)) (.cons (.k (.int 100)) .nil)))))))))))) .nil)) ρ) fun y ρ => .ok (some y) ρ) (.ok none ρ)) x [some (.io zs), none, none] = .ok (some (.int k)) [some (.io ws), none, none] := by
    intro x c' zs G hc'
    obtain ⟨d, ws, k1, k2, k3⟩ := some_ok (gl := gl) (n := n) (ds := eleven) hs hd G (by decide) (by decide) hc'
    obtain ⟨k, rfl, k4⟩ := of_eleven k3
    refine ⟨k, ws, k4, k2, lcTurn_io ?_⟩
    have l11 : (11 : Nat) ≤ LIM := by decide
    have ev : evE ⟨run P gl (n + 2), gl⟩ (.cio js 0 (.cons (.lst (.cons (.k (.int 0)) (.cons (.k (.int 1)) (.cons (.neg (.k (.int 1))) (.cons (.k (.int 2)) (.cons (.k (.int 3)) (.cons (.neg (.k (.int 2))) (.cons (.k (.int 5)) (.cons (.k (.int 7)) (.cons (.neg (.k (.int 4))) (.cons (.k (.int 10)) (.cons (.k (.int 100)) .nil)))))))))))) .nil)) [some (.io zs), none, some (.v x)] = .ok (.pv (.int k)) [some (.io ws), none, some (.v x)] :=
      ecio_io (xs := zs) (xs' := zs) (ds := [.list eleven]) (ρ' := [some (.io zs), none, some (.v x)]) rfl (by simp [l11, eleven]) rfl k1
    simp [ev]
  obtain ⟨a, x1, ha, H1, ea⟩ := one (.int 0) c xs H (by omega)
  obtain ⟨b, x2, hb, H2, eb⟩ := one (.int (0 + 1)) (c + 1) x1 H1 (by omega)
  obtain ⟨e, x3, he, H3, ee⟩ := one (.int (0 + 1 + 1)) (c + 1 + 1) x2 H2 (by omega)
  obtain ⟨f, x4, hf, H4, ef⟩ := one (.int (0 + 1 + 1 + 1)) (c + 1 + 1 + 1) x3 H3 (by omega)
  have lc : evE ⟨run P gl (n + 2), gl⟩ (mpLc js) [some (.io xs), none, none] = .ok (.fr [.int a, .int b, .int e, .int f]) [some (.io x4), none, none] := by
    unfold mpLc
    rw [e_lc, i_rngA (ds := [.int 4]) (ρ' := [some (.io xs), none, none]) (by simp) (show rngOf [.int 4] = some (0, 4, 1) from rngOfA (k := 4) (by decide)), R.bind_ok]
    show lcEnd (lcGo _ [.int 0, .int (0 + 1), .int (0 + 1 + 1), .int (0 + 1 + 1 + 1)] _) = _
    simp only [lcGo, ea, eb, ee, ef, R.bind_ok]
    simp [lim4]
  have ht : PyData.tuple [.int a, .int b, .int e, .int f] = t4 ⟨a, b, e, f⟩ := rfl
  have ht2 : PyData.tuple [.int a, .int b, .int 0, .int 1] = t4 ⟨a, b, 0, 1⟩ := rfl
  by_cases c1 : e = 0
  · by_cases c2 : f = 0
    · refine ⟨⟨a, b, 0, 1⟩, x4, ?_, H4, ⟨ha, hb, Nat.zero_le _, show (1 : Int).natAbs ≤ 100 by decide, .inr (show (1 : Int) ≠ 0 by decide)⟩⟩
      rw [run_succ hP, if_pos ⟨rfl, rfl⟩]
      simp [fLawMap, lc, ix0, ix1, ix2, ix3, c1, c2, lim4]
      rfl
    · refine ⟨⟨a, b, e, f⟩, x4, ?_, H4, ⟨ha, hb, he, hf, .inr c2⟩⟩
      rw [run_succ hP, if_pos ⟨rfl, rfl⟩]
      simp [fLawMap, lc, ix0, ix1, ix2, ix3, c1, c2]
      rfl
  · refine ⟨⟨a, b, e, f⟩, x4, ?_, H4, ⟨ha, hb, he, hf, .inl c1⟩⟩
    rw [run_succ hP, if_pos ⟨rfl, rfl⟩]
    simp [fLawMap, lc, ix0, ix1, ix2, ix3, c1]
    rfl
/-! ### alike, nested -/
theorem is_none (hP : P[j]? = some (fIs j)) : run P gl (n + 1) j [.v .none, .v .none] = .ret (.pv (.bool true)) none := by
  rw [run_succ hP, if_pos ⟨rfl, rfl⟩]
  have e : cmpD .eq .none .none = some true := by rw [cmp_eq rfl rfl]; rfl
  have t1 : ∀ t : Ty, t ≠ .non → t.is .none = false := fun t ht => by cases t <;> first | rfl | exact absurd rfl ht
  simp [fIs, t1, e]
theorem is_str {x : Str} (hs : shp (.str x) = true) (hP : P[j]? = some (fIs j)) : run P gl (n + 1) j [.v (.str x), .v (.str x)] = .ret (.pv (.bool true)) none := by
  rw [run_succ hP, if_pos ⟨rfl, rfl⟩]
  have e : cmpD .eq (.str x) (.str x) = some true := by
    rw [cmp_eq hs hs]
    show some (x == x) = _
    simp
  have t1 : ∀ t : Ty, t ≠ .str → t.is (.str x) = false := fun t ht => by cases t <;> first | rfl | exact absurd rfl ht
  have t2 : Ty.is .str (.str x) = true := rfl
  simp [fIs, t1, t2, e]
theorem is_pr (hP : P[j]? = some (fIs j)) (p : Int × Int) : run P gl (n + 2) j [.v (pr p), .v (pr p)] = .ret (.pv (.bool true)) none := by
  refine is_tup (m := n + 1) hP _ lim2 ?_
  intro d hd
  simp at hd
  rcases hd with rfl | rfl <;> exact is_int hP _
theorem is_dO (hP : P[j]? = some (fIs j)) (h : Option (Int × Int)) : run P gl (n + 2) j [.v (dO h), .v (dO h)] = .ret (.pv (.bool true)) none := by
  cases h with
  | none => exact is_none hP
  | some p => exact is_pr hP p
end
end Pv
namespace Lw
open Pv PySem
def tp (i : Nat) : Stmt := PySem.Challenge.pw_ratiohouse_k44_whole_numbers_by_known_te.main.body.getD i (.Pass ⟨0, 0, 0, 0⟩)
/-- 0 is_integer: 0=thing -/
def f_is_integer : Fn := ⟨1, 1, (.cons (.ret (.and (.isi (.v 0) [.int]) (.not (.isi (.v 0) [.bool]))))
 .nil)⟩
def d_is_integer : Dt := ⟨"is_integer", tp 2, ["thing"], ["thing"], f_is_integer⟩
theorem b_is_integer : d_is_integer.Bi := fun _ _ _ _ _ _ us hl => match us, hl with | [_], _ => rfl
/-- 1 is_sized: 0=thing 1=low 2=high -/
def f_is_sized : Fn := ⟨3, 3, (.cons (.ret (.and (.isi (.v 0) [.tup]) (.chain .le .le (.v 1) (.b1 .len (.v 0)) (.v 2))))
 .nil)⟩
def d_is_sized : Dt := ⟨"is_sized", tp 3, ["thing", "low", "high"], ["thing", "low", "high"], f_is_sized⟩
theorem b_is_sized : d_is_sized.Bi := fun _ _ _ _ _ _ us hl => match us, hl with | [_, _, _], _ => rfl
/-- 2 are_integers: 0=thing 1=low 2=high 3=one -/
def f_are_integers : Fn := ⟨3, 4, (.cons (.ret (.and (.call 1 (.cons (.v 0) (.cons (.v 1) (.cons (.v 2) .nil)))) (.b1 .all (.lc (.call 0 (.cons (.v 3) .nil)) (.n 3) (.of (.v 0)) .yes))))
 .nil)⟩
def d_are_integers : Dt := ⟨"are_integers", tp 4, ["thing", "low", "high", "one"], ["thing", "low", "high"], f_are_integers⟩
theorem b_are_integers : d_are_integers.Bi := fun _ _ _ _ _ _ us hl => match us, hl with | [_, _, _], _ => rfl
/-- 3 common: 0=one 1=other -/
def f_common_b1 : Ss := (.cons (.par [0, 1] (.cons (.v 1) (.cons (.bin .mod (.v 0) (.v 1)) .nil)))
 .nil)
def f_common_l1 : S := (.whl (.e (.cmp .gt (.v 1) (.k (.int 0)))) f_common_b1)
def f_common : Fn := ⟨2, 2, (.cons (.par [0, 1] (.cons (.b1 .abs (.v 0)) (.cons (.b1 .abs (.v 1)) .nil)))
 (.cons f_common_l1
 (.cons (.retv 0)
 .nil)))⟩
def d_common : Dt := ⟨"common", tp 5, ["one", "other"], ["one", "other"], f_common⟩
theorem b_common : d_common.Bi := fun _ _ _ _ _ _ us hl => match us, hl with | [_, _], _ => rfl
/-- 4 is_ratio: 0=thing 1=one -/
def f_is_ratio : Fn := ⟨1, 2, (.cons (.ite (.or (.not (.e (.call 1 (.cons (.v 0) (.cons (.k (.int 2)) (.cons (.k (.int 2)) .nil)))))) (.not (.e (.b1 .all (.lc (.call 0 (.cons (.v 1) .nil)) (.n 1) (.of (.v 0)) .yes)))))
 (.cons (.ret (.k (.bool false)))
 .nil)
 .nil)
 (.cons (.ite (.or (.e (.cmp .ge (.b1 .abs (.ixv 0 (.k (.int 0)))) (.g 0))) (.not (.e (.chain .lt .lt (.k (.int 0)) (.ixv 0 (.k (.int 1))) (.g 0)))))
 (.cons (.ret (.k (.bool false)))
 .nil)
 .nil)
 (.cons (.ret (.cmp .eq (.call 3 (.cons (.ixv 0 (.k (.int 0))) (.cons (.ixv 0 (.k (.int 1))) .nil))) (.k (.int 1))))
 .nil)))⟩
def d_is_ratio : Dt := ⟨"is_ratio", tp 6, ["thing", "one"], ["thing"], f_is_ratio⟩
theorem b_is_ratio : d_is_ratio.Bi := fun _ _ _ _ _ _ us hl => match us, hl with | [_], _ => rfl
/-- 5 made: 0=top 1=bottom 2=part -/
def f_made : Fn := ⟨2, 3, (.cons (.asg (.n 2) (.call 3 (.cons (.v 0) (.cons (.v 1) .nil))))
 (.cons (.asg (.n 2) (.ife (.e (.cmp .gt (.v 1) (.k (.int 0)))) (.v 2) (.bin .sub (.k (.int 0)) (.v 2))))
 (.cons (.ret (.tup (.cons (.bin .fdiv (.v 0) (.v 2)) (.cons (.bin .fdiv (.v 1) (.v 2)) .nil))))
 .nil)))⟩
def d_made : Dt := ⟨"made", tp 12, ["top", "bottom", "part"], ["top", "bottom"], f_made⟩
theorem b_made : d_made.Bi := fun _ _ _ _ _ _ us hl => match us, hl with | [_, _], _ => rfl
/-- 6 plus: 0=one 1=other -/
def f_plus : Fn := ⟨2, 2, (.cons (.ret (.call 5 (.cons (.bin .add (.bin .mul (.ixv 0 (.k (.int 0))) (.ixv 1 (.k (.int 1)))) (.bin .mul (.ixv 1 (.k (.int 0))) (.ixv 0 (.k (.int 1))))) (.cons (.bin .mul (.ixv 0 (.k (.int 1))) (.ixv 1 (.k (.int 1)))) .nil))))
 .nil)⟩
def d_plus : Dt := ⟨"plus", tp 13, ["one", "other"], ["one", "other"], f_plus⟩
theorem b_plus : d_plus.Bi := fun _ _ _ _ _ _ us hl => match us, hl with | [_, _], _ => rfl
/-- 7 is_less: 0=one 1=other -/
def f_is_less : Fn := ⟨2, 2, (.cons (.ret (.cmp .lt (.bin .mul (.ixv 0 (.k (.int 0))) (.ixv 1 (.k (.int 1)))) (.bin .mul (.ixv 1 (.k (.int 0))) (.ixv 0 (.k (.int 1))))))
 .nil)⟩
def d_is_less : Dt := ⟨"is_less", tp 14, ["one", "other"], ["one", "other"], f_is_less⟩
theorem b_is_less : d_is_less.Bi := fun _ _ _ _ _ _ us hl => match us, hl with | [_, _], _ => rfl
/-- 8 are_known: 0=thing 1=one -/
def f_are_known : Fn := ⟨1, 2, (.cons (.ite (.or (.not (.e (.call 2 (.cons (.v 0) (.cons (.k (.int 1)) (.cons (.g 1) .nil)))))) (.not (.e (.b1 .all (.lc (.cmp .lt (.b1 .abs (.v 1)) (.g 2)) (.n 1) (.of (.v 0)) .yes)))))
 (.cons (.ret (.k (.bool false)))
 .nil)
 .nil)
 (.cons (.ret (.b1 .all (.lc (.cmp .gt (.v 1) (.k (.int 0))) (.n 1) (.of (.slv 0 (.k (.int 1)) .nop)) .yes)))
 .nil))⟩
def d_are_known : Dt := ⟨"are_known", tp 18, ["thing", "one"], ["thing"], f_are_known⟩
theorem b_are_known : d_are_known.Bi := fun _ _ _ _ _ _ us hl => match us, hl with | [_], _ => rfl
/-- 9 check_known: 0=known -/
def f_check_known : Fn := ⟨1, 1, (.cons (.ite (.not (.e (.call 8 (.cons (.v 0) .nil))))
 (.cons (.raise 1)
 .nil)
 .nil)
 .nil)⟩
def d_check_known : Dt := ⟨"check_known", tp 19, ["known"], ["known"], f_check_known⟩
theorem b_check_known : d_check_known.Bi := fun _ _ _ _ _ _ us hl => match us, hl with | [_], _ => rfl
/-- 10 number_of: 0=known 1=rest 2=found 3=term -/
def f_number_of_b1 : Ss := (.cons (.asg (.n 2) (.ife (.e (.cmp .is (.v 2) (.k .none))) (.tup (.cons (.v 3) (.cons (.k (.int 1)) .nil))) (.call 6 (.cons (.tup (.cons (.v 3) (.cons (.k (.int 1)) .nil))) (.cons (.call 5 (.cons (.ixv 2 (.k (.int 1))) (.cons (.ixv 2 (.k (.int 0))) .nil))) .nil)))))
 .nil)
def f_number_of_l1 : S := (.for_ (.n 3) (.of (.rev (.v 0))) f_number_of_b1)
def f_number_of : Fn := ⟨2, 4, (.cons (.asg (.n 2) (.v 1))
 (.cons f_number_of_l1
 (.cons (.retv 2)
 .nil)))⟩
def d_number_of : Dt := ⟨"number_of", tp 20, ["known", "rest", "found", "term"], ["known", "rest"], f_number_of⟩
theorem b_number_of : d_number_of.Bi := fun _ _ _ _ _ _ us hl => match us, hl with | [_, _], _ => rfl
/-- 11 is_rest: 0=thing -/
def f_is_rest : Fn := ⟨1, 1, (.cons (.ret (.or (.cmp .is (.v 0) (.k .none)) (.and (.call 4 (.cons (.v 0) .nil)) (.cmp .ge (.ixv 0 (.k (.int 0))) (.ixv 0 (.k (.int 1)))))))
 .nil)⟩
def d_is_rest : Dt := ⟨"is_rest", tp 21, ["thing"], ["thing"], f_is_rest⟩
theorem b_is_rest : d_is_rest.Bi := fun _ _ _ _ _ _ us hl => match us, hl with | [_], _ => rfl
/-- 12 number_by: 0=known 1=rest -/
def f_number_by : Fn := ⟨2, 2, (.cons (.expr (.call 9 (.cons (.v 0) .nil)))
 (.cons (.ite (.not (.e (.call 11 (.cons (.v 1) .nil))))
 (.cons (.raise 2)
 .nil)
 .nil)
 (.cons (.ret (.call 10 (.cons (.v 0) (.cons (.v 1) .nil))))
 .nil)))⟩
def d_number_by : Dt := ⟨"number_by", tp 22, ["known", "rest"], ["known", "rest"], f_number_by⟩
theorem b_number_by : d_number_by.Bi := fun _ _ _ _ _ _ us hl => match us, hl with | [_, _], _ => rfl
/-- 13 ends_of: 0=known -/
def f_ends_of : Fn := ⟨1, 1, (.cons (.ret (.tup (.cons (.call 10 (.cons (.v 0) (.cons (.k .none) .nil))) (.cons (.call 10 (.cons (.v 0) (.cons (.tup (.cons (.k (.int 1)) (.cons (.k (.int 1)) .nil))) .nil))) .nil))))
 .nil)⟩
def d_ends_of : Dt := ⟨"ends_of", tp 23, ["known"], ["known"], f_ends_of⟩
theorem b_ends_of : d_ends_of.Bi := fun _ _ _ _ _ _ us hl => match us, hl with | [_], _ => rfl
/-- 14 room_of: 0=known 1=one 2=other -/
def f_room_of : Fn := ⟨1, 3, (.cons (.asg (.t [1, 2]) (.call 13 (.cons (.v 0) .nil)))
 (.cons (.ret (.ife (.e (.call 7 (.cons (.v 2) (.cons (.v 1) .nil)))) (.tup (.cons (.v 2) (.cons (.v 1) .nil))) (.tup (.cons (.v 1) (.cons (.v 2) .nil)))))
 .nil))⟩
def d_room_of : Dt := ⟨"room_of", tp 24, ["known", "one", "other"], ["known"], f_room_of⟩
theorem b_room_of : d_room_of.Bi := fun _ _ _ _ _ _ us hl => match us, hl with | [_], _ => rfl
/-- 15 room: 0=known -/
def f_room : Fn := ⟨1, 1, (.cons (.expr (.call 9 (.cons (.v 0) .nil)))
 (.cons (.ret (.call 14 (.cons (.v 0) .nil)))
 .nil))⟩
def d_room : Dt := ⟨"room", tp 25, ["known"], ["known"], f_room⟩
theorem b_room : d_room.Bi := fun _ _ _ _ _ _ us hl => match us, hl with | [_], _ => rfl
/-- 16 _law_hand: 0=script 1=cells 2=cell -/
def f__law_hand : Fn := ⟨1, 3, (.cons (.asg (.n 1) (.lc (.b1 .abs (.b1 .int (.v 2))) (.n 2) (.of (.scr 0 63)) .yes))
 (.cons (.ret (.lst (.cons (.v 1) (.cons (.k (.int 0)) (.cons (.k (.int 0)) (.cons (.bin .add (.k (.int 97)) (.bin .mul (.k (.int 5)) (.b1 .len (.v 1)))) (.cons (.k (.int 0)) .nil)))))))
 .nil))⟩
def d__law_hand : Dt := ⟨"_law_hand", tp 27, ["script", "cells", "cell"], ["script"], f__law_hand⟩
theorem b__law_hand : d__law_hand.Bi := fun _ _ _ _ _ _ us hl => match us, hl with | [_], _ => rfl
/-- 17 _law_draw: 0=hand 1=many 2=number 3=cell 4=figure -/
def f__law_draw : Fn := ⟨2, 5, (.cons (.ite (.and (.e (.cmp .eq (.ixv 0 (.k (.int 2))) (.k (.int 0)))) (.e (.cmp .lt (.ixv 0 (.k (.int 1))) (.b1 .len (.ixv 0 (.k (.int 0)))))))
 (.cons (.asg (.n 3) (.ix (.ixv 0 (.k (.int 0))) (.ixv 0 (.k (.int 1)))))
 (.cons (.set 0 (.k (.int 1)) (.bin .add (.ixv 0 (.k (.int 1))) (.k (.int 1))))
 (.cons (.set 0 (.k (.int 3)) (.bin .mod (.b1 .int (.bin .add (.bin .add (.bin .mul (.ixv 0 (.k (.int 3))) (.k (.int 48271))) (.v 3)) (.k (.int 31)))) (.k (.int 2147483647))))
 (.cons (.ite (.e (.cmp .ge (.v 3) (.bin .pow (.k (.int 10)) (.k (.int 18)))))
 (.cons (.set 0 (.k (.int 2)) (.v 3))
 .nil)
 .nil)
 .nil))))
 .nil)
 (.cons (.ite (.e (.cmp .gt (.ixv 0 (.k (.int 2))) (.k (.int 0))))
 (.cons (.asg (.n 4) (.bin .mod (.b1 .int (.ixv 0 (.k (.int 2)))) (.v 1)))
 (.cons (.set 0 (.k (.int 2)) (.bin .fdiv (.ixv 0 (.k (.int 2))) (.v 1)))
 (.cons (.retv 4)
 .nil)))
 .nil)
 (.cons (.set 0 (.k (.int 4)) (.bin .add (.ixv 0 (.k (.int 4))) (.k (.int 1))))
 (.cons (.asg (.n 2) (.bin .mod (.b1 .int (.bin .mul (.b1 .int (.bin .add (.ixv 0 (.k (.int 3))) (.bin .mul (.k (.int 6151)) (.ixv 0 (.k (.int 4)))))) (.k (.int 40692)))) (.k (.int 2147483399))))
 (.cons (.asg (.n 2) (.bin .mod (.b1 .int (.bin .mul (.v 2) (.bin .add (.bin .fdiv (.v 2) (.k (.int 1223))) (.k (.int 52027))))) (.k (.int 2147483629))))
 (.cons (.asg (.n 2) (.bin .mod (.b1 .int (.bin .mul (.v 2) (.bin .add (.bin .fdiv (.v 2) (.k (.int 2671))) (.k (.int 69621))))) (.k (.int 2147483647))))
 (.cons (.ret (.bin .mod (.b1 .int (.bin .fdiv (.v 2) (.k (.int 32)))) (.v 1)))
 .nil)))))))⟩
def d__law_draw : Dt := ⟨"_law_draw", tp 28, ["hand", "many", "number", "cell", "figure"], ["hand", "many"], f__law_draw⟩
theorem b__law_draw : d__law_draw.Bi := fun _ _ _ _ _ _ us hl => match us, hl with | [_, _], _ => rfl
/-- 18 _law_some: 0=hand 1=things -/
def f__law_some : Fn := ⟨2, 2, (.cons (.ret (.ixv 1 (.cio 17 0 (.cons (.b1 .len (.v 1)) .nil))))
 .nil)⟩
def d__law_some : Dt := ⟨"_law_some", tp 29, ["hand", "things"], ["hand", "things"], f__law_some⟩
theorem b__law_some : d__law_some.Bi := fun _ _ _ _ _ _ us hl => match us, hl with | [_, _], _ => rfl
/-- 19 _law_low: 0=top 1=bottom 2=other 3=one -/
def f__law_low_b1 : Ss := (.cons (.par [3, 2] (.cons (.bin .mod (.b1 .int (.v 2)) (.v 3)) (.cons (.v 3) .nil)))
 .nil)
def f__law_low_l1 : S := (.whl (.e (.cmp .gt (.v 3) (.k (.int 0)))) f__law_low_b1)
def f__law_low : Fn := ⟨2, 4, (.cons (.par [3, 2] (.cons (.b1 .abs (.v 0)) (.cons (.b1 .abs (.v 1)) .nil)))
 (.cons f__law_low_l1
 (.cons (.asg (.n 2) (.ife (.e (.cmp .gt (.v 1) (.k (.int 0)))) (.v 2) (.bin .sub (.k (.int 0)) (.v 2))))
 (.cons (.ret (.tup (.cons (.bin .fdiv (.v 0) (.v 2)) (.cons (.bin .fdiv (.v 1) (.v 2)) .nil))))
 .nil))))⟩
def d__law_low : Dt := ⟨"_law_low", tp 30, ["top", "bottom", "other", "one"], ["top", "bottom"], f__law_low⟩
theorem b__law_low : d__law_low.Bi := fun _ _ _ _ _ _ us hl => match us, hl with | [_, _], _ => rfl
/-- 20 _law_less: 0=one 1=other -/
def f__law_less : Fn := ⟨2, 2, (.cons (.ret (.cmp .lt (.bin .mul (.ixv 0 (.k (.int 0))) (.ixv 1 (.k (.int 1)))) (.bin .mul (.ixv 1 (.k (.int 0))) (.ixv 0 (.k (.int 1))))))
 .nil)⟩
def d__law_less : Dt := ⟨"_law_less", tp 31, ["one", "other"], ["one", "other"], f__law_less⟩
theorem b__law_less : d__law_less.Bi := fun _ _ _ _ _ _ us hl => match us, hl with | [_, _], _ => rfl
/-- 21 _law_value: 0=terms 1=rest 2=here 3=term -/
def f__law_value_b1 : Ss := (.cons (.asg (.n 2) (.ife (.e (.cmp .is (.v 2) (.k .none))) (.tup (.cons (.v 3) (.cons (.k (.int 1)) .nil))) (.call 19 (.cons (.bin .add (.bin .mul (.v 3) (.ixv 2 (.k (.int 0)))) (.ixv 2 (.k (.int 1)))) (.cons (.ixv 2 (.k (.int 0))) .nil)))))
 .nil)
def f__law_value_l1 : S := (.for_ (.n 3) (.of (.rev (.v 0))) f__law_value_b1)
def f__law_value : Fn := ⟨2, 4, (.cons (.asg (.n 2) (.v 1))
 (.cons f__law_value_l1
 (.cons (.retv 2)
 .nil)))⟩
def d__law_value : Dt := ⟨"_law_value", tp 32, ["terms", "rest", "here", "term"], ["terms", "rest"], f__law_value⟩
theorem b__law_value : d__law_value.Bi := fun _ _ _ _ _ _ us hl => match us, hl with | [_, _], _ => rfl
/-- 22 _law_known: 0=hand 1=found 2=turn -/
def f__law_known_b1 : Ss := (.cons (.app 1 (.bin .add (.k (.int 1)) (.cio 18 0 (.cons (.lst (.cons (.k (.int 0)) (.cons (.k (.int 0)) (.cons (.k (.int 1)) (.cons (.k (.int 2)) (.cons (.k (.int 3)) (.cons (.k (.int 9)) (.cons (.k (.int 100)) .nil)))))))) .nil))))
 .nil)
def f__law_known_l1 : S := (.for_ (.n 2) (.rng (.cons (.cio 17 0 (.cons (.k (.int 5)) .nil)) .nil)) f__law_known_b1)
def f__law_known : Fn := ⟨1, 3, (.cons (.asg (.n 1) (.lst (.cons (.bin .sub (.cio 17 0 (.cons (.k (.int 12)) .nil)) (.k (.int 4))) .nil)))
 (.cons f__law_known_l1
 (.cons (.ret (.b1 .tuple (.v 1)))
 .nil)))⟩
def d__law_known : Dt := ⟨"_law_known", tp 33, ["hand", "found", "turn"], ["hand"], f__law_known⟩
theorem b__law_known : d__law_known.Bi := fun _ _ _ _ _ _ us hl => match us, hl with | [_], _ => rfl
/-- 23 _law_rest: 0=hand 1=bottom -/
def f__law_rest : Fn := ⟨1, 2, (.cons (.ite (.e (.cmp .eq (.cio 17 0 (.cons (.k (.int 4)) .nil)) (.k (.int 0))))
 (.cons (.ret (.k .none))
 .nil)
 .nil)
 (.cons (.asg (.n 1) (.bin .add (.k (.int 1)) (.cio 17 0 (.cons (.k (.int 9)) .nil))))
 (.cons (.ret (.call 19 (.cons (.bin .add (.v 1) (.cio 17 0 (.cons (.k (.int 30)) .nil))) (.cons (.v 1) .nil))))
 .nil)))⟩
def d__law_rest : Dt := ⟨"_law_rest", tp 34, ["hand", "bottom"], ["hand"], f__law_rest⟩
theorem b__law_rest : d__law_rest.Bi := fun _ _ _ _ _ _ us hl => match us, hl with | [_], _ => rfl
/-- 24 _law_room: 0=known 1=one 2=other -/
def f__law_room : Fn := ⟨1, 3, (.cons (.par [1, 2] (.cons (.call 21 (.cons (.v 0) (.cons (.k .none) .nil))) (.cons (.call 21 (.cons (.v 0) (.cons (.tup (.cons (.k (.int 1)) (.cons (.k (.int 1)) .nil))) .nil))) .nil)))
 (.cons (.ret (.ife (.e (.call 20 (.cons (.v 1) (.cons (.v 2) .nil)))) (.tup (.cons (.v 1) (.cons (.v 2) .nil))) (.tup (.cons (.v 2) (.cons (.v 1) .nil)))))
 .nil))⟩
def d__law_room : Dt := ⟨"_law_room", tp 35, ["known", "one", "other"], ["known"], f__law_room⟩
theorem b__law_room : d__law_room.Bi := fun _ _ _ _ _ _ us hl => match us, hl with | [_], _ => rfl
/-- 25 _law_is: 0=told 1=due 2=key 3=one 4=two -/
def f__law_is : Fn := ⟨2, 5, (.cons (.ite (.e (.isi (.v 1) [.tup, .lst]))
 (.cons (.ite (.or (.e (.cmp .ne (.isi (.v 0) [.tup]) (.isi (.v 1) [.tup]))) (.not (.e (.isi (.v 0) [.tup, .lst]))))
 (.cons (.ret (.k (.bool false)))
 .nil)
 .nil)
 (.cons (.ret (.and (.cmp .eq (.b1 .len (.v 0)) (.b1 .len (.v 1))) (.b1 .all (.lc (.call 25 (.cons (.v 3) (.cons (.v 4) .nil))) (.t [3, 4]) (.zip (.v 0) (.v 1)) .yes))))
 .nil))
 .nil)
 (.cons (.ite (.e (.isi (.v 1) [.dic]))
 (.cons (.ite (.or (.not (.e (.isi (.v 0) [.dic]))) (.e (.cmp .ne (.b1 .len (.v 0)) (.b1 .len (.v 1)))))
 (.cons (.ret (.k (.bool false)))
 .nil)
 .nil)
 (.cons (.ret (.b1 .all (.lc (.and (.cmp .isin (.v 2) (.v 0)) (.call 25 (.cons (.ixv 0 (.v 2)) (.cons (.ixv 1 (.v 2)) .nil)))) (.n 2) (.of (.v 1)) .yes)))
 .nil))
 .nil)
 (.cons (.ite (.or (.e (.isi (.v 1) [.str])) (.e (.cmp .is (.v 1) (.k .none))))
 (.cons (.ret (.and (.cmp .eq (.isi (.v 0) [.str]) (.isi (.v 1) [.str])) (.cmp .eq (.v 0) (.v 1))))
 .nil)
 .nil)
 (.cons (.ret (.and (.isi (.v 0) [.int]) (.and (.cmp .eq (.isi (.v 0) [.bool]) (.isi (.v 1) [.bool])) (.cmp .eq (.v 0) (.v 1)))))
 .nil))))⟩
def d__law_is : Dt := ⟨"_law_is", tp 36, ["told", "due", "key", "one", "two"], ["told", "due"], f__law_is⟩
theorem b__law_is : d__law_is.Bi := fun _ _ _ _ _ _ us hl => match us, hl with | [_, _], _ => rfl
/-- 26 law: 0=script 1=hand 2=turn 3=known 4=again 5=longer 6=low 7=high 8=rest 9=told 10=less 11=more -/
def f_law_b1 : Ss := (.cons (.asg (.n 8) (.cio 23 1 .nil))
 (.cons (.asg (.n 9) (.call 12 (.cons (.v 3) (.cons (.v 8) .nil))))
 (.cons (.ite (.or (.not (.e (.call 25 (.cons (.v 9) (.cons (.call 21 (.cons (.v 3) (.cons (.v 8) .nil))) .nil))))) (.or (.e (.call 20 (.cons (.v 9) (.cons (.v 6) .nil)))) (.e (.call 20 (.cons (.v 7) (.cons (.v 9) .nil))))))
 (.cons (.ret (.k (.bool false)))
 .nil)
 .nil)
 .nil)))
def f_law_l1 : S := (.for_ (.n 4) (.rng (.cons (.k (.int 4)) .nil)) f_law_b1)
def f_law_b2 : Ss := (.cons (.asg (.n 3) (.cio 22 1 .nil))
 (.cons (.asg (.t [6, 7]) (.call 24 (.cons (.v 3) .nil)))
 (.cons (.ite (.not (.e (.call 25 (.cons (.call 15 (.cons (.v 3) .nil)) (.cons (.tup (.cons (.v 6) (.cons (.v 7) .nil))) .nil)))))
 (.cons (.ret (.k (.bool false)))
 .nil)
 .nil)
 (.cons f_law_l1
 (.cons (.asg (.n 5) (.bin .add (.v 3) (.tup (.cons (.bin .add (.k (.int 1)) (.cio 17 1 (.cons (.k (.int 9)) .nil))) .nil))))
 (.cons (.asg (.t [10, 11]) (.call 15 (.cons (.v 5) .nil)))
 (.cons (.ite (.or (.e (.call 20 (.cons (.v 10) (.cons (.v 6) .nil)))) (.e (.call 20 (.cons (.v 7) (.cons (.v 11) .nil)))))
 (.cons (.ret (.k (.bool false)))
 .nil)
 .nil)
 (.cons (.ite (.e (.cmp .ne (.b1 .sorted (.lst (.cons (.call 12 (.cons (.v 3) (.cons (.k .none) .nil))) (.cons (.call 12 (.cons (.v 3) (.cons (.tup (.cons (.k (.int 1)) (.cons (.k (.int 1)) .nil))) .nil))) .nil)))) (.b1 .sorted (.lst (.cons (.v 6) (.cons (.v 7) .nil))))))
 (.cons (.ret (.k (.bool false)))
 .nil)
 .nil)
 .nil))))))))
def f_law_l2 : S := (.for_ (.n 2) (.rng (.cons (.k (.int 8)) .nil)) f_law_b2)
def f_law : Fn := ⟨1, 12, (.cons (.asg (.n 1) (.craw 16 0))
 (.cons f_law_l2
 (.cons (.ret (.k (.bool true)))
 .nil)))⟩
def d_law : Dt := ⟨"law", tp 37, ["script", "hand", "turn", "known", "again", "longer", "low", "high", "rest", "told", "less", "more"], ["script"], f_law⟩
theorem b_law : d_law.Bi := fun _ _ _ _ _ _ us hl => match us, hl with | [_], _ => rfl
def L : List Dt := [d_is_integer, d_is_sized, d_are_integers, d_common, d_is_ratio, d_made, d_plus, d_is_less, d_are_known, d_check_known, d_number_of, d_is_rest, d_number_by, d_ends_of, d_room_of, d_room, d__law_hand, d__law_draw, d__law_some, d__law_low, d__law_less, d__law_value, d__law_known, d__law_rest, d__law_room, d__law_is, d_law]
def PL : List Fn := [f_is_integer, f_is_sized, f_are_integers, f_common, f_is_ratio, f_made, f_plus, f_is_less, f_are_known, f_check_known, f_number_of, f_is_rest, f_number_by, f_ends_of, f_room_of, f_room, f__law_hand, f__law_draw, f__law_some, f__law_low, f__law_less, f__law_value, f__law_known, f__law_rest, f__law_room, f__law_is, f_law]
def gls : List (Str × PyData) := [("MOST_DIGITS", (.int 10000000000000000000000000000000000000000)), ("MOST_KNOWN", (.int 20)), ("MOST_PART", (.int 1000000000000))]
def exs : List Str := ["RatioError", "NoKnown", "NoRest"]
end Lw
namespace Lw
open Pv PySem
abbrev Pg : List Fn := plOf L
abbrev Gg : Nat → Option PyData := glOf gls
variable {n : Nat} {ts : List Int}
theorem l_checkknown (kn : Kn ts) : run Pg Gg (n + 4) 9 [.v (tuI ts)] = .ret (.pv .none) none :=
  check1_ok (jr := 8) (x := 1) rfl (areKnown_ok (ja := 2) (ji := 0) (js := 1) (g1 := 1) (g2 := 2) rfl rfl rfl rfl rfl rfl kn)
theorem l_numby {k : Nat} {r : Option (Int × Int)} (kn : Kn ts) (h : RestOk k r) (hb : bnd ts * k < 2 ^ 120) (hk : k < 10 ^ 30) : run Pg Gg (n + 5) 12 [.v (tuI ts), .v (dO r)] = .ret (.pv (pr (valV ts (vec r)))) none := by
  have c1 := l_checkknown (n := n) kn
  have c2 := isRest_ok (P := Pg) (gl := Gg) (n := n + 1) (j := 11) (jr := 4) (ji := 0) (js := 1) (jc := 3) (g := 0) rfl rfl rfl rfl rfl rfl h (by omega)
  have c3 := num_ok (P := Pg) (gl := Gg) (n := n) (j := 10) (jp := 6) (jm := 5) (jc := 3) rfl rfl rfl rfl (kn.ok h hb)
  have := numBy_ok (P := Pg) (gl := Gg) (k := 0) (n := n) (j := 12) (jf := 9) (jr := 11) (jn := 10) (x := 2) rfl c1 c2 c3
  rw [valK_eq _ kn.ne] at this
  exact this
theorem l_val {k : Nat} {r : Option (Int × Int)} (kn : Kn ts) (h : RestOk k r) (hb : bnd ts * k < 2 ^ 120) : run Pg Gg (n + 2) 21 [.v (tuI ts), .v (dO r)] = .ret (.pv (pr (valV ts (vec r)))) none := by
  have := val_ok (P := Pg) (gl := Gg) (n := n) (j := 21) (jl := 19) rfl rfl (kn.ok h hb)
  rw [valK_eq _ kn.ne] at this
  exact this
theorem l_room (kn : Kn ts) (hb : bnd ts < 2 ^ 100) : run Pg Gg (n + 7) 15 [.v (tuI ts)] = .ret (.pv (.tuple [pr (roomV ts).1, pr (roomV ts).2])) none := by
  have c2 := l_checkknown (n := n + 2) kn
  have ro := roomOf_ok (P := Pg) (gl := Gg) (n := n) (j := 14) (je := 13) (jl := 7) (jn := 10) (jp := 6) (jm := 5) (jc := 3) rfl rfl rfl rfl rfl rfl rfl kn (Nat.lt_trans hb (by decide))
  rw [run_succ (f := f_room) rfl, if_pos ⟨rfl, rfl⟩]
  simp [f_room, c2, ro]
theorem l_lawroom (kn : Kn ts) (hb : bnd ts < 2 ^ 100) : run Pg Gg (n + 3) 24 [.v (tuI ts)] = .ret (.pv (.tuple [pr (roomV ts).1, pr (roomV ts).2])) none :=
  lawRoom_ok (P := Pg) (gl := Gg) (n := n) (j := 24) (jv := 21) (jl := 20) (jw := 19) rfl rfl rfl rfl kn (Nat.lt_trans hb (by decide))
theorem is_two (p q : Int × Int) : run Pg Gg (n + 3) 25 [.v (.tuple [pr p, pr q]), .v (.tuple [pr p, pr q])] = .ret (.pv (.bool true)) none := by
  refine is_tup (j := 25) (m := n + 2) rfl _ lim2 ?_
  intro e he
  simp at he
  rcases he with rfl | rfl <;> exact is_pr (j := 25) (n := n) rfl _
/-! ### longer known terms -/
theorem valV_snoc (t : Int) (x : Int × Int) : ∀ us : List Int, valV (us ++ [t]) x = valV us (t * x.1 + x.2, x.1)
  | [] => rfl
  | u :: us => by
    show (u * (valV (us ++ [t]) x).1 + (valV (us ++ [t]) x).2, (valV (us ++ [t]) x).1) = _
    rw [valV_snoc t x us]
    rfl
theorem kn_snoc {t : Int} (kd : KnD ts) (h0 : 0 < t) (h1 : t ≤ 101) : Kn (ts ++ [t]) ∧ bnd (ts ++ [t]) < 2 ^ 100 := by
  have e : ∀ u ∈ ts ++ [t], u.natAbs ≤ 101 := fun u hu => by
    rcases List.mem_append.mp hu with hu | hu
    · exact kd.each u hu
    · have : u = t := by simpa using hu
      omega
  have hl : (ts ++ [t]).length ≤ 6 := by
    have := kd.len
    rw [List.length_append]
    simp
    omega
  refine ⟨⟨by simp, by omega, fun u hu => ?_, fun u hu => by have := e u hu; omega⟩, Nat.lt_of_le_of_lt (bnd_le e) (Nat.lt_of_le_of_lt (Nat.pow_le_pow_right (by decide) hl) (by decide))⟩
  cases ts with
  | nil => exact absurd rfl kd.kn.ne
  | cons a as =>
    have hu : u ∈ as ++ [t] := hu
    rcases List.mem_append.mp hu with hu | hu
    · exact kd.kn.tail u hu
    · have : u = t := by simpa using hu
      omega
theorem narrower {t : Int} (h0 : 0 < t) : ¬ lessP (roomV (ts ++ [t])).1 (roomV ts).1 ∧ ¬ lessP (roomV ts).2 (roomV (ts ++ [t])).2 := by
  have a1 := in_room ts (x := (t * 1 + 0, 1)) (by dsimp only; omega) (by dsimp only; omega)
  have a2 := in_room ts (x := (t * 1 + 1, 1)) (by dsimp only; omega) (by dsimp only; omega)
  have e1 : valV (ts ++ [t]) (1, 0) = valV ts (t * 1 + 0, 1) := valV_snoc t (1, 0) ts
  have e2 : valV (ts ++ [t]) (1, 1) = valV ts (t * 1 + 1, 1) := valV_snoc t (1, 1) ts
  unfold roomV at *
  rw [e1, e2]
  split
  · exact ⟨a2.1, a1.2⟩
  · exact ⟨a1.1, a2.2⟩
/-! ### the ends, sorted -/
theorem sort_two (x y : Int × Int) : ∃ u v, sortP [x, y] = [u, v] ∧ sortP [y, x] = [u, v] := by
  have e : sortP [y, x] = sortP [x, y] := sortP_uniq ((sortP_perm [y, x]).trans (List.Perm.swap x y [])) (sortP_sorted _)
  have l := (sortP_perm [x, y]).length_eq
  rw [e]
  match h : sortP [x, y], l with
  | [u, v], _ => exact ⟨u, v, rfl, rfl⟩
theorem sorted_two {x y u v : Int × Int} (h : sortP [x, y] = [u, v]) : bltD .sorted [.list [pr x, pr y]] = some (.list [pr u, pr v]) := by
  show sortD [pr x, pr y] = _
  have e1 : intsOf [pr x, pr y] = none := rfl
  have e2 : pairsOf [pr x, pr y] = some [x, y] := rfl
  unfold sortD
  rw [e1, e2]
  show some (PyData.list ((sortP [x, y]).map prD)) = _
  rw [h]
  rfl
theorem ne_lists (u v : Int × Int) : cmpD .ne (.list [pr u, pr v]) (.list [pr u, pr v]) = some false := by
  rw [cmp_ne rfl rfl]
  have e : PyData.eqv (.list [pr u, pr v]) (.list [pr u, pr v]) = ((u.1 == u.1 && (u.2 == u.2 && true)) && ((v.1 == v.1 && (v.2 == v.2 && true)) && true)) := rfl
  rw [e]
  simp
theorem bv_srt (xs : List PyData) : bltV .sorted (.list xs) = .fr xs := rfl
theorem rest_ok {s : Option Slot} {xs : List PyData} {c : Nat} {z2 z4 z5 z8 z9 z10 z11 : Option PyData} (kd : KnD ts) (H : HandOk c xs) (hc : c < 100000) :
    ∃ (ys : List PyData) (y4 y8 y9 : Option PyData), evS ⟨run Pg Gg (n + 8), Gg⟩ f_law_l1 [s, some (.own xs), z2.map Slot.v, some (.v (tuI ts)), z4.map Slot.v, z5.map Slot.v, some (.v (pr (roomV ts).1)), some (.v (pr (roomV ts).2)), z8.map Slot.v, z9.map Slot.v, z10.map Slot.v, z11.map Slot.v]
      = .nx [s, some (.own ys), z2.map Slot.v, some (.v (tuI ts)), y4.map Slot.v, z5.map Slot.v, some (.v (pr (roomV ts).1)), some (.v (pr (roomV ts).2)), y8.map Slot.v, y9.map Slot.v, z10.map Slot.v, z11.map Slot.v] ∧ HandOk (c + 12) ys := by
  have kn := kd.kn
  have hb0 := kd.bnd
  have hb : bnd ts < 2 ^ 100 := Nat.lt_of_le_of_lt hb0 (by decide)
  have hb40 : bnd ts * 40 ≤ 102 ^ 5 * 40 := Nat.mul_le_mul_right _ hb0
  obtain ⟨s1, s2, p1, p2, l⟩ := roomV_facts kn hb
  unfold f_law_l1
  rw [s_for, i_rngA (ds := [.int 4]) (ρ' := [s, some (.own xs), z2.map Slot.v, some (.v (tuI ts)), z4.map Slot.v, z5.map Slot.v, some (.v (pr (roomV ts).1)), some (.v (pr (roomV ts).2)), z8.map Slot.v, z9.map Slot.v, z10.map Slot.v, z11.map Slot.v]) (by simp) (show rngOf [.int 4] = some (0, 4, 1) from rngOfA (k := 4) (by decide)), R.toS_ok]
  obtain ⟨ρ', f1, ys, y4, y8, y9, f2, f3⟩ := forGo_inv (f := fun x ρ => (putT ρ (.n 4) x).toS fun _ ρ => evSs ⟨run Pg Gg (n + 8), Gg⟩ f_law_b1 ρ) (ds := rangeD 0 4 1) (ρ := [s, some (.own xs), z2.map Slot.v, some (.v (tuI ts)), z4.map Slot.v, z5.map Slot.v, some (.v (pr (roomV ts).1)), some (.v (pr (roomV ts).2)), z8.map Slot.v, z9.map Slot.v, z10.map Slot.v, z11.map Slot.v])
    (fun i ρ => ∃ (ys : List PyData) (y4 y8 y9 : Option PyData), ρ = [s, some (.own ys), z2.map Slot.v, some (.v (tuI ts)), y4.map Slot.v, z5.map Slot.v, some (.v (pr (roomV ts).1)), some (.v (pr (roomV ts).2)), y8.map Slot.v, y9.map Slot.v, z10.map Slot.v, z11.map Slot.v] ∧ HandOk (c + 3 * i) ys) ⟨xs, z4, z8, z9, rfl, H⟩ (by
      rintro i d ρ hd ⟨ys, y4, y8, y9, rfl, G⟩
      have hi : i < 4 := by
        have := (List.getElem?_eq_some_iff.mp hd).1
        rwa [rangeD_len] at this
      obtain ⟨r, ws, k1, k2, k3⟩ := lawRest_ok (P := Pg) (gl := Gg) (n := n + 6) (j := 23) (jd := 17) (jl := 19) rfl rfl rfl G (by omega)
      have cu := fun s rest => cio_u (C := ⟨run Pg Gg (n + 8), Gg⟩) (j := 23) (s := s) (rest := rest) k1
      have nb := l_numby (n := n + 3) kn k3 (Nat.lt_of_le_of_lt hb40 (by decide)) (by decide)
      have vl := l_val (n := n + 6) kn k3 (Nat.lt_of_le_of_lt hb40 (by decide))
      have ra := kn.rat k3
      have sw : Small (valV ts (vec r)) := ra.small (Nat.lt_of_le_of_lt hb40 (by decide))
      have pv := k3.pos
      have bt : (vec r).2 ≤ (vec r).1 := by
        cases r with
        | none => decide
        | some p => exact (k3.2 p rfl).2.1
      obtain ⟨i1, i2⟩ := in_room ts (x := vec r) pv.bot bt
      have i3 := is_pr (P := Pg) (gl := Gg) (j := 25) (n := n + 6) rfl (valV ts (vec r))
      have l1 := less_ok (P := Pg) (gl := Gg) (n := n + 7) (j := 20) (p := valV ts (vec r)) (q := (roomV ts).1) rfl sw.h1 sw.h2 s1.h1 s1.h2
      have l2 := less_ok (P := Pg) (gl := Gg) (n := n + 7) (j := 20) (p := (roomV ts).2) (q := valV ts (vec r)) rfl s2.h1 s2.h2 sw.h1 sw.h2
      have i1' : ¬ (valV ts (vec r)).1 * (roomV ts).1.2 < (roomV ts).1.1 * (valV ts (vec r)).2 := i1
      have i2' : ¬ (roomV ts).2.1 * (valV ts (vec r)).2 < (valV ts (vec r)).1 * (roomV ts).2.2 := i2
      simp only [i1', decide_false] at l1
      simp only [i2', decide_false] at l2
      refine ⟨_, ?_, ws, some d, some (dO r), some (pr (valV ts (vec r))), rfl, by rw [Nat.mul_add]; exact k2⟩
      simp [f_law_b1, cu, nb, vl, i3, l1, l2])
  rw [rangeD_len] at f3
  exact ⟨ys, y4, y8, y9, by rw [f1, f2], f3⟩
theorem turn_ok {s : Option Slot} {xs : List PyData} {c : Nat} {z2 z3 z4 z5 z6 z7 z8 z9 z10 z11 : Option PyData} (H : HandOk c xs) (hc : c < 10000) :
    ∃ (ys : List PyData) (y3 y4 y5 y6 y7 y8 y9 y10 y11 : Option PyData), HandOk (c + 100) ys ∧ evSs ⟨run Pg Gg (n + 8), Gg⟩ f_law_b2 [s, some (.own xs), z2.map Slot.v, z3.map Slot.v, z4.map Slot.v, z5.map Slot.v, z6.map Slot.v, z7.map Slot.v, z8.map Slot.v, z9.map Slot.v, z10.map Slot.v, z11.map Slot.v]
      = .nx [s, some (.own ys), z2.map Slot.v, y3.map Slot.v, y4.map Slot.v, y5.map Slot.v, y6.map Slot.v, y7.map Slot.v, y8.map Slot.v, y9.map Slot.v, y10.map Slot.v, y11.map Slot.v] := by
  obtain ⟨ts, x2, a2, H2, kd⟩ := lawKnown_ok (P := Pg) (gl := Gg) (n := n + 5) (j := 22) (jd := 17) (js := 18) rfl rfl rfl H (by omega)
  have kn := kd.kn
  have hb : bnd ts < 2 ^ 100 := Nat.lt_of_le_of_lt kd.bnd (by decide)
  have c2 := fun s rest => cio_u (C := ⟨run Pg Gg (n + 8), Gg⟩) (j := 22) (s := s) (rest := rest) a2
  have lr := l_lawroom (n := n + 5) kn hb
  have ro := l_room (n := n + 1) kn hb
  have i1 := is_two (n := n + 5) (roomV ts).1 (roomV ts).2
  obtain ⟨ys, y4, y8, y9, lp, G⟩ := rest_ok (n := n) (s := s) (z2 := z2) (z4 := z4) (z5 := z5) (z8 := z8) (z9 := z9) (z10 := z10) (z11 := z11) kd H2 (by omega)
  obtain ⟨r4, x4, a4, H4, b4, b4'⟩ := draw_ok (P := Pg) (gl := Gg) (j := 17) (n := n + 7) (many := 9) rfl G (by decide) (by decide) (by omega)
  have c4 := fun s rest => cio_k (C := ⟨run Pg Gg (n + 8), Gg⟩) (j := 17) (k := 9) (s := s) (rest := rest) a4
  obtain ⟨kn2, hb2⟩ := kn_snoc kd (t := 1 + r4) (by omega) (by omega)
  have ro2 := l_room (n := n + 1) kn2 hb2
  have na := narrower (ts := ts) (t := 1 + r4) (by omega)
  obtain ⟨s1, s2, _⟩ := roomV_facts kn hb
  obtain ⟨s3, s4, _⟩ := roomV_facts kn2 hb2
  have l1 := less_ok (P := Pg) (gl := Gg) (n := n + 7) (j := 20) (p := (roomV (ts ++ [1 + r4])).1) (q := (roomV ts).1) rfl s3.h1 s3.h2 s1.h1 s1.h2
  have l2 := less_ok (P := Pg) (gl := Gg) (n := n + 7) (j := 20) (p := (roomV ts).2) (q := (roomV (ts ++ [1 + r4])).2) rfl s2.h1 s2.h2 s4.h1 s4.h2
  have n1' : ¬ (roomV (ts ++ [1 + r4])).1.1 * (roomV ts).1.2 < (roomV ts).1.1 * (roomV (ts ++ [1 + r4])).1.2 := na.1
  have n2' : ¬ (roomV ts).2.1 * (roomV (ts ++ [1 + r4])).2.2 < (roomV (ts ++ [1 + r4])).2.1 * (roomV ts).2.2 := na.2
  simp only [n1', decide_false] at l1
  simp only [n2', decide_false] at l2
  have bd : binD .add (tuI ts) (.tuple [.int (1 + r4)]) = some (tuI (ts ++ [1 + r4])) := by
    have hl := kd.len
    have hl2 : (ts.map PyData.int).length + [PyData.int (1 + r4)].length ≤ LIM := by
      have : LIM = 1000000 := rfl
      simp
      omega
    show (if (ts.map PyData.int).length + [PyData.int (1 + r4)].length ≤ LIM then _ else _) = _
    rw [if_pos hl2]
    simp
  have hb1 : bnd ts * 1 < 2 ^ 120 := by rw [Nat.mul_one]; exact Nat.lt_trans hb (by decide)
  have e1 := l_numby (n := n + 3) kn (restNone (Nat.le_refl 1)) hb1 (by decide)
  have e2 := l_numby (n := n + 3) kn (restOne (Nat.le_refl 1)) hb1 (by decide)
  have e1 : run Pg Gg (n + 8) 12 [.v (tuI ts), .v .none] = .ret (.pv (pr (valV ts (1, 0)))) none := e1
  have e2 : run Pg Gg (n + 8) 12 [.v (tuI ts), .v (.tuple [.int 1, .int 1])] = .ret (.pv (pr (valV ts (1, 1)))) none := e2
  obtain ⟨u, v, q1, q2⟩ := sort_two (valV ts (1, 0)) (valV ts (1, 1))
  have t1 := sorted_two q1
  have t2 : bltD .sorted [.list [pr (roomV ts).1, pr (roomV ts).2]] = some (.list [pr u, pr v]) := by
    unfold roomV
    split
    · exact sorted_two q2
    · exact sorted_two q1
  have h1 : (1 : Nat) ≤ LIM := by decide
  refine ⟨x4, some (tuI ts), y4, some (tuI (ts ++ [1 + r4])), some (pr (roomV ts).1), some (pr (roomV ts).2), y8, y9, some (pr (roomV (ts ++ [1 + r4])).1), some (pr (roomV (ts ++ [1 + r4])).2), H4.mono (by omega), ?_⟩
  simp [f_law_b2, c2, lr, ro, i1, lim2, lp, c4, h1, bd, ro2, l1, l2, e1, e2, t1, t2, ne_lists, bv_srt, -List.map_append]
theorem law_turns {ns : List Int} : run Pg Gg (n + 9) 26 [.raw (ns.map PyData.int)] = .ret (.pv (.bool true)) none := by
  obtain ⟨xs, h1, h2⟩ := hand_ok (P := Pg) (gl := Gg) (j := 16) (n := n + 7) (ns := ns) rfl
  rw [run_succ (f := f_law) rfl, if_pos ⟨rfl, rfl⟩]
  have lp : ∃ (ys : List PyData) (y2 y3 y4 y5 y6 y7 y8 y9 y10 y11 : Option PyData), evS ⟨run Pg Gg (n + 8), Gg⟩ f_law_l2 [some (.raw (ns.map PyData.int)), some (.own xs), none, none, none, none, none, none, none, none, none, none]
      = .nx [some (.raw (ns.map PyData.int)), some (.own ys), y2.map Slot.v, y3.map Slot.v, y4.map Slot.v, y5.map Slot.v, y6.map Slot.v, y7.map Slot.v, y8.map Slot.v, y9.map Slot.v, y10.map Slot.v, y11.map Slot.v] := by
    unfold f_law_l2
    rw [s_for]
    rw [i_rngA (ds := [.int 8]) (ρ' := [some (.raw (ns.map PyData.int)), some (.own xs), none, none, none, none, none, none, none, none, none, none]) (by simp) (show rngOf [.int 8] = some (0, 8, 1) from rngOfA (k := 8) (by decide)), R.toS_ok]
    obtain ⟨ρ', f1, ys, y2, y3, y4, y5, y6, y7, y8, y9, y10, y11, f2, f3⟩ := forGo_inv (f := fun x ρ => (putT ρ (.n 2) x).toS fun _ ρ => evSs ⟨run Pg Gg (n + 8), Gg⟩ f_law_b2 ρ) (ds := rangeD 0 8 1) (ρ := [some (.raw (ns.map PyData.int)), some (.own xs), none, none, none, none, none, none, none, none, none, none])
      (fun i ρ => ∃ (ys : List PyData) (y2 y3 y4 y5 y6 y7 y8 y9 y10 y11 : Option PyData), ρ = [some (.raw (ns.map PyData.int)), some (.own ys), y2.map Slot.v, y3.map Slot.v, y4.map Slot.v, y5.map Slot.v, y6.map Slot.v, y7.map Slot.v, y8.map Slot.v, y9.map Slot.v, y10.map Slot.v, y11.map Slot.v] ∧ HandOk (100 * i) ys) ⟨xs, none, none, none, none, none, none, none, none, none, none, rfl, h2⟩ (by
        rintro i d ρ hd ⟨ys, y2, y3, y4, y5, y6, y7, y8, y9, y10, y11, rfl, G⟩
        have hi : i < 8 := by
          have := (List.getElem?_eq_some_iff.mp hd).1
          rwa [rangeD_len] at this
        obtain ⟨ws, u3, u4, u5, u6, u7, u8, u9, u10, u11, G2, e⟩ := turn_ok (n := n) (s := some (.raw (ns.map PyData.int))) (z2 := some d) (z3 := y3) (z4 := y4) (z5 := y5) (z6 := y6) (z7 := y7) (z8 := y8) (z9 := y9) (z10 := y10) (z11 := y11) G (by omega)
        refine ⟨_, ?_, ws, some d, u3, u4, u5, u6, u7, u8, u9, u10, u11, rfl, by rw [Nat.mul_add]; exact G2⟩
        simp at e
        simp
        exact e)
    exact ⟨ys, y2, y3, y4, y5, y6, y7, y8, y9, y10, y11, by rw [f1, f2]⟩
  obtain ⟨ys, y2, y3, y4, y5, y6, y7, y8, y9, y10, y11, lp⟩ := lp
  have cr : crawGo (run Pg Gg (n + 8) 16) 0 [some (.raw (ns.map PyData.int)), none, none, none, none, none, none, none, none, none, none, none] = .ok (.fr xs) [some (.raw (ns.map PyData.int)), none, none, none, none, none, none, none, none, none, none, none] := by
    unfold crawGo
    simp [h1]
  simp [f_law, cr, lp]
theorem law_true (ns : List Int) (_ : ns.length ≤ 63) : run (plOf L) (glOf gls) 40 26 [.raw (ns.map PyData.int)] = .ret (.pv (.bool true)) none := law_turns (n := 31)
end Lw
namespace Lw
open Pv PySem
def loose : List Str := ("MOST_DIGITS" : PySem.Str) :: ("is_integer" : PySem.Str) :: ("is_sized" : PySem.Str) :: ("are_integers" : PySem.Str) :: ("common" : PySem.Str) :: ("is_ratio" : PySem.Str) :: ("RatioError" : PySem.Str) :: ("NoKnown" : PySem.Str) :: ("NoRest" : PySem.Str) :: ("made" : PySem.Str) :: ("plus" : PySem.Str) :: ("is_less" : PySem.Str) :: ("MOST_KNOWN" : PySem.Str) :: ("MOST_PART" : PySem.Str) :: ("are_known" : PySem.Str) :: ("check_known" : PySem.Str) :: ("number_of" : PySem.Str) :: ("is_rest" : PySem.Str) :: ("number_by" : PySem.Str) :: ("ends_of" : PySem.Str) :: ("room_of" : PySem.Str) :: ("room" : PySem.Str) :: ("_law_hand" : PySem.Str) :: ("_law_draw" : PySem.Str) :: ("_law_some" : PySem.Str) :: ("_law_low" : PySem.Str) :: ("_law_less" : PySem.Str) :: ("_law_value" : PySem.Str) :: ("_law_known" : PySem.Str) :: ("_law_rest" : PySem.Str) :: ("_law_room" : PySem.Str) :: ("_law_is" : PySem.Str) :: []
abbrev Rr : PySem.W.OpenRow := PySem.W.OpenLaw.row PySem.Challenge.rw_ratiohouse_k44_whole_numbers_by_known_te
theorem bi : AllBi L := ⟨b_is_integer, b_is_sized, b_are_integers, b_common, b_is_ratio, b_made, b_plus, b_is_less, b_are_known, b_check_known, b_number_of, b_is_rest, b_number_by, b_ends_of, b_room_of, b_room, b__law_hand, b__law_draw, b__law_some, b__law_low, b__law_less, b__law_value, b__law_known, b__law_rest, b__law_room, b__law_is, b_law, trivial⟩
theorem okL : L.all (Dt.ok (nmOf L gls exs)) = true := by decide +kernel
theorem runs (w : World) : HandSHeadRun.RunEq Rr (PySem.W.view Rr.prog [37]) (hkOf L gls exs 4) (obOf L gls exs 4) 4000 Lw.loose w := by
  intro os
  kernel_rfl
end Lw
open PySem PySem.W PySem.Calls PyProof.Rows
theorem PySem.Challenge.cw_ratiohouse_k44_whole_numbers_by_known_te_holds : PySem.Challenge.rw_ratiohouse_k44_whole_numbers_by_known_te.Holds := by
  w_on; o_law
  refine HandSHeadRun.head_any (r := Lw.Rr) (q := view Lw.Rr.prog [37]) (H := Pv.hkOf Lw.L Lw.gls Lw.exs 4) (ob := Pv.obOf Lw.L Lw.gls Lw.exs 4) (M := 4000)
    (loose := Lw.loose)
    (d := HandSHeadRun.topDef Lw.Rr.prog 37) (kwd := []) (Pv.ob_eq _ _ _ _)
    (by kernel_rfl)
    (fun s => by kernel_rfl)
    Lw.runs
    (by kernel_rfl)
    (by kernel_rfl) (by kernel_rfl)
    (by rfl)
    (by first | assumption | decide +kernel)
    (by decide +kernel)
    ⟨rfl, rfl, rfl, rfl, rfl, by decide +kernel⟩
    ?hw ?hc
  case hw => w_witness2
  case hc =>
    exact Pv.law_walk (k := 40) (j := 26) (tl := Lw.d_law) (sn := "script") rfl (by decide) (by kernel_rfl) ⟨rfl, by decide, by decide⟩ rfl rfl Lw.bi Lw.okL (by kernel_rfl) Lw.law_true
