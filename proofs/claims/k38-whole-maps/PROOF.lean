import PyProof.Rows.All
import Wide.All
import OpenK.AllK
import Wide.FinOn
import HandS.ForMost
import HandS.Exc
import HandS.TryOnly
import HandS.TryMany
import HandS.ExcOwn
import HandS.ExcInit
import HandS.WordsExc
import HandS.IsInst
import HandS.Wide
import HandS.WideBits
import HandS.Style
import HandS.Zip
import HandS.TupAny
import HandS.Flow
import HandS.Defaults
import KE.KStateDown
import HandS.More
import HandS.Head0
import HandS.Head1
import HandS.Head2
import HandS.HeadEnd
import HandS.HeadHook1
import HandS.HeadHook2
import HandS.HeadHook3
import HandS.HeadHook4
import HandS.HeadWalk
import HandS.Lambda
import PySem.Challenge.RW_ratiohouse_k38_whole_maps_one_after_anot
set_option Elab.async false
set_option linter.all false
set_option maxRecDepth 100000
set_option maxHeartbeats 0
/-! Pv: a small pure language over plain data, its meaning, and (Pv2, Pv3) the proof that what it tells is what the program does. -/
namespace Pv
open PySem

abbrev D := PyData

inductive BOp where
  | add | sub | mul | fdiv | mod | pow | shl | shr | band | bor | bxor
  deriving DecidableEq
inductive COp where
  | eq | ne | lt | le | gt | ge | isin | notin | is | isnot
  deriving DecidableEq
inductive Ty where
  | int | bool | str | tup | lst | dic | non
  deriving DecidableEq
inductive Blt where
  | len | abs | int | tuple | list | sum | min | max | all | any | sorted
  deriving DecidableEq
inductive Tg where
  | n (i : Nat)
  | t (ts : List Nat)
  deriving DecidableEq

mutual
inductive E where
  | nop
  | v (i : Nat)
  | k (d : PyData)
  | g (j : Nat)
  | bin (o : BOp) (a b : E)
  | neg (a : E)
  | not (a : E)
  | and (a b : E)
  | or (a b : E)
  | cmp (o : COp) (a b : E)
  | chain (o p : COp) (a b c : E)
  | ife (c : T) (a b : E)
  | tup (es : Es)
  | lst (es : Es)
  | ix (a i : E)
  | ixv (j : Nat) (i : E)
  | sl (a lo hi : E)
  | slv (j : Nat) (lo hi : E)
  | rev (a : E)
  | call (j : Nat) (es : Es)
  | cio (j : Nat) (i : Nat) (es : Es)
  | craw (j : Nat) (i : Nat)
  | scr (i : Nat) (n : Int)
  | b1 (b : Blt) (a : E)
  | b2 (b : Blt) (a c : E)
  | isi (a : E) (ts : List Ty)
  | lc (elt : E) (tg : Tg) (it : It) (c : T)
inductive Es where
  | nil
  | cons (e : E) (es : Es)
inductive It where
  | rng (es : Es)
  | of (e : E)
  | zip (a b : E)
  | enum (a : E)
inductive T where
  | e (a : E)
  | and (a b : T)
  | or (a b : T)
  | not (a : T)
  | yes
end

mutual
inductive S where
  | asg (t : Tg) (e : E)
  | par (is : List Nat) (es : Es)
  | set (i : Nat) (x e : E)
  | aug (i : Nat) (o : BOp) (e : E)
  | app (i : Nat) (e : E)
  | expr (e : E)
  | ite (c : T) (a b : Ss)
  | whl (c : T) (b : Ss)
  | for_ (t : Tg) (it : It) (b : Ss)
  | ret (e : E)
  | retv (i : Nat)
  | retN
  | raise (c : Nat)
  | raisex (c : Nat) (x : E)
  | pass
  | brk
  | ct
inductive Ss where
  | nil
  | cons (s : S) (r : Ss)
end
def isV : E → Option Nat
  | .v i => some i
  | _ => none

/-! ### values and places -/
/-- a value: plain data, or a list that is new and held by nobody -/
inductive Val where
  | pv (d : D)
  | fr (xs : List D)
def Val.dat : Val → PyData
  | .pv d => d
  | .fr xs => .list xs
@[simp] theorem Val.dat_pv (d : PyData) : (Val.pv d).dat = d := rfl
@[simp] theorem Val.dat_fr (xs : List PyData) : (Val.fr xs).dat = .list xs := rfl
/-- what an operator makes: a list is a new one -/
def frV : PyData → Val
  | .list xs => .fr xs
  | d => .pv d
/-- a name's place: plain data; a list of its own; the caller's list, still its own, or held by others; the script -/
inductive Slot where
  | v (d : D)
  | own (xs : List D)
  | io (xs : List D)
  | fz (xs : List D)
  | raw (xs : List D)
def Slot.dat : Slot → PyData
  | .v d => d
  | .own xs => .list xs
  | .io xs => .list xs
  | .fz xs => .list xs
  | .raw xs => .list xs
/-- what a place becomes when its value is handed on -/
def Slot.frozen : Slot → Slot
  | .v d => .v d
  | .own xs => .v (.list xs)
  | .io xs => .fz xs
  | .fz xs => .fz xs
  | .raw xs => .raw xs
def Slot.free : Slot → Bool
  | .v _ => true
  | .own _ => true
  | _ => false
abbrev Env := List (Option Slot)
def freeAt (ρ : Env) (i : Nat) : Bool := match ρ[i]? with
  | some (some s) => s.free
  | some none => true
  | none => false

inductive R (α : Type) where
  | ok (a : α) (ρ : Env)
  | exc (c : Nat) (x : Option D) (ρ : Env)
  | bad
def R.bind {α β : Type} (r : R α) (f : α → Env → R β) : R β := match r with
  | .ok a ρ => f a ρ
  | .exc c x ρ => .exc c x ρ
  | .bad => .bad
@[simp] theorem R.bind_ok {α β : Type} (a : α) (ρ : Env) (f : α → Env → R β) : (R.ok a ρ).bind f = f a ρ := rfl
@[simp] theorem R.bind_exc {α β : Type} (c : Nat) (x : Option D) (ρ : Env) (f : α → Env → R β) : (R.exc c x ρ).bind f = .exc c x ρ := rfl
@[simp] theorem R.bind_bad {α β : Type} (f : α → Env → R β) : (R.bad : R α).bind f = .bad := rfl
def R.ofO {α : Type} (o : Option α) (ρ : Env) : R α := match o with
  | some a => .ok a ρ
  | none => .bad
@[simp] theorem R.ofO_some {α : Type} (a : α) (ρ : Env) : R.ofO (some a) ρ = .ok a ρ := rfl
@[simp] theorem R.ofO_none {α : Type} (ρ : Env) : R.ofO (none : Option α) ρ = .bad := rfl
inductive SR where
  | nx (ρ : Env)
  | ret (x : Val) (ρ : Env)
  | brk (ρ : Env)
  | ct (ρ : Env)
  | exc (c : Nat) (x : Option D) (ρ : Env)
  | bad
def R.toS {α : Type} (r : R α) (f : α → Env → SR) : SR := match r with
  | .ok a ρ => f a ρ
  | .exc c x ρ => .exc c x ρ
  | .bad => .bad
@[simp] theorem R.toS_ok {α : Type} (a : α) (ρ : Env) (f : α → Env → SR) : (R.ok a ρ).toS f = f a ρ := rfl
@[simp] theorem R.toS_exc {α : Type} (c : Nat) (x : Option D) (ρ : Env) (f : α → Env → SR) : (R.exc c x ρ : R α).toS f = .exc c x ρ := rfl
@[simp] theorem R.toS_bad {α : Type} (f : α → Env → SR) : (R.bad : R α).toS f = .bad := rfl
def SR.bind (r : SR) (f : Env → SR) : SR := match r with
  | .nx ρ => f ρ
  | r => r
@[simp] theorem SR.bind_nx (ρ : Env) (f : Env → SR) : (SR.nx ρ).bind f = f ρ := rfl
@[simp] theorem SR.bind_ret (x : Val) (ρ : Env) (f : Env → SR) : (SR.ret x ρ).bind f = .ret x ρ := rfl
@[simp] theorem SR.bind_brk (ρ : Env) (f : Env → SR) : (SR.brk ρ).bind f = .brk ρ := rfl
@[simp] theorem SR.bind_ct (ρ : Env) (f : Env → SR) : (SR.ct ρ).bind f = .ct ρ := rfl
@[simp] theorem SR.bind_exc (c : Nat) (x : Option D) (ρ : Env) (f : Env → SR) : (SR.exc c x ρ).bind f = .exc c x ρ := rfl
@[simp] theorem SR.bind_bad (f : Env → SR) : SR.bad.bind f = .bad := rfl
/-- what a call gives back: the value, what the caller's list has become -/
inductive FR where
  | ret (x : Val) (o : Option Slot)
  | exc (c : Nat) (x : Option D) (o : Option Slot)
  | bad

/-! ### the operators on data -/
@[irreducible] def BIG : Nat := 2 ^ 1000000
theorem BIG_eq : BIG = 2 ^ 1000000 := by unfold BIG; rfl
@[irreducible] def DIVB : Nat := 2 ^ 9000
theorem DIVB_eq : DIVB = 2 ^ 9000 := by unfold DIVB; rfl
def LIM : Nat := 1000000

def binD : BOp → D → D → Option D
  | .add, .int i, .int j => some (.int (i + j))
  | .add, .str a, .str b => if a.length + b.length ≤ LIM then some (.str (a ++ b)) else none
  | .add, .list xs, .list ys => if xs.length + ys.length ≤ LIM then some (.list (xs ++ ys)) else none
  | .add, .tuple xs, .tuple ys => if xs.length + ys.length ≤ LIM then some (.tuple (xs ++ ys)) else none
  | .sub, .int i, .int j => some (.int (i - j))
  | .mul, .int i, .int j => if i.natAbs < BIG ∧ j.natAbs < BIG then some (.int (i * j)) else none
  | .fdiv, .int i, .int j => if 0 < j ∧ j.natAbs < DIVB then some (.int (i / j)) else if j < 0 ∧ j.natAbs < 1073741824 then some (.int (i.fdiv j)) else none
  | .mod, .int i, .int j => if 0 < j then some (.int (i % j)) else if j < 0 then some (.int (i.fmod j)) else none
  | .pow, .int i, .int j => if 0 ≤ j ∧ j ≤ 1000000 ∧ i.natAbs < 2 ^ 64 then some (.int (i ^ j.toNat)) else none
  | .shl, .int i, .int j => if 0 ≤ j ∧ j ≤ 1000000 ∧ i.natAbs < 2 ^ 64 then some (.int (i * 2 ^ j.toNat)) else none
  | .shr, .int i, .int j => if 0 ≤ j then some (.int (i / 2 ^ j.toNat)) else none
  | .band, .int i, .int j => some (.int (Builtin.bitAnd i j))
  | .bor, .int i, .int j => some (.int (Builtin.bitOr i j))
  | .bxor, .int i, .int j => some (.int (Builtin.bitXor i j))
  | _, _, _ => none

def shp (d : D) : Bool := SeqAt.shaped d
def intsOf : List D → Option (List Int)
  | [] => some []
  | .int i :: r => (intsOf r).map (i :: ·)
  | _ :: _ => none
def boolsOf : List D → Option (List Bool)
  | [] => some []
  | .bool b :: r => (boolsOf r).map (b :: ·)
  | _ :: _ => none
def lexD (xs ys : List D) : Option Bool := (intsOf xs).bind fun ns => (intsOf ys).map fun ms => HT.lexLt ns ms
def isNo : D → Bool
  | .none => true
  | _ => false
def cmpD : COp → D → D → Option Bool
  | .eq, a, b => if shp a = true ∧ shp b = true then some (PyData.eqv a b) else none
  | .ne, a, b => if shp a = true ∧ shp b = true then some (!PyData.eqv a b) else none
  | .lt, .int i, .int j => some (decide (i < j))
  | .le, .int i, .int j => some (decide (i ≤ j))
  | .gt, .int i, .int j => some (decide (j < i))
  | .ge, .int i, .int j => some (decide (j ≤ i))
  | .lt, .tuple xs, .tuple ys => lexD xs ys
  | .isin, a, .list xs => if shp a = true ∧ shp (.list xs) = true then some (xs.any fun y => PyData.eqv y a) else none
  | .isin, a, .tuple xs => if shp a = true ∧ shp (.tuple xs) = true then some (xs.any fun y => PyData.eqv y a) else none
  | .notin, a, .list xs => if shp a = true ∧ shp (.list xs) = true then some (!xs.any fun y => PyData.eqv y a) else none
  | .notin, a, .tuple xs => if shp a = true ∧ shp (.tuple xs) = true then some (!xs.any fun y => PyData.eqv y a) else none
  | .is, a, .none => some (isNo a)
  | .isnot, a, .none => some (!isNo a)
  | _, _, _ => none

def Ty.is : Ty → D → Bool
  | .int, .int _ => true
  | .int, .bool _ => true
  | .bool, .bool _ => true
  | .str, .str _ => true
  | .tup, .tuple _ => true
  | .lst, .list _ => true
  | .dic, .dict _ => true
  | .non, .none => true
  | _, _ => false

/-- an item by its number, from the end if below 0 -/
def at? (xs : List D) (i : Int) : Option D := L2.atI xs i
def ixD : D → D → Option D
  | .list xs, .int i => at? xs i
  | .tuple xs, .int i => at? xs i
  | .str s, .int i => if s.length ≤ LIM then (L2.atI s.cps.toList i).map fun c => .str ⟨#[c]⟩ else none
  | _, _ => none
def cut {α : Type} (xs : List α) (lo hi : Option Int) : List α := (xs.drop (HT.sIx xs.length 0 lo)).take (HT.sIx xs.length xs.length hi - HT.sIx xs.length 0 lo)
def slD : D → Option Int → Option Int → Option D
  | .list xs, lo, hi => some (.list (cut xs lo hi))
  | .tuple xs, lo, hi => some (.tuple (cut xs lo hi))
  | _, _, _ => none
def revD : D → Option D
  | .list xs => some (.list xs.reverse)
  | _ => none

def items : D → Option (List D)
  | .list xs => some xs
  | .tuple xs => some xs
  | _ => none
def leastI : List Int → Int → Int
  | [], m => m
  | x :: r, m => leastI r (if x < m then x else m)
def mostI : List Int → Int → Int
  | [], m => m
  | x :: r, m => mostI r (if m < x then x else m)
def minL : List Int → Option Int
  | [] => none
  | x :: r => some (leastI r x)
def maxL : List Int → Option Int
  | [] => none
  | x :: r => some (mostI r x)
def insI (x : Int) : List Int → List Int
  | [] => [x]
  | y :: r => if x ≤ y then x :: y :: r else y :: insI x r
def sortI : List Int → List Int
  | [] => []
  | x :: r => insI x (sortI r)
def bltD : Blt → List D → Option D
  | .len, [.list xs] => some (.int xs.length)
  | .len, [.tuple xs] => some (.int xs.length)
  | .len, [.str s] => if s.length ≤ LIM then some (.int s.length) else none
  | .abs, [.int i] => some (.int (if i < 0 then -i else i))
  | .int, [.int i] => some (.int i)
  | .int, [.bool b] => some (.int (if b then 1 else 0))
  | .tuple, [.list xs] => some (.tuple xs)
  | .tuple, [.tuple xs] => some (.tuple xs)
  | .list, [.list xs] => some (.list xs)
  | .list, [.tuple xs] => some (.list xs)
  | .sum, [.list xs] => (intsOf xs).map fun ns => .int ns.sum
  | .min, [.list xs] => (intsOf xs).bind fun ns => (minL ns).map .int
  | .max, [.list xs] => (intsOf xs).bind fun ns => (maxL ns).map .int
  | .min, [.int i, .int j] => some (.int (if j < i then j else i))
  | .max, [.int i, .int j] => some (.int (if j > i then j else i))
  | .all, [.list xs] => (boolsOf xs).map fun bs => .bool (bs.all id)
  | .any, [.list xs] => (boolsOf xs).map fun bs => .bool (bs.any id)
  | .sorted, [.list xs] => (intsOf xs).map fun ns => .list ((sortI ns).map .int)
  | _, _ => none

def rangeD (lo : Int) : Nat → Int → List D
  | 0, _ => []
  | n + 1, c => .int lo :: rangeD (lo + c) n c
/-- what a range hands out: where it begins, how many, the step -/
def rngOf : List D → Option (Int × Nat × Int)
  | [.int j] => if -(2 ^ 62) ≤ j ∧ j < 2 ^ 62 then some (0, j.toNat, 1) else none
  | [.int i, .int j] => if (-(2 ^ 62) ≤ i ∧ i < 2 ^ 62) ∧ (-(2 ^ 62) ≤ j ∧ j < 2 ^ 62) then some (i, (j - i).toNat, 1) else none
  | [.int i, .int j, .int c] => if c = -1 ∧ (-(2 ^ 62) ≤ i ∧ i < 2 ^ 62) ∧ (-(2 ^ 62) ≤ j ∧ j < 2 ^ 62) then some (i, (i - j).toNat, -1) else none
  | _ => none
def enumD (i : Nat) : List D → List D
  | [] => []
  | x :: r => .tuple [.int i, x] :: enumD (i + 1) r
def zipD : List D → List D → List D
  | x :: xs, y :: ys => .tuple [x, y] :: zipD xs ys
  | _, _ => []
def signsD (s : Str) : List D := s.cps.toList.map fun c => .str ⟨#[c]⟩
def walkD : D → Option (List D)
  | .list xs => some xs
  | .tuple xs => some xs
  | .str s => some (signsD s)
  | _ => none

/-! ### the meaning -/
def putV (ρ : Env) (i : Nat) (x : Val) : R Unit := if freeAt ρ i = true then .ok () (ρ.set i (some (match x with | .pv d => .v d | .fr xs => .own xs))) else .bad
def putD (ρ : Env) (i : Nat) (d : D) : R Unit := putV ρ i (.pv d)
def putAll (ρ : Env) : List Nat → List D → R Unit
  | [], [] => .ok () ρ
  | i :: is, d :: ds => (putD ρ i d).bind fun _ ρ => putAll ρ is ds
  | _, _ => .bad
def putT (ρ : Env) : Tg → D → R Unit
  | .n i, d => putD ρ i d
  | .t is, .tuple ds => if ds.length = is.length then putAll ρ is ds else .bad
  | .t is, .list ds => if ds.length = is.length then putAll ρ is ds else .bad
  | _, _ => .bad
def Tg.slots : Tg → List Nat
  | .n i => [i]
  | .t is => is

def wipeE (ρ : Env) : List Nat → Env
  | [] => ρ
  | i :: is => (wipeE ρ is).set i none
def backE (ρ ρ' : Env) : List Nat → Env
  | [] => ρ'
  | i :: is => (backE ρ ρ' is).set i (ρ.getD i none)
def plainAt (ρ : Env) (is : List Nat) : Bool := is.all fun i => match ρ[i]? with
  | some none => true
  | some (some (.v _)) => true
  | _ => false
/-- one turn of a comprehension: its own names apart -/
def lcTurn (tg : Tg) (ev : Env → R (Option D)) (x : D) (ρ : Env) : R (Option D) := if plainAt ρ tg.slots = true then
    (putT (wipeE ρ tg.slots) tg x).bind fun _ ρ2 => (ev ρ2).bind fun o ρ3 => .ok o (backE ρ ρ3 tg.slots)
  else .bad
def consO (o : Option D) (r : List D) : List D := match o with
  | some y => y :: r
  | none => r
@[simp] theorem consO_some (y : D) (r : List D) : consO (some y) r = y :: r := rfl
@[simp] theorem consO_none (r : List D) : consO none r = r := rfl
/-- a list comprehension's turns -/
def lcGo (f : D → Env → R (Option D)) : List D → Env → R (List D)
  | [], ρ => .ok [] ρ
  | x :: xs, ρ => (f x ρ).bind fun o ρ => (lcGo f xs ρ).bind fun r ρ => .ok (consO o r) ρ
def forGo (f : D → Env → SR) : List D → Env → SR
  | [], ρ => .nx ρ
  | x :: xs, ρ => match f x ρ with
    | .nx ρ => forGo f xs ρ
    | .ct ρ => forGo f xs ρ
    | .brk ρ => .nx ρ
    | r => r
def whlF (c : Env → R Bool) (b : Env → SR) : Nat → Env → Option SR
  | 0, _ => none
  | n + 1, ρ => match c ρ with
    | .ok true ρ => (match b ρ with
      | .nx ρ => whlF c b n ρ
      | .ct ρ => whlF c b n ρ
      | .brk ρ => some (.nx ρ)
      | r => some r)
    | .ok false ρ => some (.nx ρ)
    | .exc c x ρ => some (.exc c x ρ)
    | .bad => some .bad
open Classical in
noncomputable def whl (c : Env → R Bool) (b : Env → SR) (ρ : Env) : SR := if h : ∃ n r, whlF c b n ρ = some r then h.choose_spec.choose else .bad
theorem whlF_mono {c : Env → R Bool} {b : Env → SR} : ∀ {n m : Nat} {ρ : Env} {r : SR}, whlF c b n ρ = some r → n ≤ m → whlF c b m ρ = some r
  | 0, _, _, _, h, _ => by cases h
  | n + 1, 0, _, _, _, hm => by omega
  | n + 1, m + 1, ρ, r, h, hm => by
    unfold whlF at h ⊢
    cases hc : c ρ with
    | ok x ρ1 =>
      rw [hc] at h
      cases x with
      | false => exact h
      | true =>
        cases hb : b ρ1 with
        | nx ρ2 => simp only [hb] at h ⊢; exact whlF_mono h (by omega)
        | ct ρ2 => simp only [hb] at h ⊢; exact whlF_mono h (by omega)
        | brk ρ2 => simp only [hb] at h ⊢; exact h
        | ret x ρ2 => simp only [hb] at h ⊢; exact h
        | exc a x ρ2 => simp only [hb] at h ⊢; exact h
        | bad => simp only [hb] at h ⊢; exact h
    | exc a x ρ1 => rw [hc] at h; exact h
    | bad => rw [hc] at h; exact h
theorem whl_of {c : Env → R Bool} {b : Env → SR} {n : Nat} {ρ : Env} {r : SR} (h : whlF c b n ρ = some r) : whl c b ρ = r := by
  have hx : ∃ n r, whlF c b n ρ = some r := ⟨n, r, h⟩
  unfold whl
  rw [dif_pos hx]
  have h2 := hx.choose_spec.choose_spec
  have h3 := whlF_mono h (Nat.le_max_left n hx.choose)
  have h4 := whlF_mono h2 (Nat.le_max_right n hx.choose)
  rw [h3] at h4
  exact (Option.some.inj h4).symm
/-- if it ends other than bad, it ends in some number of turns -/
theorem whl_ends {c : Env → R Bool} {b : Env → SR} {ρ : Env} (h : whl c b ρ ≠ .bad) : ∃ n, whlF c b n ρ = some (whl c b ρ) := by
  unfold whl at h ⊢
  by_cases hx : ∃ n r, whlF c b n ρ = some r
  · rw [dif_pos hx]
    exact ⟨_, hx.choose_spec.choose_spec⟩
  · rw [dif_neg hx] at h
    exact absurd rfl h
theorem whl_step (c : Env → R Bool) (b : Env → SR) (ρ : Env) : whl c b ρ = (match c ρ with
    | .ok true ρ => (match b ρ with
      | .nx ρ => whl c b ρ
      | .ct ρ => whl c b ρ
      | .brk ρ => .nx ρ
      | r => r)
    | .ok false ρ => .nx ρ
    | .exc c x ρ => .exc c x ρ
    | .bad => .bad) := by
  have key : ∀ ρ1 ρ2, c ρ = .ok true ρ1 → (b ρ1 = .nx ρ2 ∨ b ρ1 = .ct ρ2) → whl c b ρ = whl c b ρ2 := fun ρ1 ρ2 hc hb => by
    by_cases hx : ∃ n r, whlF c b n ρ2 = some r
    · obtain ⟨n, r, h⟩ := hx
      rw [whl_of h]
      refine whl_of (n := n + 1) ?_
      unfold whlF
      rcases hb with hb | hb <;> simp only [hc, hb] <;> exact h
    · have hy : ¬ ∃ n r, whlF c b n ρ = some r := fun ⟨n, r, h⟩ => by
        cases n with
        | zero => cases h
        | succ n =>
          unfold whlF at h
          rcases hb with hb | hb <;> simp only [hc, hb] at h <;> exact hx ⟨n, r, h⟩
      unfold whl
      rw [dif_neg hx, dif_neg hy]
  cases hc : c ρ with
  | ok x ρ1 =>
    cases x with
    | false => exact whl_of (n := 1) (by unfold whlF; simp only [hc])
    | true =>
      cases hb : b ρ1 with
      | nx ρ2 => simp only [hb]; exact key ρ1 ρ2 hc (.inl hb)
      | ct ρ2 => simp only [hb]; exact key ρ1 ρ2 hc (.inr hb)
      | brk ρ2 => exact whl_of (n := 1) (by unfold whlF; simp only [hc, hb])
      | ret x ρ2 => exact whl_of (n := 1) (by unfold whlF; simp only [hc, hb])
      | exc a x ρ2 => exact whl_of (n := 1) (by unfold whlF; simp only [hc, hb])
      | bad => exact whl_of (n := 1) (by unfold whlF; simp only [hc, hb])
  | exc a x ρ1 => exact whl_of (n := 1) (by unfold whlF; simp only [hc])
  | bad => exact whl_of (n := 1) (by unfold whlF; simp only [hc])
end Pv
namespace Pv
open PySem
section
/-- the program: what a call gives (by number of def and arguments' places), the module's constants -/
structure Cfg where
  call : Nat → List Slot → FR
  gl : Nat → Option D
variable (C : Cfg)
/-- a name's value handed on -/
def readV (ρ : Env) (i : Nat) : R Val := match ρ[i]? with
  | some (some (.raw _)) => .bad
  | some (some s) => .ok (.pv s.dat) (ρ.set i (some s.frozen))
  | _ => .bad
/-- a name's value looked at -/
def lookV (ρ : Env) (i : Nat) : R D := match ρ[i]? with
  | some (some (.raw _)) => .bad
  | some (some s) => .ok s.dat ρ
  | _ => .bad
def truB : D → Option Bool
  | .none => some false
  | .bool b => some b
  | .int i => some (i != 0)
  | .list xs => some (!xs.isEmpty)
  | .tuple xs => some (!xs.isEmpty)
  | _ => none
def bindD {β : Type} (r : R Val) (f : D → Env → R β) : R β := r.bind fun x ρ => f x.dat ρ
@[simp] theorem bindD_ok {β : Type} (a : Val) (ρ : Env) (f : D → Env → R β) : bindD (R.ok a ρ) f = f a.dat ρ := rfl
@[simp] theorem bindD_exc {β : Type} (c : Nat) (x : Option D) (ρ : Env) (f : D → Env → R β) : bindD (R.exc c x ρ) f = .exc c x ρ := rfl
@[simp] theorem bindD_bad {β : Type} (f : D → Env → R β) : bindD (R.bad) f = .bad := rfl
/-- a value, whoever holds it -/
def dd (r : R Val) : R D := bindD r fun x ρ => .ok x ρ
/-- an operand that is looked at alone -/
def pk (o : Option Nat) (ev : Env → R Val) (ρ : Env) : R D := match o with
  | some i => lookV ρ i
  | none => dd (ev ρ)
/-- behind a call: the caller's place -/
def backS (ρ : Env) : Option Nat → Option Slot → Option Env
  | none, _ => some ρ
  | some i, some s' => (match ρ[i]?, s' with
    | some (some (.own _)), .io xs => some (ρ.set i (some (.own xs)))
    | some (some (.own _)), .fz xs => some (ρ.set i (some (.v (.list xs))))
    | some (some (.io _)), .io xs => some (ρ.set i (some (.io xs)))
    | some (some (.io _)), .fz xs => some (ρ.set i (some (.fz xs)))
    | _, _ => none)
  | some _, none => none
def backR (p : Option Nat) (ρ : Env) : FR → R Val
  | .ret x o => (match backS ρ p o with
    | some ρ => .ok x ρ
    | none => .bad)
  | .exc c x o => (match backS ρ p o with
    | some ρ => .exc c x ρ
    | none => .bad)
  | .bad => .bad
/-- the first argument, where a name with a list of its own stands there -/
def ioArg (ρ : Env) (i : Nat) : Option (List D) := match ρ[i]? with
  | some (some (.own xs)) => some xs
  | some (some (.io xs)) => some xs
  | _ => none
def cioGo (call : List Slot → FR) (i : Nat) (args : Env → R (List D)) (ρ : Env) : R Val := match ioArg ρ i with
  | some _ => (args ρ).bind fun ds ρ => (match ioArg ρ i with
    | some xs => backR (some i) ρ (call (.io xs :: ds.map .v))
    | none => .bad)
  | none => bindD (readV ρ i) fun x ρ => (args ρ).bind fun ds ρ => backR none ρ (call (.v x :: ds.map .v))
def scrV (ρ : Env) (i : Nat) (n : Int) : R Val := match ρ[i]? with
  | some (some (.raw xs)) => .ok (.fr (cut xs none (some n))) ρ
  | _ => .bad
def crawGo (call : List Slot → FR) (i : Nat) (ρ : Env) : R Val := match ρ[i]? with
  | some (some (.raw xs)) => backR none ρ (call [.raw xs])
  | _ => .bad
def negD : D → Option D
  | .int i => some (.int (-i))
  | _ => none
def notD : D → Option D
  | .bool b => some (.bool (!b))
  | _ => none
def andD (x : D) (k : R Val) (ρ : Env) : R Val := match x with
  | .bool true => k
  | .bool false => .ok (.pv (.bool false)) ρ
  | _ => .bad
def orD (x : D) (k : R Val) (ρ : Env) : R Val := match x with
  | .bool false => k
  | .bool true => .ok (.pv (.bool true)) ρ
  | _ => .bad
def chainD (o : Option Bool) (k : R Val) (ρ : Env) : R Val := match o with
  | some true => k
  | some false => .ok (.pv (.bool false)) ρ
  | none => .bad
def isNop : E → Bool
  | .nop => true
  | _ => false
def partO (b : Bool) (x : D) : Option (Option Int) := match b with
  | true => some none
  | false => (match x with
    | .int i => some (some i)
    | _ => none)
def partR (b : Bool) (r : R Val) : R (Option Int) := bindD r fun d ρ => R.ofO (partO b d) ρ
def bltV : Blt → D → Val
  | .list, .list xs => .fr xs
  | .sorted, .list xs => .fr xs
  | _, d => .pv d
def tupV (ds : List D) (ρ : Env) : R Val := if ds.length ≤ LIM then .ok (.pv (.tuple ds)) ρ else .bad
def lstV (ds : List D) (ρ : Env) : R Val := if ds.length ≤ LIM then .ok (.fr ds) ρ else .bad
def lcEnd : R (List D) → R Val
  | .ok ys ρ => lstV ys ρ
  | _ => .bad
def zipO : D → D → Option (List D)
  | .list xs, .list ys => some (zipD xs ys)
  | .tuple xs, .tuple ys => some (zipD xs ys)
  | _, _ => none
def enumO : D → Option (List D)
  | .list xs => some (enumD 0 xs)
  | _ => none
def iteR {β : Type} (t : Bool) (a b : R β) : R β := match t with
  | true => a
  | false => b
@[simp] theorem iteR_t {β : Type} (a b : R β) : iteR true a b = a := rfl
@[simp] theorem iteR_f {β : Type} (a b : R β) : iteR false a b = b := rfl

mutual
noncomputable def evE : E → Env → R Val
  | .nop, ρ => .ok (.pv .none) ρ
  | .v i, ρ => readV ρ i
  | .k d, ρ => .ok (.pv d) ρ
  | .g j, ρ => R.ofO ((C.gl j).map .pv) ρ
  | .bin o a b, ρ => bindD (evE a ρ) fun x ρ => bindD (evE b ρ) fun y ρ => R.ofO ((binD o x y).map frV) ρ
  | .neg a, ρ => bindD (evE a ρ) fun x ρ => R.ofO ((negD x).map .pv) ρ
  | .not a, ρ => bindD (evE a ρ) fun x ρ => R.ofO ((notD x).map .pv) ρ
  | .and a b, ρ => bindD (evE a ρ) fun x ρ => andD x (evE b ρ) ρ
  | .or a b, ρ => bindD (evE a ρ) fun x ρ => orD x (evE b ρ) ρ
  | .cmp o a b, ρ => bindD (evE a ρ) fun x ρ => (pk (isV b) (fun ρ => evE b ρ) ρ).bind fun y ρ => R.ofO ((cmpD o x y).map fun b => .pv (.bool b)) ρ
  | .chain o p a b c, ρ => bindD (evE a ρ) fun x ρ => bindD (evE b ρ) fun y ρ => chainD (cmpD o x y) (bindD (evE c ρ) fun z ρ => R.ofO ((cmpD p y z).map fun b => .pv (.bool b)) ρ) ρ
  | .ife c a b, ρ => (evT c ρ).bind fun t ρ => iteR t (evE a ρ) (evE b ρ)
  | .tup es, ρ => (evA es ρ).bind fun ds ρ => tupV ds ρ
  | .lst es, ρ => (evA es ρ).bind fun ds ρ => lstV ds ρ
  | .ix a i, ρ => bindD (evE a ρ) fun x ρ => bindD (evE i ρ) fun y ρ => R.ofO ((ixD x y).map .pv) ρ
  | .ixv j i, ρ => (lookV ρ j).bind fun _ ρ => bindD (evE i ρ) fun y ρ => (lookV ρ j).bind fun x ρ => R.ofO ((ixD x y).map .pv) ρ
  | .sl a lo hi, ρ => bindD (evE a ρ) fun x ρ => (partR (isNop lo) (evE lo ρ)).bind fun l ρ => (partR (isNop hi) (evE hi ρ)).bind fun h ρ => R.ofO ((slD x l h).map frV) ρ
  | .slv j lo hi, ρ => (lookV ρ j).bind fun _ ρ => (partR (isNop lo) (evE lo ρ)).bind fun l ρ => (partR (isNop hi) (evE hi ρ)).bind fun h ρ => (lookV ρ j).bind fun x ρ => R.ofO ((slD x l h).map frV) ρ
  | .rev a, ρ => (pk (isV a) (fun ρ => evE a ρ) ρ).bind fun x ρ => R.ofO ((revD x).map frV) ρ
  | .call j es, ρ => (evA es ρ).bind fun ds ρ => backR none ρ (C.call j (ds.map .v))
  | .cio j i es, ρ => cioGo (C.call j) i (fun ρ => evA es ρ) ρ
  | .craw j i, ρ => crawGo (C.call j) i ρ
  | .scr i n, ρ => scrV ρ i n
  | .b1 b a, ρ => (pk (isV a) (fun ρ => evE a ρ) ρ).bind fun x ρ => R.ofO ((bltD b [x]).map (bltV b)) ρ
  | .b2 b a c, ρ => bindD (evE a ρ) fun x ρ => bindD (evE c ρ) fun y ρ => R.ofO ((bltD b [x, y]).map .pv) ρ
  | .isi a ts, ρ => (pk (isV a) (fun ρ => evE a ρ) ρ).bind fun x ρ => .ok (.pv (.bool (ts.any fun t => t.is x))) ρ
  | .lc elt tg it c, ρ => (evI it ρ).bind fun xs ρ => lcEnd (lcGo (lcTurn tg fun ρ => (evT c ρ).bind fun t ρ => iteR t (bindD (evE elt ρ) fun y ρ => .ok (some y) ρ) (.ok none ρ)) xs ρ)
noncomputable def evT : T → Env → R Bool
  | .e a, ρ => (pk (isV a) (fun ρ => evE a ρ) ρ).bind fun x ρ => R.ofO (truB x) ρ
  | .and a b, ρ => (evT a ρ).bind fun x ρ => iteR x (evT b ρ) (.ok false ρ)
  | .or a b, ρ => (evT a ρ).bind fun x ρ => iteR x (.ok true ρ) (evT b ρ)
  | .not a, ρ => (evT a ρ).bind fun x ρ => .ok (!x) ρ
  | .yes, ρ => .ok true ρ
noncomputable def evA : Es → Env → R (List D)
  | .nil, ρ => .ok [] ρ
  | .cons e es, ρ => bindD (evE e ρ) fun x ρ => (evA es ρ).bind fun xs ρ => .ok (x :: xs) ρ
noncomputable def evI : It → Env → R (List D)
  | .rng es, ρ => (evA es ρ).bind fun ds ρ => R.ofO ((rngOf ds).map fun p => rangeD p.1 p.2.1 p.2.2) ρ
  | .of e, ρ => bindD (evE e ρ) fun x ρ => R.ofO (walkD x) ρ
  | .zip a b, ρ => bindD (evE a ρ) fun x ρ => bindD (evE b ρ) fun y ρ => R.ofO (zipO x y) ρ
  | .enum a, ρ => bindD (evE a ρ) fun x ρ => R.ofO (enumO x) ρ
end

/-! ### statements -/
def iteS (t : Bool) (a b : SR) : SR := match t with
  | true => a
  | false => b
@[simp] theorem iteS_t (a b : SR) : iteS true a b = a := rfl
@[simp] theorem iteS_f (a b : SR) : iteS false a b = b := rfl
def setAt? (xs : List D) (i : Int) (d : D) : Option (List D) := (L2.ixN xs.length i).map fun j => xs.set j d
def putX (ρ : Env) (i : Nat) (x d : D) : SR := match ρ[i]?, x with
  | some (some (.own xs)), .int j => (match setAt? xs j d with
    | some ys => .nx (ρ.set i (some (.own ys)))
    | none => .bad)
  | some (some (.io xs)), .int j => (match setAt? xs j d with
    | some ys => .nx (ρ.set i (some (.io ys)))
    | none => .bad)
  | _, _ => .bad
def addX (ρ : Env) (i : Nat) (d : D) : SR := match ρ[i]? with
  | some (some (.own xs)) => if xs.length < LIM then .nx (ρ.set i (some (.own (xs ++ [d])))) else .bad
  | some (some (.io xs)) => if xs.length < LIM then .nx (ρ.set i (some (.io (xs ++ [d])))) else .bad
  | _ => .bad
def toNx (r : R Unit) : SR := r.toS fun _ ρ => .nx ρ
def asgV (ρ : Env) : Tg → Val → SR
  | .n i, x => toNx (putV ρ i x)
  | t, x => toNx (putT ρ t x.dat)
/-- the def's end by a name's value: its own list goes out with nobody else holding it -/
def retV (ρ : Env) (i : Nat) : SR := match ρ[i]? with
  | some (some (.own xs)) => .ret (.fr xs) (ρ.set i none)
  | some (some (.raw _)) => .bad
  | some (some s) => .ret (.pv s.dat) (ρ.set i (some s.frozen))
  | _ => .bad
def augD : BOp → D → D → Option D
  | .add, .int i, .int j => some (.int (i + j))
  | .sub, .int i, .int j => some (.int (i - j))
  | _, _, _ => none
mutual
noncomputable def evS : S → Env → SR
  | .asg t e, ρ => (evE C e ρ).toS fun x ρ => asgV ρ t x
  | .par is es, ρ => (evA C es ρ).toS fun ds ρ => toNx (putAll ρ is ds)
  | .set i x e, ρ => (bindD (evE C e ρ) fun d ρ => (lookV ρ i).bind fun _ ρ => bindD (evE C x ρ) fun j ρ => .ok (d, j) ρ).toS fun p ρ => putX ρ i p.2 p.1
  | .aug i o e, ρ => ((lookV ρ i).bind fun x ρ => bindD (evE C e ρ) fun y ρ => R.ofO (augD o x y) ρ).toS fun z ρ => toNx (putD ρ i z)
  | .app i e, ρ => (R.ofO (ioArg ρ i) ρ).toS fun _ ρ => (dd (evE C e ρ)).toS fun y ρ => addX ρ i y
  | .expr e, ρ => (evE C e ρ).toS fun _ ρ => .nx ρ
  | .ite c a b, ρ => (evT C c ρ).toS fun t ρ => iteS t (evSs a ρ) (evSs b ρ)
  | .whl c b, ρ => Pv.whl (fun ρ => evT C c ρ) (fun ρ => evSs b ρ) ρ
  | .for_ t it b, ρ => (evI C it ρ).toS fun xs ρ => forGo (fun x ρ => (putT ρ t x).toS fun _ ρ => evSs b ρ) xs ρ
  | .ret e, ρ => (evE C e ρ).toS fun x ρ => .ret x ρ
  | .retv i, ρ => retV ρ i
  | .retN, ρ => .ret (.pv .none) ρ
  | .raise c, ρ => .exc c none ρ
  | .raisex _ _, _ => .bad
  | .pass, ρ => .nx ρ
  | .brk, ρ => .brk ρ
  | .ct, ρ => .ct ρ
noncomputable def evSs : Ss → Env → SR
  | .nil, ρ => .nx ρ
  | .cons s r, ρ => (evS s ρ).bind fun ρ => evSs r ρ
end
end

/-! ### defs -/
/-- a def: how many parameters, how many names, its body -/
structure Fn where
  ar : Nat
  nl : Nat
  body : Ss
def outOf (as : List Slot) (ρ : Env) : Option (Option Slot) := match as with
  | .io _ :: _ => (match ρ.getD 0 none with
    | some (.io xs) => some (some (.io xs))
    | some (.fz xs) => some (some (.fz xs))
    | _ => none)
  | _ => some none
def finR (as : List Slot) : SR → FR
  | .nx ρ => (match outOf as ρ with
    | some o => .ret (.pv .none) o
    | none => .bad)
  | .ret x ρ => (match outOf as ρ with
    | some o => .ret x o
    | none => .bad)
  | .exc c x ρ => (match outOf as ρ with
    | some o => .exc c x o
    | none => .bad)
  | _ => .bad
def argOk : List Slot → Bool
  | [] => true
  | .v _ :: r => r.all fun s => match s with
    | .v _ => true
    | _ => false
  | .io _ :: r => r.all fun s => match s with
    | .v _ => true
    | _ => false
  | [.raw _] => true
  | _ => false
/-- a def's run, calls nested n deep at the most -/
noncomputable def run (P : List Fn) (gl : Nat → Option D) : Nat → Nat → List Slot → FR
  | 0, _, _ => .bad
  | n + 1, j, as => match P[j]? with
    | some f => if as.length = f.ar ∧ argOk as = true then finR as (evSs ⟨run P gl n, gl⟩ f.body (as.map some ++ List.replicate (f.nl - f.ar) none)) else .bad
    | none => .bad
end Pv

namespace Pv
open PySem L2

/-! ### what stands for what -/
def Ex (H H' : Hp) : Prop := ∀ a o, H a = some o → H' a = some o
theorem Ex.refl (H : Hp) : Ex H H := fun _ _ h => h
theorem Ex.trans {H H1 H2 : Hp} (a : Ex H H1) (b : Ex H1 H2) : Ex H H2 := fun x o h => b x o (a x o h)
theorem Ex.new {H : Hp} {p : Addr} {o : HO} (h : H p = none) : Ex H (upd H p o) := fun a u e => by
  rw [upd_ne (ne_of_none e h)]
  exact e
theorem Ex.rd {H H' : Hp} {a : Addr} {u : HO} (e : Ex H H') (h : Rd H a u) : Rd H' a u := by
  rcases h with h | ⟨o, h⟩
  · exact Or.inl (e a _ h)
  · exact Or.inr ⟨o, e a _ h⟩
theorem Ex.sqL {K : PySem.W.Frag} {H H' : Hp} {a : Addr} {xs : List V} (e : Ex H H') (h : SqL K H a xs) : SqL K H' a xs := by
  rcases h with h | h
  · exact Or.inl (e.rd h)
  · exact Or.inr h
theorem Ex.sqT {K : PySem.W.Frag} {H H' : Hp} {a : Addr} {xs : List V} (e : Ex H H') (h : SqT K H a xs) : SqT K H' a xs := by
  rcases h with h | h
  · exact Or.inl (e.rd h)
  · exact Or.inr h
mutual
inductive Rep (K : PySem.W.Frag) (F : Hp) : V → D → Prop
  | non : Rep K F .non .none
  | bl (b : Bool) : Rep K F (.bl b) (.bool b)
  | int (i : Int) : Rep K F (.int i) (.int i)
  | str (x : Str) : Rep K F (.str x) (.str x)
  | lst {a : Addr} {us : List V} {ds : List D} : Rd F a (.lst us) → Reps K F us ds → Rep K F (.ref a) (.list ds)
  | tup {a : Addr} {us : List V} {ds : List D} : SqT K F a us → Reps K F us ds → Rep K F (.ref a) (.tuple ds)
inductive Reps (K : PySem.W.Frag) (F : Hp) : List V → List D → Prop
  | nil : Reps K F [] []
  | cons {v : V} {vs : List V} {d : D} {ds : List D} : Rep K F v d → Reps K F vs ds → Reps K F (v :: vs) (d :: ds)
end
section
variable {K : PySem.W.Frag} {F F' : Hp}
mutual
theorem Rep.mono (e : Ex F F') : ∀ {v : V} {d : D}, Rep K F v d → Rep K F' v d
  | _, _, .non => .non
  | _, _, .bl b => .bl b
  | _, _, .int i => .int i
  | _, _, .str x => .str x
  | _, _, .lst h hs => .lst (e.rd h) (Reps.mono e hs)
  | _, _, .tup h hs => .tup (e.sqT h) (Reps.mono e hs)
theorem Reps.mono (e : Ex F F') : ∀ {vs : List V} {ds : List D}, Reps K F vs ds → Reps K F' vs ds
  | _, _, .nil => .nil
  | _, _, .cons h hs => .cons (Rep.mono e h) (Reps.mono e hs)
end
mutual
theorem Rep.dp : ∀ {v : V} {d : D}, Rep K F v d → Dp K F v d
  | _, _, .non => .non
  | _, _, .bl b => .bl b
  | _, _, .int i => .int i
  | _, _, .str x => .str x
  | _, _, .lst h hs => .lst (.inl h) (Reps.dp hs)
  | _, _, .tup h hs => .tup h (Reps.dp hs)
theorem Reps.dp : ∀ {vs : List V} {ds : List D}, Reps K F vs ds → DpAll K F vs ds
  | _, _, .nil => .nil
  | _, _, .cons h hs => .cons (Rep.dp h) (Reps.dp hs)
end
theorem Reps.length : ∀ {vs : List V} {ds : List D}, Reps K F vs ds → vs.length = ds.length
  | _, _, .nil => rfl
  | _, _, .cons _ hs => by rw [List.length_cons, List.length_cons, Reps.length hs]
theorem Reps.append : ∀ {vs : List V} {ds : List D} {us : List V} {es : List D}, Reps K F vs ds → Reps K F us es → Reps K F (vs ++ us) (ds ++ es)
  | _, _, _, _, .nil, h => h
  | _, _, _, _, .cons a b, h => .cons a (Reps.append b h)
theorem Reps.get : ∀ {vs : List V} {ds : List D} {i : Nat} {d : D}, Reps K F vs ds → ds[i]? = some d → ∃ v, vs[i]? = some v ∧ Rep K F v d
  | _, _, _, _, .nil, e => by simp at e
  | _, _, 0, d, .cons h _, e => ⟨_, rfl, by simp at e; subst e; exact h⟩
  | _, _, i + 1, d, .cons _ hs, e => by
    obtain ⟨v, h1, h2⟩ := Reps.get (i := i) (d := d) hs (by simpa using e)
    exact ⟨v, by simpa using h1, h2⟩
theorem Reps.getV : ∀ {vs : List V} {ds : List D} {i : Nat} {v : V}, Reps K F vs ds → vs[i]? = some v → ∃ d, ds[i]? = some d ∧ Rep K F v d
  | _, _, _, _, .nil, e => by simp at e
  | _, _, 0, d, .cons h _, e => ⟨_, rfl, by simp at e; subst e; exact h⟩
  | _, _, i + 1, d, .cons _ hs, e => by
    obtain ⟨v, h1, h2⟩ := Reps.getV (i := i) (v := d) hs (by simpa using e)
    exact ⟨v, by simpa using h1, h2⟩
theorem Reps.take : ∀ {vs : List V} {ds : List D} (n : Nat), Reps K F vs ds → Reps K F (vs.take n) (ds.take n)
  | _, _, 0, _ => .nil
  | _, _, _ + 1, .nil => .nil
  | _, _, n + 1, .cons h hs => .cons h (Reps.take n hs)
theorem Reps.drop : ∀ {vs : List V} {ds : List D} (n : Nat), Reps K F vs ds → Reps K F (vs.drop n) (ds.drop n)
  | _, _, 0, h => h
  | _, _, _ + 1, .nil => .nil
  | _, _, n + 1, .cons h hs => Reps.drop n hs
theorem Reps.set : ∀ {vs : List V} {ds : List D} {v : V} {d : D} (n : Nat), Rep K F v d → Reps K F vs ds → Reps K F (vs.set n v) (ds.set n d)
  | _, _, _, _, _, _, .nil => .nil
  | _, _, _, _, 0, h, .cons _ hs => .cons h hs
  | _, _, _, _, n + 1, h, .cons a hs => .cons a (Reps.set n h hs)
theorem Reps.reverse : ∀ {vs : List V} {ds : List D}, Reps K F vs ds → Reps K F vs.reverse ds.reverse
  | _, _, .nil => .nil
  | _, _, .cons h hs => by rw [List.reverse_cons, List.reverse_cons]; exact Reps.append (Reps.reverse hs) (.cons h .nil)
theorem Reps.atI {vs : List V} {ds : List D} {i : Int} {d : D} (h : Reps K F vs ds) (e : L2.atI ds i = some d) : ∃ v, L2.atI vs i = some v ∧ Rep K F v d := by
  unfold L2.atI at e ⊢
  rw [h.length]
  cases hj : L2.ixN ds.length i with
  | none => rw [hj] at e; cases e
  | some j =>
    rw [hj] at e
    exact h.get e
theorem Reps.one {v : V} {d : D} (h : Rep K F v d) : Reps K F [v] [d] := .cons h .nil
theorem Rep.int_inv {v : V} {i : Int} (h : Rep K F v (.int i)) : v = .int i := by cases h; rfl
theorem Rep.bool_inv {v : V} {b : Bool} (h : Rep K F v (.bool b)) : v = .bl b := by cases h; rfl
theorem Rep.str_inv {v : V} {x : Str} (h : Rep K F v (.str x)) : v = .str x := by cases h; rfl
theorem Rep.none_inv {v : V} (h : Rep K F v .none) : v = .non := by cases h; rfl
theorem Rep.list_inv {v : V} {ds : List D} (h : Rep K F v (.list ds)) : ∃ a us, v = .ref a ∧ Rd F a (.lst us) ∧ Reps K F us ds := by
  cases h with
  | lst h hs => exact ⟨_, _, rfl, h, hs⟩
theorem Rep.tup_inv {v : V} {ds : List D} (h : Rep K F v (.tuple ds)) : ∃ a us, v = .ref a ∧ SqT K F a us ∧ Reps K F us ds := by
  cases h with
  | tup h hs => exact ⟨_, _, rfl, h, hs⟩
theorem Reps.intsOf : ∀ {vs : List V} {ds : List D} {ns : List Int}, Reps K F vs ds → Pv.intsOf ds = some ns → vs = ns.map V.int
  | _, _, _, .nil, e => by cases e; rfl
  | _, d :: ds, ns, .cons h hs, e => by
    cases d with
    | int i =>
      have e' : (Pv.intsOf ds).map (i :: ·) = some ns := e
      cases hr : Pv.intsOf ds with
      | none => rw [hr] at e'; cases e'
      | some ms =>
        rw [hr] at e'
        cases e'
        rw [h.int_inv, Reps.intsOf hs hr]
        rfl
    | _ => cases e
theorem Reps.boolsOf : ∀ {vs : List V} {ds : List D} {ns : List Bool}, Reps K F vs ds → Pv.boolsOf ds = some ns → vs = ns.map V.bl
  | _, _, _, .nil, e => by cases e; rfl
  | _, d :: ds, ns, .cons h hs, e => by
    cases d with
    | bool i =>
      have e' : (Pv.boolsOf ds).map (i :: ·) = some ns := e
      cases hr : Pv.boolsOf ds with
      | none => rw [hr] at e'; cases e'
      | some ms =>
        rw [hr] at e'
        cases e'
        rw [h.bool_inv, Reps.boolsOf hs hr]
        rfl
    | _ => cases e
end

/-- what is looked at: known, or a list that stands there now, its items known -/
def PkR (K : PySem.W.Frag) (F H : Hp) (v : V) (d : D) : Prop := Rep K F v d ∨ ∃ p us xs, v = .ref p ∧ d = .list xs ∧ H p = some (.lst us) ∧ Reps K F us xs
section
variable {K : PySem.W.Frag} {F H : Hp} {v : V} {d : D}
theorem PkR.rep (e : Ex F H) (h : PkR K F H v d) : Rep K H v d := by
  rcases h with h | ⟨p, us, xs, rfl, rfl, h1, h2⟩
  · exact h.mono e
  · exact .lst (.inl h1) (Reps.mono e h2)
theorem PkR.list {xs : List D} (e : Ex F H) (h : PkR K F H v (.list xs)) : ∃ a us, v = .ref a ∧ Rd H a (.lst us) ∧ Reps K F us xs := by
  rcases h with h | ⟨p, us, ys, rfl, e2, h1, h2⟩
  · obtain ⟨a, us, rfl, h1, h2⟩ := h.list_inv
    exact ⟨a, us, rfl, e.rd h1, h2⟩
  · cases e2
    exact ⟨p, us, rfl, .inl h1, h2⟩
theorem PkR.plain (h : PkR K F H v d) (hd : ∀ xs, d ≠ .list xs) : Rep K F v d := by
  rcases h with h | ⟨p, us, ys, rfl, e2, h1, h2⟩
  · exact h
  · exact absurd e2 (hd ys)
end

/-! ### the state -/
/-- where a def's (or a block's) run began: what is known and shall stay, the heap, what may change, the caller's list -/
structure Ent where
  F0 : Hp
  H0 : Hp
  M : Addr → Prop
  pI : Option Addr
def Slot.isM : Slot → Bool
  | .own _ => true
  | .io _ => true
  | _ => false
def SlotR (K : PySem.W.Frag) (e : Ent) (F H : Hp) : Slot → V → Prop
  | .v d, v => Rep K F v d
  | .own xs, v => ∃ p us, v = .ref p ∧ F p = none ∧ H p = some (.lst us) ∧ Reps K F us xs ∧ (e.M p ∨ e.H0 p = none) ∧ e.pI ≠ some p
  | .io xs, v => ∃ p us, v = .ref p ∧ F p = none ∧ H p = some (.lst us) ∧ Reps K F us xs ∧ e.M p ∧ e.pI = some p
  | .fz xs, v => ∃ p, v = .ref p ∧ e.pI = some p ∧ Rep K F v (.list xs)
  | .raw xs, v => ∃ p us, v = .ref p ∧ SqL K F p us ∧ Reps K F us xs
structure Rel (K : PySem.W.Frag) (e : Ent) (F H : Hp) (ρ : Env) (σ : L2.St) : Prop where
  len : ρ.length = σ.length
  sub0 : Ex e.F0 F
  sub : Ex F H
  slot : ∀ (i : Nat) (s : Slot), ρ[i]? = some (some s) → ∃ v, σ[i]? = some (some v) ∧ SlotR K e F H s v
  dis : ∀ (i j : Nat) (s t : Slot) (p : Addr), i ≠ j → ρ[i]? = some (some s) → ρ[j]? = some (some t) → s.isM = true → t.isM = true → σ[i]? = some (some (.ref p)) → σ[j]? ≠ some (some (.ref p))
  frm : ∀ a o, e.H0 a = some o → ¬ e.M a → H a = some o
  old : ∀ a, e.F0 a = none → e.H0 a ≠ none → ¬ e.M a → F a = none
  mh : ∀ p, e.M p → H p ≠ none
  pm : ∀ p, e.pI = some p → e.M p
/-- nothing that may change is at p -/
def Apart (ρ : Env) (σ : L2.St) (p : Addr) : Prop := ∀ (i : Nat) (s : Slot), ρ[i]? = some (some s) → s.isM = true → σ[i]? ≠ some (some (.ref p))
def VR (K : PySem.W.Frag) (e : Ent) (F H : Hp) (ρ : Env) (σ : L2.St) (v : V) : Val → Prop
  | .pv d => Rep K F v d
  | .fr xs => ∃ p us, v = .ref p ∧ F p = none ∧ H p = some (.lst us) ∧ Reps K F us xs ∧ e.H0 p = none ∧ ¬ e.M p ∧ e.pI ≠ some p ∧ Apart ρ σ p
section
variable {K : PySem.W.Frag} {e : Ent} {F F' H H' : Hp} {ρ ρ' : Env} {σ σ' : L2.St} {v : V} {p : Addr} {i : Nat} {s : Slot}
/-- what is known grows by an object that H has, that is nobody's own -/
theorem Rel.grow {o : HO} (r : Rel K e F H ρ σ) (hF : F p = none) (hH : H p = some o) (h0 : e.H0 p = none ∨ e.M p) (ap : Apart ρ σ p) : Rel K e (upd F p o) H ρ σ where
  len := r.len
  sub0 := r.sub0.trans (Ex.new hF)
  sub := fun a u h => by
    by_cases ha : a = p
    · subst ha; rw [upd_same] at h; cases h; exact hH
    · rw [upd_ne ha] at h; exact r.sub a u h
  slot := fun i s hs => by
    obtain ⟨v, hv, q⟩ := r.slot i s hs
    refine ⟨v, hv, ?_⟩
    cases s with
    | v d => exact Rep.mono (Ex.new hF) q
    | own xs =>
      obtain ⟨b, us, rfl, q1, q2, q3, q4⟩ := q
      have hb : b ≠ p := fun z => ap i _ hs rfl (by rw [hv, z])
      exact ⟨b, us, rfl, by rw [upd_ne hb]; exact q1, q2, Reps.mono (Ex.new hF) q3, q4⟩
    | io xs =>
      obtain ⟨b, us, rfl, q1, q2, q3, q4⟩ := q
      have hb : b ≠ p := fun z => ap i _ hs rfl (by rw [hv, z])
      exact ⟨b, us, rfl, by rw [upd_ne hb]; exact q1, q2, Reps.mono (Ex.new hF) q3, q4⟩
    | fz xs =>
      obtain ⟨b, rfl, q1, q2⟩ := q
      exact ⟨b, rfl, q1, Rep.mono (Ex.new hF) q2⟩
    | raw xs =>
      obtain ⟨b, us, rfl, q1, q2⟩ := q
      exact ⟨b, us, rfl, (Ex.new hF).sqL q1, Reps.mono (Ex.new hF) q2⟩
  dis := r.dis
  frm := r.frm
  old := fun a h1 h2 h3 => by
    have ha : a ≠ p := fun z => by
      subst z
      rcases h0 with h0 | h0
      · exact h2 h0
      · exact h3 h0
    rw [upd_ne ha]
    exact r.old a h1 h2 h3
  mh := r.mh
  pm := r.pm
/-- a new object is laid in the heap -/
theorem Rel.laid {o : HO} (r : Rel K e F H ρ σ) (hH : H p = none) : Rel K e F (upd H p o) ρ σ where
  len := r.len
  sub0 := r.sub0
  sub := r.sub.trans (Ex.new hH)
  slot := fun i s hs => by
    obtain ⟨v, hv, q⟩ := r.slot i s hs
    refine ⟨v, hv, ?_⟩
    cases s with
    | v d => exact q
    | own xs =>
      obtain ⟨b, us, rfl, q1, q2, q3, q4⟩ := q
      exact ⟨b, us, rfl, q1, Ex.new hH _ _ q2, q3, q4⟩
    | io xs =>
      obtain ⟨b, us, rfl, q1, q2, q3, q4⟩ := q
      exact ⟨b, us, rfl, q1, Ex.new hH _ _ q2, q3, q4⟩
    | fz xs => exact q
    | raw xs => exact q
  dis := r.dis
  frm := fun a u h1 h2 => Ex.new hH _ _ (r.frm a u h1 h2)
  old := r.old
  mh := fun q hq => by
    cases h : H q with
    | none => exact absurd h (r.mh q hq)
    | some u => rw [Ex.new hH q u h]; exact fun z => nomatch z
  pm := r.pm
theorem Rel.noneF (r : Rel K e F H ρ σ) (hH : H p = none) : F p = none := by
  cases h : F p with
  | none => rfl
  | some o => rw [r.sub p o h] at hH; cases hH
theorem Rel.apart (r : Rel K e F H ρ σ) (hH : H p = none) : Apart ρ σ p := fun i s hs hm hv => by
  obtain ⟨v, hv', q⟩ := r.slot i s hs
  rw [hv] at hv'
  cases hv'
  cases s with
  | v d => cases hm
  | own xs =>
    obtain ⟨b, us, eb, q1, q2, _⟩ := q
    cases eb
    rw [hH] at q2; cases q2
  | io xs =>
    obtain ⟨b, us, eb, q1, q2, _⟩ := q
    cases eb
    rw [hH] at q2; cases q2
  | fz xs => cases hm
  | raw xs => cases hm
theorem Rel.none0 (r : Rel K e F H ρ σ) (hH : H p = none) : e.H0 p = none ∨ e.M p := by
  cases h : e.H0 p with
  | none => exact .inl rfl
  | some o =>
    refine .inr (Classical.byContradiction fun hm => ?_)
    rw [r.frm p o h hm] at hH
    cases hH
theorem Rel.fresh (r : Rel K e F H ρ σ) (hH : H p = none) : ¬ e.M p ∧ e.pI ≠ some p := ⟨fun h => r.mh p h hH, fun h => r.mh p (r.pm p h) hH⟩
/-- a new list, tuple laid and known -/
theorem Rel.new {o : HO} (r : Rel K e F H ρ σ) (hH : H p = none) : Rel K e (upd F p o) (upd H p o) ρ σ :=
  (r.laid hH).grow (r.noneF hH) upd_same (r.none0 hH) (r.apart hH)
theorem getElem_set_ne {α : Type} {l : List α} {i j : Nat} {a : α} (h : i ≠ j) : (l.set i a)[j]? = l[j]? := List.getElem?_set_ne h
/-- a place's value is handed on: whoever holds it, nobody changes it any more -/
theorem Rel.freeze (r : Rel K e F H ρ σ) (hs : ρ[i]? = some (some s)) (hn : ∀ xs, s ≠ .raw xs) : ∃ F' v, Ex F F' ∧ σ[i]? = some (some v) ∧ Rep K F' v s.dat ∧ Rel K e F' H (ρ.set i (some s.frozen)) σ := by
  obtain ⟨v, hv, q⟩ := r.slot i s hs
  have hi : i < ρ.length := (List.getElem?_eq_some_iff.mp hs).1
  have hset : ∀ t, (ρ.set i (some t))[i]? = some (some t) := fun t => by rw [List.getElem?_set_self hi]
  cases s with
  | raw xs => exact absurd rfl (hn xs)
  | v d =>
    refine ⟨F, v, Ex.refl F, hv, q, ?_⟩
    have e1 : ρ.set i (some (Slot.v d).frozen) = ρ := by
      show ρ.set i (some (.v d)) = ρ
      apply List.ext_getElem?
      intro j
      by_cases hj : i = j
      · subst hj; rw [hset, hs]
      · rw [List.getElem?_set_ne hj]
    rw [e1]
    exact r
  | fz xs =>
    obtain ⟨p, rfl, q1, q2⟩ := q
    refine ⟨F, .ref p, Ex.refl F, hv, q2, ?_⟩
    have e1 : ρ.set i (some (Slot.fz xs).frozen) = ρ := by
      show ρ.set i (some (.fz xs)) = ρ
      apply List.ext_getElem?
      intro j
      by_cases hj : i = j
      · subst hj; rw [hset, hs]
      · rw [List.getElem?_set_ne hj]
    rw [e1]
    exact r
  | own xs =>
    obtain ⟨p, us, rfl, q1, q2, q3, q4, q5⟩ := q
    have hrep : Rep K (upd F p (.lst us)) (.ref p) (.list xs) := .lst (.inl upd_same) (Reps.mono (Ex.new q1) q3)
    refine ⟨upd F p (.lst us), .ref p, Ex.new q1, hv, hrep, ?_⟩
    have ρ0 : Rel K e F H (ρ.set i none) σ :=
      ⟨by rw [List.length_set]; exact r.len, r.sub0, r.sub, fun j t ht => by
        by_cases hj : i = j
        · subst hj; rw [List.getElem?_set_self hi] at ht; cases ht
        · rw [List.getElem?_set_ne hj] at ht; exact r.slot j t ht, fun j k t u b hjk h1 h2 => by
        by_cases hj : i = j
        · subst hj; rw [List.getElem?_set_self hi] at h1; cases h1
        · by_cases hk : i = k
          · subst hk; rw [List.getElem?_set_self hi] at h2; cases h2
          · rw [List.getElem?_set_ne hj] at h1; rw [List.getElem?_set_ne hk] at h2; exact r.dis j k t u b hjk h1 h2, r.frm, r.old, r.mh, r.pm⟩
    have ap : Apart (ρ.set i none) σ p := fun j t ht hm hvj => by
      by_cases hj : i = j
      · subst hj; rw [List.getElem?_set_self hi] at ht; cases ht
      · rw [List.getElem?_set_ne hj] at ht
        exact r.dis i j _ t p hj hs ht rfl hm hv hvj
    have r1 := ρ0.grow q1 q2 q4.symm ap
    refine ⟨by rw [List.length_set]; exact r.len, r1.sub0, r1.sub, fun j t ht => ?_, fun j k t u b hjk h1 h2 m1 m2 => ?_, r1.frm, r1.old, r1.mh, r1.pm⟩
    · by_cases hj : i = j
      · subst hj; rw [hset] at ht; cases ht; exact ⟨_, hv, hrep⟩
      · rw [List.getElem?_set_ne hj] at ht; exact r1.slot j t (by rw [List.getElem?_set_ne hj]; exact ht)
    · by_cases hj : i = j
      · subst hj; rw [hset] at h1; cases h1; cases m1
      · by_cases hk : i = k
        · subst hk; rw [hset] at h2; cases h2; cases m2
        · rw [List.getElem?_set_ne hj] at h1; rw [List.getElem?_set_ne hk] at h2; exact r.dis j k t u b hjk h1 h2 m1 m2
  | io xs =>
    obtain ⟨p, us, rfl, q1, q2, q3, q4, q5⟩ := q
    have hrep : Rep K (upd F p (.lst us)) (.ref p) (.list xs) := .lst (.inl upd_same) (Reps.mono (Ex.new q1) q3)
    refine ⟨upd F p (.lst us), .ref p, Ex.new q1, hv, hrep, ?_⟩
    have ρ0 : Rel K e F H (ρ.set i none) σ :=
      ⟨by rw [List.length_set]; exact r.len, r.sub0, r.sub, fun j t ht => by
        by_cases hj : i = j
        · subst hj; rw [List.getElem?_set_self hi] at ht; cases ht
        · rw [List.getElem?_set_ne hj] at ht; exact r.slot j t ht, fun j k t u b hjk h1 h2 => by
        by_cases hj : i = j
        · subst hj; rw [List.getElem?_set_self hi] at h1; cases h1
        · by_cases hk : i = k
          · subst hk; rw [List.getElem?_set_self hi] at h2; cases h2
          · rw [List.getElem?_set_ne hj] at h1; rw [List.getElem?_set_ne hk] at h2; exact r.dis j k t u b hjk h1 h2, r.frm, r.old, r.mh, r.pm⟩
    have ap : Apart (ρ.set i none) σ p := fun j t ht hm hvj => by
      by_cases hj : i = j
      · subst hj; rw [List.getElem?_set_self hi] at ht; cases ht
      · rw [List.getElem?_set_ne hj] at ht
        exact r.dis i j _ t p hj hs ht rfl hm hv hvj
    have r1 := ρ0.grow q1 q2 (.inr q4) ap
    refine ⟨by rw [List.length_set]; exact r.len, r1.sub0, r1.sub, fun j t ht => ?_, fun j k t u b hjk h1 h2 m1 m2 => ?_, r1.frm, r1.old, r1.mh, r1.pm⟩
    · by_cases hj : i = j
      · subst hj; rw [hset] at ht; cases ht; exact ⟨_, hv, p, rfl, q5, hrep⟩
      · rw [List.getElem?_set_ne hj] at ht; exact r1.slot j t (by rw [List.getElem?_set_ne hj]; exact ht)
    · by_cases hj : i = j
      · subst hj; rw [hset] at h1; cases h1; cases m1
      · by_cases hk : i = k
        · subst hk; rw [hset] at h2; cases h2; cases m2
        · rw [List.getElem?_set_ne hj] at h1; rw [List.getElem?_set_ne hk] at h2; exact r.dis j k t u b hjk h1 h2 m1 m2
/-- a place's value is looked at, as the heap has it now -/
theorem Rel.look (r : Rel K e F H ρ σ) (hs : ρ[i]? = some (some s)) (hn : ∀ xs, s ≠ .raw xs) : ∃ v, σ[i]? = some (some v) ∧ PkR K F H v s.dat := by
  obtain ⟨v, hv, q⟩ := r.slot i s hs
  refine ⟨v, hv, ?_⟩
  cases s with
  | raw xs => exact absurd rfl (hn xs)
  | v d => exact .inl q
  | own xs =>
    obtain ⟨p, us, rfl, q1, q2, q3, _⟩ := q
    exact .inr ⟨p, us, xs, rfl, rfl, q2, q3⟩
  | io xs =>
    obtain ⟨p, us, rfl, q1, q2, q3, _⟩ := q
    exact .inr ⟨p, us, xs, rfl, rfl, q2, q3⟩
  | fz xs =>
    obtain ⟨p, rfl, q1, q2⟩ := q
    exact .inl q2
theorem VR.freeze {x : Val} (r : Rel K e F H ρ σ) (q : VR K e F H ρ σ v x) : ∃ F', Ex F F' ∧ Rep K F' v x.dat ∧ Rel K e F' H ρ σ := by
  cases x with
  | pv d => exact ⟨F, Ex.refl F, q, r⟩
  | fr xs =>
    obtain ⟨p, us, rfl, q1, q2, q3, q4, q5, q6, q7⟩ := q
    exact ⟨upd F p (.lst us), Ex.new q1, .lst (.inl upd_same) (Reps.mono (Ex.new q1) q3), r.grow q1 q2 (.inl q4) q7⟩
end
end Pv

namespace Pv
open PySem L2 PyProof.Rows

/-! ### readings -/
section
variable (K : PySem.W.Frag) (xa : Nat → Addr) (W : WX)
def Post (e : Ent) (σ : L2.St) (F : Hp) {α : Type} (r : R α) (Q : α → Env → Hp → Hp → Prop) : Prop := match r with
  | .ok a ρ' => ∀ F' H', Ex F F' → Rel K e F' H' ρ' σ → Q a ρ' F' H'
  | .exc c none ρ' => ∀ F' H', Ex F F' → Rel K e F' H' ρ' σ → W (.ref (xa c)) none σ H'
  | .exc _ (some _) _ => False
  | .bad => False
def tV (ev : Env → R Val) : TE := fun σ H Q => ∃ e F ρ, Rel K e F H ρ σ ∧ Post K xa W e σ F (ev ρ) fun x ρ' F' H' => ∀ v, VR K e F' H' ρ' σ v x → Q v H'
def tD (ev : Env → R D) : TE := fun σ H Q => ∃ e F ρ, Rel K e F H ρ σ ∧ Post K xa W e σ F (ev ρ) fun d ρ' F' H' => ∀ v, Rep K F' v d → Q v H'
def tP (ev : Env → R D) : TE := fun σ H Q => ∃ e F ρ, Rel K e F H ρ σ ∧ Post K xa W e σ F (ev ρ) fun d ρ' F' H' => ∀ v, PkR K F' H' v d → Q v H'
def tBo (ev : Env → R Bool) : TT := fun σ H Q => ∃ e F ρ, Rel K e F H ρ σ ∧ Post K xa W e σ F (ev ρ) fun b ρ' F' H' => Q b H'
def tL (ev : Env → R (List D)) : TA := fun σ H Q => ∃ e F ρ, Rel K e F H ρ σ ∧ Post K xa W e σ F (ev ρ) fun ds ρ' F' H' => ∀ vs, Reps K F' vs ds → Q vs H'
end
section
variable {K : PySem.W.Frag} {xa : Nat → Addr} {W : WX} {e : Ent} {σ : L2.St} {F F1 H : Hp} {α β : Type} {r : R α} {Q Q' : α → Env → Hp → Hp → Prop}
theorem Post.imp (h : Post K xa W e σ F r Q) (k : ∀ a ρ F' H', Ex F F' → Rel K e F' H' ρ σ → Q a ρ F' H' → Q' a ρ F' H') : Post K xa W e σ F r Q' := by
  cases r with
  | ok a ρ => exact fun F' H' ex rel => k a ρ F' H' ex rel (h F' H' ex rel)
  | exc c x ρ =>
    cases x with
    | none => exact h
    | some d => exact h
  | bad => exact h
theorem Post.weak (ex : Ex F F1) (h : Post K xa W e σ F r Q) : Post K xa W e σ F1 r Q := by
  cases r with
  | ok a ρ => exact fun F' H' ex' rel => h F' H' (ex.trans ex') rel
  | exc c x ρ =>
    cases x with
    | none => exact fun F' H' ex' rel => h F' H' (ex.trans ex') rel
    | some d => exact h
  | bad => exact h
theorem Post.bind {f : α → Env → R β} {Q : β → Env → Hp → Hp → Prop} (h : Post K xa W e σ F (r.bind f) Q) : Post K xa W e σ F r fun a ρ1 F1 H1 => Post K xa W e σ F1 (f a ρ1) Q := by
  cases r with
  | ok a ρ => exact fun F' H' ex rel => Post.weak (r := f a ρ) ex h
  | exc c x ρ =>
    cases x with
    | none => exact h
    | some d => exact h
  | bad => exact h
theorem Post.ofO {o : Option α} {ρ : Env} (h : Post K xa W e σ F (R.ofO o ρ) Q) : ∃ a, o = some a ∧ ∀ F' H', Ex F F' → Rel K e F' H' ρ σ → Q a ρ F' H' := by
  cases o with
  | none => exact h.elim
  | some a => exact ⟨a, rfl, h⟩
end
theorem bindD_dd {β : Type} (r : R Val) (f : D → Env → R β) : bindD r f = (dd r).bind f := by
  cases r <;> rfl
theorem dd_eq (r : R Val) : (bindD r fun x ρ => R.ok x ρ) = dd r := rfl
section
variable {X : Cx} {a : Expr} {t t' : TE}
theorem pe_weak (h : PE X a t) (k : ∀ σ H Q, t' σ H Q → t σ H Q) : PE X a t' := ⟨fun pins s σ H Q I hq => h.run pins s σ H Q I (k σ H Q hq)⟩
theorem pt_weak {t t' : TT} (h : PT X a t) (k : ∀ σ H Q, t' σ H Q → t σ H Q) : PT X a t' := ⟨fun pins s σ H Q I hq => h.run pins s σ H Q I (k σ H Q hq)⟩
theorem pw_weak {t t' : TT} (h : PW X a t) (k : ∀ σ H Q, t' σ H Q → t σ H Q) : PW X a t' := ⟨fun w pins s σ H Q I hq => h.run w pins s σ H Q I (k σ H Q hq)⟩
theorem pa_weak {as : List Expr} {t t' : TA} (h : PA X as t) (k : ∀ σ H Q, t' σ H Q → t σ H Q) : PA X as t' := ⟨fun pos pins s σ H Q I hq => h.run pos pins s σ H Q I (k σ H Q hq)⟩
theorem pi_weak {tg : Expr} {t t' : TI} (h : PI X tg a t) (k : ∀ σ H Q, t' σ H Q → t σ H Q) : PI X tg a t' := ⟨fun pins s σ H Q I hq => h.run pins s σ H Q I (k σ H Q hq)⟩
theorem ps_weak {st : Stmt} {t t' : TS} (h : PS X st t) (k : ∀ D σ H, t' D σ H → t D σ H) : PS X st t' := ⟨fun pins s σ H D I hq => h.run pins s σ H D I (k D σ H hq)⟩
theorem pss_weak {st : List Stmt} {t t' : TS} (h : PSs X st t) (k : ∀ D σ H, t' D σ H → t D σ H) : PSs X st t' := ⟨fun pins s σ H D I hq => h.run pins s σ H D I (k D σ H hq)⟩
theorem pi_or {tg : Expr} {t t' : TI} (h : PI X tg a t) (h' : PI X tg a t') : PI X tg a (fun σ H R => t σ H R ∨ t' σ H R) := ⟨fun pins s σ H Q I hq => hq.elim (h.run pins s σ H Q I) (h'.run pins s σ H Q I)⟩
variable {xa : Nat → Addr} {W : WX} {ev : Env → R Val}
theorem pe_toD (h : PE X a (tV X.K xa W ev)) : PE X a (tD X.K xa W fun ρ => dd (ev ρ)) := by
  refine pe_weak h fun σ H Q ⟨e, F, ρ, rel, post⟩ => ⟨e, F, ρ, rel, ?_⟩
  refine (Post.bind post).imp fun x ρ1 F1 H1 ex1 rel1 q v hv => ?_
  obtain ⟨F2, ex2, rep, rel2⟩ := hv.freeze rel1
  exact q F2 H1 ex2 rel2 v rep
theorem pe_toP (h : PE X a (tV X.K xa W ev)) : PE X a (tP X.K xa W fun ρ => dd (ev ρ)) := by
  refine pe_weak (pe_toD h) fun σ H Q ⟨e, F, ρ, rel, post⟩ => ⟨e, F, ρ, rel, ?_⟩
  exact post.imp fun d ρ1 F1 H1 ex1 rel1 q v hv => q v (.inl hv)
/-- an operand that is looked at alone: a name as it stands -/
theorem pe_look {i : Nat} (h : PE X a (tVar i)) : PE X a (tP X.K xa W fun ρ => lookV ρ i) := by
  refine pe_weak h fun σ H Q ⟨e, F, ρ, rel, post⟩ => ?_
  have post : Post X.K xa W e σ F (lookV ρ i) _ := post
  unfold lookV at post
  split at post
  · exact post.elim
  · rename_i s hn hs
    obtain ⟨v, hv, rep⟩ := rel.look hs (fun xs z => hn xs (by rw [z]))
    exact ⟨v, hv, post F H (Ex.refl F) rel v rep⟩
  · exact post.elim
theorem pe_read {i : Nat} (h : PE X a (tVar i)) : PE X a (tV X.K xa W fun ρ => readV ρ i) := by
  refine pe_weak h fun σ H Q ⟨e, F, ρ, rel, post⟩ => ?_
  have post : Post X.K xa W e σ F (readV ρ i) _ := post
  unfold readV at post
  split at post
  · exact post.elim
  · rename_i s hn hs
    obtain ⟨F', v, ex, hv, rep, rel'⟩ := rel.freeze hs (fun xs z => hn xs (by rw [z]))
    exact ⟨v, hv, post F' H ex rel' v rep⟩
  · exact post.elim
/-- a value that is known as it stands -/
theorem pe_const {v : V} {d : D} (h : PE X a (tC v)) (r : ∀ F, Rep X.K F v d) : PE X a (tV X.K xa W fun ρ => .ok (.pv d) ρ) :=
  pe_weak h fun σ H Q ⟨e, F, ρ, rel, post⟩ => post F H (Ex.refl F) rel v (r F)
end

theorem frNew {e : Ent} {F H : Hp} {ρ : Env} {σ : L2.St} {p : Addr} {us : List V} {ds : List D} {K : PySem.W.Frag} (rel : Rel K e F H ρ σ) (hp : H p = none) (h : Reps K F us ds) : VR K e F (upd H p (.lst us)) ρ σ (.ref p) (.fr ds) :=
  ⟨p, us, rfl, rel.noneF hp, upd_same, h, (rel.none0 hp).resolve_right (rel.fresh hp).1, (rel.fresh hp).1, (rel.fresh hp).2, rel.apart hp⟩
/-! ### operators: what the layer's rule asks is there where the data's operator answers -/
/-- the answer is plain data again -/
def OpS (X : Cx) (f : Value → Value → Sem Value) (g : D → D → Option D) : Prop := ∃ r : R2, OpR X f r ∧ ∀ (e : Ent) (F H : Hp) (ρ : Env) (σ : L2.St) (dx dy z : D) (x y : V) (Q : VK), g dx dy = some z → Rel X.K e F H ρ σ → Rep X.K F x dx → Rep X.K F y dy →
  (∀ F' H' v, Ex F F' → Rel X.K e F' H' ρ σ → VR X.K e F' H' ρ σ v (frV z) → Q v H') → r x y H Q
/-- .. of things looked at: the answer hangs on nothing in the heap -/
def OpP (X : Cx) (f : Value → Value → Sem Value) (g : D → D → Option Bool) : Prop := ∃ r : R2, OpR X f r ∧ ∀ (H : Hp) (dx dy : D) (b : Bool) (x y : V) (Q : VK), g dx dy = some b → Rep X.K H x dx → Rep X.K H y dy → Q (.bl b) H → r x y H Q
section
variable {X : Cx} {a b : Expr} {xa : Nat → Addr} {W : WX} {pos : Pos}
theorem pe_binS {op : Operator} {g : D → D → Option D} {ea eb : Env → R Val} (o : OpS X (binaryOp op) g) (ha : PE X a (tV X.K xa W ea)) (hb : PE X b (tV X.K xa W eb)) :
    PE X (.BinOp a op b pos) (tV X.K xa W fun ρ => bindD (ea ρ) fun x ρ => bindD (eb ρ) fun y ρ => R.ofO ((g x y).map frV) ρ) := by
  obtain ⟨r, ho, k⟩ := o
  refine pe_weak (pe_op ho (pe_toD ha) (pe_toD hb)) fun σ H Q ⟨e, F, ρ, rel, post⟩ => ?_
  simp only [bindD_dd] at post
  refine ⟨e, F, ρ, rel, (Post.bind post).imp fun dx ρ1 F1 H1 ex1 rel1 q x hx => ⟨e, F1, ρ1, rel1, (Post.bind q).imp fun dy ρ2 F2 H2 ex2 rel2 q2 y hy => ?_⟩⟩
  obtain ⟨z, hz, q3⟩ := q2.ofO
  obtain ⟨w, hw, rfl⟩ := Option.map_eq_some_iff.mp hz
  exact k e F2 H2 ρ2 σ dx dy w x y Q hw rel2 (hx.mono ex2) hy fun F' H' v ex rel' rep => q3 F' H' ex rel' v rep
theorem pe_cmpP {op : CmpOp} {g : D → D → Option Bool} {ea : Env → R Val} {eb : Env → R D} (o : OpP X (compareOp op) g) (ha : PE X a (tV X.K xa W ea)) (hb : PE X b (tP X.K xa W eb)) (hm : behindInMarks op b = false) :
    PE X (.Compare a [op] [b] pos) (tV X.K xa W fun ρ => bindD (ea ρ) fun x ρ => (eb ρ).bind fun y ρ => R.ofO ((g x y).map fun b => .pv (.bool b)) ρ) := by
  obtain ⟨r, ho, k⟩ := o
  refine pe_weak (pe_cmpR ho (pe_toD ha) hb hm) fun σ H Q ⟨e, F, ρ, rel, post⟩ => ?_
  simp only [bindD_dd] at post
  refine ⟨e, F, ρ, rel, (Post.bind post).imp fun dx ρ1 F1 H1 ex1 rel1 q x hx => ⟨e, F1, ρ1, rel1, (Post.bind q).imp fun dy ρ2 F2 H2 ex2 rel2 q2 y hy => ?_⟩⟩
  obtain ⟨z, hz, q3⟩ := q2.ofO
  obtain ⟨w, hw, rfl⟩ := Option.map_eq_some_iff.mp hz
  exact k H2 dx dy w x y Q hw ((hx.mono ex2).mono rel2.sub) (hy.rep rel2.sub) (q3 F2 H2 (Ex.refl _) rel2 _ (.bl w))
theorem pe_chainP {c : Expr} {op op' : CmpOp} {g g' : D → D → Option Bool} {ea eb ec : Env → R Val} (o : OpP X (compareOp op) g) (o' : OpP X (compareOp op') g') (ha : PE X a (tV X.K xa W ea)) (hb : PE X b (tV X.K xa W eb)) (hc : PE X c (tV X.K xa W ec))
    (hm : lastMarks [op, op'] [b, c] = false) :
    PE X (.Compare a [op, op'] [b, c] pos) (tV X.K xa W fun ρ => bindD (ea ρ) fun x ρ => bindD (eb ρ) fun y ρ => chainD (g x y) (bindD (ec ρ) fun z ρ => R.ofO ((g' y z).map fun b => .pv (.bool b)) ρ) ρ) := by
  obtain ⟨r, ho, k⟩ := o
  obtain ⟨r', ho', k'⟩ := o'
  refine pe_weak (pe_chain ho ho' (pe_toD ha) (pe_toD hb) (pe_toD hc) hm) fun σ H Q ⟨e, F, ρ, rel, post⟩ => ?_
  simp only [bindD_dd] at post
  refine ⟨e, F, ρ, rel, (Post.bind post).imp fun dx ρ1 F1 H1 ex1 rel1 q x hx => ⟨e, F1, ρ1, rel1, (Post.bind q).imp fun dy ρ2 F2 H2 ex2 rel2 q2 y hy => ?_⟩⟩
  cases hg : g dx dy with
  | none => rw [hg] at q2; exact q2.elim
  | some w =>
    refine k H2 dx dy w x y _ hg ((hx.mono ex2).mono rel2.sub) (hy.mono rel2.sub) ⟨w, rfl, ?_⟩
    rw [hg] at q2
    cases w with
    | false => exact q2 F2 H2 (Ex.refl _) rel2 _ (.bl false)
    | true =>
      refine ⟨e, F2, ρ2, rel2, (Post.bind q2).imp fun dz ρ3 F3 H3 ex3 rel3 q3 z hz => ?_⟩
      obtain ⟨u, hu, q4⟩ := q3.ofO
      obtain ⟨w', hw', rfl⟩ := Option.map_eq_some_iff.mp hu
      exact k' H3 dy dz w' y z Q hw' ((hy.mono ex3).mono rel3.sub) (hz.mono rel3.sub) (q4 F3 H3 (Ex.refl _) rel3 _ (.bl w'))
end
section
variable {X : Cx}
theorem OpS.or {f : Value → Value → Sem Value} {g g' k : D → D → Option D} (h : OpS X f g) (h' : OpS X f g') (hk : ∀ x y z, k x y = some z → g x y = some z ∨ g' x y = some z) : OpS X f k := by
  obtain ⟨r, ho, q⟩ := h
  obtain ⟨r', ho', q'⟩ := h'
  refine ⟨_, ho.or ho', fun e F H ρ σ dx dy z x y Q hz rel rx ry c => ?_⟩
  rcases hk dx dy z hz with hz | hz
  · exact .inl (q e F H ρ σ dx dy z x y Q hz rel rx ry c)
  · exact .inr (q' e F H ρ σ dx dy z x y Q hz rel rx ry c)
theorem OpP.or {f : Value → Value → Sem Value} {g g' k : D → D → Option Bool} (h : OpP X f g) (h' : OpP X f g') (hk : ∀ x y z, k x y = some z → g x y = some z ∨ g' x y = some z) : OpP X f k := by
  obtain ⟨r, ho, q⟩ := h
  obtain ⟨r', ho', q'⟩ := h'
  refine ⟨_, ho.or ho', fun H dx dy z x y Q hz rx ry c => ?_⟩
  rcases hk dx dy z hz with hz | hz
  · exact .inl (q H dx dy z x y Q hz rx ry c)
  · exact .inr (q' H dx dy z x y Q hz rx ry c)
/-- an operator on two ints, where C holds of them -/
def gI (C : Int → Int → Prop) [∀ i j, Decidable (C i j)] (f : Int → Int → Int) : D → D → Option D
  | .int i, .int j => if C i j then some (.int (f i j)) else none
  | _, _ => none
theorem ops_int {f : Value → Value → Sem Value} {C : Int → Int → Prop} [∀ i j, Decidable (C i j)] {C' : Int → Int → Prop} {g : Int → Int → Int} (ho : OpR X f (rI C' fun i j => .int (g i j))) (hc : ∀ i j, C i j → C' i j) : OpS X f (gI C g) := by
  refine ⟨_, ho, fun e F H ρ σ dx dy z x y Q hz rel rx ry c => ?_⟩
  unfold gI at hz
  split at hz
  · rename_i i j
    split at hz
    · rename_i hh
      cases hz
      exact ⟨i, j, rx.int_inv, ry.int_inv, hc i j hh, c F H _ (Ex.refl F) rel (.int _)⟩
    · cases hz
  · cases hz
theorem ops_int0 {f : Value → Value → Sem Value} {g : Int → Int → Int} (ho : OpR X f (rI0 fun i j => .int (g i j))) : OpS X f (gI (fun _ _ => True) g) := by
  refine ⟨_, ho, fun e F H ρ σ dx dy z x y Q hz rel rx ry c => ?_⟩
  unfold gI at hz
  split at hz
  · rename_i i j
    cases hz
    exact ⟨i, j, rx.int_inv, ry.int_inv, c F H _ (Ex.refl F) rel (.int _)⟩
  · cases hz
theorem log2_big {n : Nat} {k : Nat} (h0 : 0 < k) (h : n < 2 ^ k) : n.log2 < k := PySem.Flt.log2_lt_of h0 h
theorem lim_size {n : Nat} (h : n ≤ LIM) : n ≤ sizeLine := Nat.le_trans h (by decide)
theorem lim_lt {n : Nat} (h : n < LIM) : n < sizeLine := Nat.lt_of_lt_of_le h (by decide)
theorem bigMul {i j : Int} (hi : i.natAbs < BIG) (hj : j.natAbs < BIG) : CMulX i j := by
  rw [BIG_eq] at hi hj
  exact mulx_ok hi hj (by decide)
theorem op_mulS : OpS X (binaryOp .Mult) (gI (fun i j => i.natAbs < BIG ∧ j.natAbs < BIG) (· * ·)) := ops_int op_mulX fun i j h => bigMul h.1 h.2
theorem op_divS : OpS X (binaryOp .FloorDiv) (gI (fun _ j => 0 < j ∧ j.natAbs < DIVB) (· / ·)) := ops_int op_fdivW fun i j h => ⟨h.1, log2_big (by decide) (by rw [← DIVB_eq]; exact h.2)⟩
theorem op_divN : OpS X (binaryOp .FloorDiv) (gI (fun _ j => j < 0 ∧ j.natAbs < 1073741824) Int.fdiv) := ops_int op_fdivN fun i j h => ⟨by omega, h.2⟩
theorem op_modS : OpS X (binaryOp .Mod) (gI (fun _ j => 0 < j) (· % ·)) := ops_int op_mod fun i j h => h
theorem op_modSN : OpS X (binaryOp .Mod) (gI (fun _ j => j < 0) Int.fmod) := ops_int op_modN fun i j h => by omega
theorem op_powS : OpS X (binaryOp .Pow) (gI (fun i j => 0 ≤ j ∧ j ≤ 1000000 ∧ i.natAbs < 2 ^ 64) fun i j => i ^ j.toNat) := ops_int op_pow fun i j h => h
theorem op_shlS : OpS X (binaryOp .LShift) (gI (fun i j => 0 ≤ j ∧ j ≤ 1000000 ∧ i.natAbs < 2 ^ 64) fun i j => i * 2 ^ j.toNat) := ops_int op_shl fun i j h => h
theorem op_shrS : OpS X (binaryOp .RShift) (gI (fun _ j => 0 ≤ j) fun i j => i / 2 ^ j.toNat) := ops_int op_shr fun i j h => h
/-- + of texts, lists, tuples -/
def gStr : D → D → Option D
  | .str a, .str b => if a.length + b.length ≤ LIM then some (.str (a ++ b)) else none
  | _, _ => none
theorem op_strS : OpS X (binaryOp .Add) gStr := by
  refine ⟨_, op_add_str, fun e F H ρ σ dx dy z x y Q hz rel rx ry c => ?_⟩
  unfold gStr at hz
  split at hz
  · split at hz
    · rename_i hh
      cases hz
      exact ⟨_, _, rx.str_inv, ry.str_inv, lim_size hh, c F H _ (Ex.refl F) rel (.str _)⟩
    · cases hz
  · cases hz
def gTup : D → D → Option D
  | .tuple xs, .tuple ys => if xs.length + ys.length ≤ LIM then some (.tuple (xs ++ ys)) else none
  | _, _ => none
theorem op_tupS : OpS X (binaryOp .Add) gTup := by
  refine ⟨_, op_catA, fun e F H ρ σ dx dy z x y Q hz rel rx ry c => ?_⟩
  unfold gTup at hz
  split at hz
  · rename_i xs ys
    split at hz
    · rename_i hh
      cases hz
      obtain ⟨a, us, rfl, ha, hs⟩ := rx.tup_inv
      obtain ⟨b, ws, rfl, hb, ht⟩ := ry.tup_inv
      refine ⟨a, b, us, ws, rfl, rfl, rel.sub.sqT ha, rel.sub.sqT hb, by rw [hs.length, ht.length]; exact lim_size hh, fun e1 => ?_, fun e1 e2 => ?_, fun e1 e2 p hp => ?_⟩
      · subst e1
        cases hs
        exact c F H _ (Ex.refl F) rel (show Rep X.K F (.ref b) (.tuple ([] ++ ys)) from ry)
      · subst e2
        cases ht
        exact c F H _ (Ex.refl F) rel (show Rep X.K F (.ref a) (.tuple (xs ++ [])) by rw [List.append_nil]; exact rx)
      · have hF := rel.noneF hp
        exact c _ _ _ (Ex.new hF) (rel.new hp) (.tup (.inl (.inl upd_same)) (Reps.mono (Ex.new hF) (hs.append ht)))
    · cases hz
  · cases hz
/-- a list that is known as it stands -/
theorem rd_list {X : Cx} {pins : List (Addr × Obj)} {σ : L2.St} {H : Hp} {s : Shared} {a : Addr} {xs : List V} (I : Inv X pins σ H s) (h : Rd H a (.lst xs)) : xs.length ≤ sizeLine ∧ ∃ (its : List Value) (n : Nat), Vals xs its ∧ s.heap.get? a = some { cls := .type "list", data := .seq its.toArray n } := h.ok I.hok
def rCatL : R2 := fun x y H Q => ∃ l b xs zs, x = .ref l ∧ y = .ref b ∧ Rd H l (.lst xs) ∧ Rd H b (.lst zs) ∧ xs.length + zs.length ≤ sizeLine ∧ ∀ p, H p = none → Q (.ref p) (upd H p (.lst (xs ++ zs)))
theorem op_catL : OpR X (binaryOp .Add) rCatL := by
  intro pins s σ H x y v u Q I rx ry h
  obtain ⟨l, b, xs, zs, rfl, rfl, hH, hB, hz, q⟩ := h
  cases rx
  cases ry
  obtain ⟨z, its, n, r, e⟩ := rd_list I hH
  obtain ⟨z2, its2, n2, r2, e2⟩ := rd_list I hB
  have hl := r.length
  have hl2 := r2.length
  refine PySem.P.add_list e e2 ?_ (by rw [List.size_toArray, List.size_toArray]; omega)
  have ea : its.toArray ++ its2.toArray = (its ++ its2).toArray := by simp
  rw [ea]
  exact ⟨.ref _, _, I.lnew (t' := s.toks) (r.append r2) (by rw [List.length_append]; omega), rfl, q _ I.fresh⟩
def gLst : D → D → Option D
  | .list xs, .list ys => if xs.length + ys.length ≤ LIM then some (.list (xs ++ ys)) else none
  | _, _ => none
theorem op_lstS : OpS X (binaryOp .Add) gLst := by
  refine ⟨_, op_catL, fun e F H ρ σ dx dy z x y Q hz rel rx ry c => ?_⟩
  unfold gLst at hz
  split at hz
  · rename_i xs ys
    split at hz
    · rename_i hh
      cases hz
      obtain ⟨a, us, rfl, ha, hs⟩ := rx.list_inv
      obtain ⟨b, ws, rfl, hb, ht⟩ := ry.list_inv
      refine ⟨a, b, us, ws, rfl, rfl, rel.sub.rd ha, rel.sub.rd hb, by rw [hs.length, ht.length]; exact lim_size hh, fun p hp => ?_⟩
      have hF := rel.noneF hp
      exact c _ _ _ (Ex.refl F) (rel.laid hp) (frNew rel hp (hs.append ht))
    · cases hz
  · cases hz
def opOf : BOp → Operator
  | .add => .Add
  | .sub => .Sub
  | .mul => .Mult
  | .fdiv => .FloorDiv
  | .mod => .Mod
  | .pow => .Pow
  | .shl => .LShift
  | .shr => .RShift
  | .band => .BitAnd
  | .bor => .BitOr
  | .bxor => .BitXor
theorem OpS.of {f : Value → Value → Sem Value} {g k : D → D → Option D} (h : OpS X f g) (hk : ∀ x y z, k x y = some z → g x y = some z) : OpS X f k := h.or h fun x y z q => .inl (hk x y z q)
theorem bin_ok (o : BOp) : OpS X (binaryOp (opOf o)) (binD o) := by
  cases o with
  | add =>
    refine (OpS.or (OpS.or (ops_int0 op_add) op_strS (k := fun x y => (gI (fun _ _ => True) (· + ·) x y).orElse fun _ => gStr x y) ?_) (OpS.or op_tupS op_lstS (k := fun x y => (gTup x y).orElse fun _ => gLst x y) ?_)) ?_
    · intro x y z h
      cases hx : gI (fun _ _ => True) (· + ·) x y with
      | some w => simp only [hx, Option.orElse] at h; exact .inl h
      | none => simp only [hx, Option.orElse] at h; exact .inr h
    · intro x y z h
      cases hx : gTup x y with
      | some w => simp only [hx, Option.orElse] at h; exact .inl h
      | none => simp only [hx, Option.orElse] at h; exact .inr h
    · intro x y z h
      cases x <;> cases y <;> first | (cases h; done) | (left; exact h) | (right; exact h) | (right; simp only [binD] at h; simp only [gTup]; split at h <;> simp_all [Option.orElse])
  | sub => exact (ops_int0 op_sub).of fun x y z h => by cases x <;> cases y <;> first | exact h | cases h
  | mul => exact op_mulS.of fun x y z h => by cases x <;> cases y <;> first | exact h | cases h
  | fdiv =>
    refine op_divS.or op_divN fun x y z h => ?_
    cases x <;> cases y <;> first | (cases h; done) | skip
    rename_i i j
    simp only [binD] at h
    by_cases h1 : 0 < j ∧ j.natAbs < DIVB
    · rw [if_pos h1] at h; left; simp only [gI]; rw [if_pos h1]; exact h
    · rw [if_neg h1] at h; right; simp only [gI]; exact h
  | mod =>
    refine op_modS.or op_modSN fun x y z h => ?_
    cases x <;> cases y <;> first | (cases h; done) | skip
    rename_i i j
    simp only [binD] at h
    by_cases h1 : 0 < j
    · rw [if_pos h1] at h; left; simp only [gI]; rw [if_pos h1]; exact h
    · rw [if_neg h1] at h; right; simp only [gI]; exact h
  | pow => exact op_powS.of fun x y z h => by cases x <;> cases y <;> first | exact h | cases h
  | shl => exact op_shlS.of fun x y z h => by cases x <;> cases y <;> first | exact h | cases h
  | shr => exact op_shrS.of fun x y z h => by cases x <;> cases y <;> first | exact h | cases h
  | band => exact (ops_int0 op_and).of fun x y z h => by cases x <;> cases y <;> first | exact h | cases h
  | bor => exact (ops_int0 op_or).of fun x y z h => by cases x <;> cases y <;> first | exact h | cases h
  | bxor => exact (ops_int0 op_xor).of fun x y z h => by cases x <;> cases y <;> first | exact h | cases h
end
end Pv

namespace Pv
open PySem L2 PyProof.Rows

/-! ### comparisons -/
def cmpOf : COp → CmpOp
  | .eq => .Eq
  | .ne => .NotEq
  | .lt => .Lt
  | .le => .LtE
  | .gt => .Gt
  | .ge => .GtE
  | .isin => .In
  | .notin => .NotIn
  | .is => .Is
  | .isnot => .IsNot
section
variable {X : Cx}
def gB (p : Int → Int → Bool) : D → D → Option Bool
  | .int i, .int j => some (p i j)
  | _, _ => none
theorem opp_int {f : Value → Value → Sem Value} {p : Int → Int → Bool} (ho : OpR X f (rI0 fun i j => .bl (p i j))) : OpP X f (gB p) := by
  refine ⟨_, ho, fun H dx dy b x y Q hz rx ry q => ?_⟩
  unfold gB at hz
  split at hz
  · cases hz
    exact ⟨_, _, rx.int_inv, ry.int_inv, q⟩
  · cases hz
theorem OpP.of {f : Value → Value → Sem Value} {g k : D → D → Option Bool} (h : OpP X f g) (hk : ∀ x y z, k x y = some z → g x y = some z) : OpP X f k := h.or h fun x y z q => .inl (hk x y z q)
def gLtT : D → D → Option Bool
  | .tuple xs, .tuple ys => lexD xs ys
  | _, _ => none
theorem opp_ltT (hu : X.A.units + 100 < cLine) : OpP X (compareOp .Lt) gLtT := by
  refine ⟨_, op_ltT (by omega), fun H dx dy b x y Q hz rx ry q => ?_⟩
  unfold gLtT at hz
  split at hz
  · rename_i xs ys
    unfold lexD at hz
    obtain ⟨ns, h1, h2⟩ := Option.bind_eq_some_iff.mp hz
    obtain ⟨ms, h3, h4⟩ := Option.map_eq_some_iff.mp h2
    obtain ⟨a, us, rfl, ha, hs⟩ := rx.tup_inv
    obtain ⟨c, ws, rfl, hb, ht⟩ := ry.tup_inv
    rw [hs.intsOf h1] at ha
    rw [ht.intsOf h3] at hb
    refine ⟨a, c, ns, ms, rfl, rfl, ha, hb, ?_⟩
    rw [h4]
    exact q
  · cases hz
def rInD (K : PySem.W.Frag) (neg : Bool) : R2 := fun x y H Q => ∃ (d : D) (xs : List D), Dp K H x d ∧ ((Dp K H y (.list xs) ∧ SeqAt.shaped (.list xs) = true) ∨ (Dp K H y (.tuple xs) ∧ SeqAt.shaped (.tuple xs) = true)) ∧ SeqAt.shaped d = true ∧ Q (.bl (if neg then !(xs.any fun y => PyData.eqv y d) else xs.any fun y => PyData.eqv y d)) H
theorem shaped_parts {d : D} (h : SeqAt.shaped d = true) : d.canLay0 = true ∧ d.depth ≤ 64 := ⟨(Bool.and_eq_true_iff.mp h).1, of_decide_eq_true (Bool.and_eq_true_iff.mp h).2⟩
theorem op_inD (hu : X.A.units + 100 < cLine) : OpR X (compareOp .In) (rInD X.K false) := by
  intro pins s σ H x y v u Q I rx ry h
  obtain ⟨d, xs, hd, hq, sd, q⟩ := h
  obtain ⟨as, r1⟩ := Dp.reads I d x v hd rx
  obtain ⟨cd, dd⟩ := shaped_parts sd
  have hm : ∀ n, X.A.units + 1 + min n d.depth < cLine := fun n => by have := Nat.min_le_right n d.depth; omega
  rcases hq with ⟨hq, sl⟩ | ⟨hq, sl⟩
  · obtain ⟨bs, r2⟩ := Dp.reads I _ y u hq ry
    exact PySem.SeqAt.in_list_reads r2 r1 (by have := (shaped_parts sl).1; rwa [PyData.canLay0] at this) cd (hm _) ⟨.bl _, H, I, rfl, q⟩
  · obtain ⟨bs, r2⟩ := Dp.reads I _ y u hq ry
    exact PySem.SeqAt.in_tuple_reads r2 r1 (by have := (shaped_parts sl).1; rwa [PyData.canLay0] at this) cd (hm _) ⟨.bl _, H, I, rfl, q⟩
theorem op_notInD (hu : X.A.units + 100 < cLine) : OpR X (compareOp .NotIn) (rInD X.K true) := by
  intro pins s σ H x y v u Q I rx ry h
  obtain ⟨d, xs, hd, hq, sd, q⟩ := h
  obtain ⟨as, r1⟩ := Dp.reads I d x v hd rx
  obtain ⟨cd, dd⟩ := shaped_parts sd
  have hm : ∀ n, X.A.units + 1 + min n d.depth < cLine := fun n => by have := Nat.min_le_right n d.depth; omega
  rcases hq with ⟨hq, sl⟩ | ⟨hq, sl⟩
  · obtain ⟨bs, r2⟩ := Dp.reads I _ y u hq ry
    exact PySem.SeqAt.notIn_list_reads r2 r1 (by have := (shaped_parts sl).1; rwa [PyData.canLay0] at this) cd (hm _) ⟨.bl _, H, I, rfl, q⟩
  · obtain ⟨bs, r2⟩ := Dp.reads I _ y u hq ry
    exact PySem.SeqAt.notIn_tuple_reads r2 r1 (by have := (shaped_parts sl).1; rwa [PyData.canLay0] at this) cd (hm _) ⟨.bl _, H, I, rfl, q⟩
theorem isN_ok {K : PySem.W.Frag} {F : Hp} {x : V} {d : D} (h : Rep K F x d) : decide (x = .non) = isNo d := by
  cases h <;> rfl
theorem cmp_ok (hu : X.A.units + 100 < cLine) (o : COp) : OpP X (compareOp (cmpOf o)) (cmpD o) := by
  cases o with
  | eq =>
    refine ⟨_, op_eqD (by omega), fun H dx dy b x y Q hz rx ry q => ?_⟩
    simp only [cmpD] at hz
    split at hz
    · rename_i h
      cases hz
      exact ⟨dx, dy, rx.dp, ry.dp, h.1, h.2, q⟩
    · cases hz
  | ne =>
    refine ⟨_, op_neD (by omega), fun H dx dy b x y Q hz rx ry q => ?_⟩
    simp only [cmpD] at hz
    split at hz
    · rename_i h
      cases hz
      exact ⟨dx, dy, rx.dp, ry.dp, h.1, h.2, q⟩
    · cases hz
  | lt =>
    refine (opp_int op_lt).or (opp_ltT hu) fun x y z h => ?_
    cases x <;> cases y <;> first | (cases h; done) | (left; exact h) | (right; exact h)
  | le => exact (opp_int op_le).of fun x y z h => by cases x <;> cases y <;> first | exact h | cases h
  | gt => exact (opp_int op_gt).of fun x y z h => by cases x <;> cases y <;> first | exact h | cases h
  | ge => exact (opp_int op_ge).of fun x y z h => by cases x <;> cases y <;> first | exact h | cases h
  | isin =>
    refine ⟨_, op_inD hu, fun H dx dy b x y Q hz rx ry q => ?_⟩
    cases dy <;> first | (cases hz; done) | skip
    · simp only [cmpD] at hz
      split at hz
      · rename_i h
        cases hz
        exact ⟨dx, _, rx.dp, .inl ⟨ry.dp, h.2⟩, h.1, q⟩
      · cases hz
    · simp only [cmpD] at hz
      split at hz
      · rename_i h
        cases hz
        exact ⟨dx, _, rx.dp, .inr ⟨ry.dp, h.2⟩, h.1, q⟩
      · cases hz
  | notin =>
    refine ⟨_, op_notInD hu, fun H dx dy b x y Q hz rx ry q => ?_⟩
    cases dy <;> first | (cases hz; done) | skip
    · simp only [cmpD] at hz
      split at hz
      · rename_i h
        cases hz
        exact ⟨dx, _, rx.dp, .inl ⟨ry.dp, h.2⟩, h.1, q⟩
      · cases hz
    · simp only [cmpD] at hz
      split at hz
      · rename_i h
        cases hz
        exact ⟨dx, _, rx.dp, .inr ⟨ry.dp, h.2⟩, h.1, q⟩
      · cases hz
  | is =>
    refine ⟨_, op_isN, fun H dx dy b x y Q hz rx ry q => ?_⟩
    cases dy <;> first | (cases hz; done) | skip
    refine ⟨ry.none_inv, ?_⟩
    rw [isN_ok rx]
    cases hz
    exact q
  | isnot =>
    refine ⟨_, op_notN, fun H dx dy b x y Q hz rx ry q => ?_⟩
    cases dy <;> first | (cases hz; done) | skip
    refine ⟨ry.none_inv, ?_⟩
    rw [isN_ok rx]
    cases hz
    exact q
end

/-! ### tests -/
section
variable {X : Cx} {a b : Expr} {xa : Nat → Addr} {W : WX} {pos : Pos}
theorem truB_bool {b : Bool} : truB (.bool b) = some b := rfl
theorem pt_cmpP {op : CmpOp} {g : D → D → Option Bool} {ea : Env → R Val} {eb : Env → R D} (o : OpP X (compareOp op) g) (ha : PE X a (tV X.K xa W ea)) (hb : PE X b (tP X.K xa W eb)) (hm : behindInMarks op b = false) :
    PT X (.Compare a [op] [b] pos) (tBo X.K xa W fun ρ => (dd (bindD (ea ρ) fun x ρ => (eb ρ).bind fun y ρ => R.ofO ((g x y).map fun b => .pv (.bool b)) ρ)).bind fun x ρ => R.ofO (truB x) ρ) := by
  obtain ⟨r, ho, k⟩ := o
  refine pt_weak (pt_cmpR ho (pe_toD ha) hb hm) fun σ H Q ⟨e, F, ρ, rel, post⟩ => ?_
  have e1 : ∀ r : R D, (dd (r.bind fun x ρ => (eb ρ).bind fun y ρ => R.ofO ((g x y).map fun b => .pv (.bool b)) ρ)) = r.bind fun x ρ => (eb ρ).bind fun y ρ => R.ofO ((g x y).map fun b => (.bool b : D)) ρ := fun r => by
    cases r with
    | bad => rfl
    | exc c x ρ => rfl
    | ok x ρ =>
      show dd ((eb ρ).bind _) = (eb ρ).bind _
      cases eb ρ with
      | bad => rfl
      | exc c x ρ => rfl
      | ok y ρ1 =>
        show dd (R.ofO ((g x y).map fun b => .pv (.bool b)) ρ1) = R.ofO ((g x y).map fun b => (.bool b : D)) ρ1
        cases g x y <;> rfl
  dsimp only at post
  rw [bindD_dd, e1] at post
  refine ⟨e, F, ρ, rel, (Post.bind (Post.bind post)).imp fun dx ρ1 F1 H1 ex1 rel1 q x hx => ⟨e, F1, ρ1, rel1, (Post.bind q).imp fun dy ρ2 F2 H2 ex2 rel2 q2 y hy => ?_⟩⟩
  obtain ⟨z, hz, q3⟩ := q2.ofO
  obtain ⟨w, hw, rfl⟩ := Option.map_eq_some_iff.mp hz
  have q4 := q3 F2 H2 (Ex.refl _) rel2
  exact k H2 dx dy w x y _ hw ((hx.mono ex2).mono rel2.sub) (hy.rep rel2.sub) ⟨w, rfl, q4 F2 H2 (Ex.refl _) rel2⟩
end

/-! ### more tests, values -/
section
variable {X : Cx} {a b c : Expr} {xa : Nat → Addr} {W : WX} {pos : Pos}
theorem dd_bind {r : R D} {f : D → Env → R Val} : dd (r.bind f) = r.bind fun x ρ => dd (f x ρ) := by cases r <;> rfl
theorem dd_ofO {β : Type} {o : Option β} {f : β → D} {ρ : Env} : dd (R.ofO (o.map fun b => Val.pv (f b)) ρ) = R.ofO (o.map f) ρ := by cases o <;> rfl
theorem R.bind_bind {α β γ : Type} {r : R α} {f : α → Env → R β} {g : β → Env → R γ} : (r.bind f).bind g = r.bind fun x ρ => (f x ρ).bind g := by cases r <;> rfl
theorem pt_chainP {op op' : CmpOp} {g g' : D → D → Option Bool} {ea eb ec : Env → R Val} (o : OpP X (compareOp op) g) (o' : OpP X (compareOp op') g') (ha : PE X a (tV X.K xa W ea)) (hb : PE X b (tV X.K xa W eb)) (hc : PE X c (tV X.K xa W ec))
    (hm : lastMarks [op, op'] [b, c] = false) :
    PT X (.Compare a [op, op'] [b, c] pos) (tBo X.K xa W fun ρ => (dd (bindD (ea ρ) fun x ρ => bindD (eb ρ) fun y ρ => chainD (g x y) (bindD (ec ρ) fun z ρ => R.ofO ((g' y z).map fun b => .pv (.bool b)) ρ) ρ)).bind fun x ρ => R.ofO (truB x) ρ) := by
  obtain ⟨r, ho, k⟩ := o
  obtain ⟨r', ho', k'⟩ := o'
  refine pt_weak (pt_chain ho ho' (pe_toD ha) (pe_toD hb) (pe_toD hc) hm) fun σ H Q ⟨e, F, ρ, rel, post⟩ => ?_
  dsimp only at post
  simp only [bindD_dd, dd_bind, R.bind_bind] at post
  refine ⟨e, F, ρ, rel, (Post.bind post).imp fun dx ρ1 F1 H1 ex1 rel1 q x hx => ⟨e, F1, ρ1, rel1, (Post.bind q).imp fun dy ρ2 F2 H2 ex2 rel2 q2 y hy => ?_⟩⟩
  cases hg : g dx dy with
  | none => rw [hg] at q2; exact q2.elim
  | some w =>
    refine k H2 dx dy w x y _ hg ((hx.mono ex2).mono rel2.sub) (hy.mono rel2.sub) ⟨w, rfl, ?_⟩
    rw [hg] at q2
    cases w with
    | false => exact ⟨false, rfl, q2 F2 H2 (Ex.refl _) rel2⟩
    | true =>
      have q2 : Post X.K xa W e σ F2 ((dd ((dd (ec ρ2)).bind fun z ρ => R.ofO ((g' dy z).map fun b => .pv (.bool b)) ρ)).bind fun x ρ => R.ofO (truB x) ρ) _ := q2
      rw [dd_bind, R.bind_bind] at q2
      refine ⟨e, F2, ρ2, rel2, (Post.bind q2).imp fun dz ρ3 F3 H3 ex3 rel3 q3 z hz => ?_⟩
      rw [dd_ofO] at q3
      obtain ⟨u, hu, q4⟩ := (Post.bind q3).ofO
      obtain ⟨w', hw', rfl⟩ := Option.map_eq_some_iff.mp hu
      exact k' H3 dy dz w' y z _ hw' ((hy.mono ex3).mono rel3.sub) (hz.mono rel3.sub) ⟨w', rfl, q4 F3 H3 (Ex.refl _) rel3 F3 H3 (Ex.refl _) rel3⟩
theorem truV_ok {K : PySem.W.Frag} {H : Hp} {x : V} {d : D} {b : Bool} (h : Rep K H x d) (e : truB d = some b) : TruV K x H b := by
  cases h with
  | non => cases e; rfl
  | bl c => cases e; rfl
  | int i => cases e; rfl
  | str x => cases e
  | lst h1 h2 =>
    cases e
    refine .inl ⟨_, .inl h1, ?_⟩
    cases h2 <;> rfl
  | tup h1 h2 =>
    cases e
    refine .inr (.inl ⟨_, h1, ?_⟩)
    cases h2 <;> rfl
theorem pt_val' {ev : Env → R D} (h : PE X a (tP X.K xa W ev)) (he : ∀ whole, isTrue a X.env whole = (do let v ← whole; standAt a.pos; holding [v] (truthy v))) :
    PT X a (tBo X.K xa W fun ρ => (ev ρ).bind fun x ρ => R.ofO (truB x) ρ) := by
  refine pt_weak (pt_truth h he) fun σ H Q ⟨e, F, ρ, rel, post⟩ => ⟨e, F, ρ, rel, ?_⟩
  refine (Post.bind post).imp fun dx ρ1 F1 H1 ex1 rel1 q x hx => ?_
  obtain ⟨w, hw, q2⟩ := q.ofO
  exact ⟨w, truV_ok (hx.rep rel1.sub) hw, q2 F1 H1 (Ex.refl _) rel1⟩
theorem pw_and' {rest : List Expr} {ea eb : Env → R Bool} (ha : PT X a (tBo X.K xa W ea)) (hb : PW X (.BoolOp .And (b :: rest) pos) (tBo X.K xa W eb)) :
    PW X (.BoolOp .And (a :: b :: rest) pos) (tBo X.K xa W fun ρ => (ea ρ).bind fun x ρ => iteR x (eb ρ) (.ok false ρ)) := by
  refine pw_weak (pw_and ha hb) fun σ H Q ⟨e, F, ρ, rel, post⟩ => ⟨e, F, ρ, rel, (Post.bind post).imp fun x ρ1 F1 H1 ex1 rel1 q => ?_⟩
  cases x with
  | true => exact iteT ⟨e, F1, ρ1, rel1, q⟩
  | false => exact iteF (q F1 H1 (Ex.refl _) rel1)
theorem pw_or' {rest : List Expr} {ea eb : Env → R Bool} (ha : PT X a (tBo X.K xa W ea)) (hb : PW X (.BoolOp .Or (b :: rest) pos) (tBo X.K xa W eb)) :
    PW X (.BoolOp .Or (a :: b :: rest) pos) (tBo X.K xa W fun ρ => (ea ρ).bind fun x ρ => iteR x (.ok true ρ) (eb ρ)) := by
  refine pw_weak (pw_or ha hb) fun σ H Q ⟨e, F, ρ, rel, post⟩ => ⟨e, F, ρ, rel, (Post.bind post).imp fun x ρ1 F1 H1 ex1 rel1 q => ?_⟩
  cases x with
  | true => exact iteT (q F1 H1 (Ex.refl _) rel1)
  | false => exact iteF ⟨e, F1, ρ1, rel1, q⟩
theorem pt_not' {ea : Env → R Bool} (ha : PT X a (tBo X.K xa W ea)) : PT X (.UnaryOp .Not a pos) (tBo X.K xa W fun ρ => (ea ρ).bind fun x ρ => .ok (!x) ρ) := by
  refine pt_weak (pt_not ha) fun σ H Q ⟨e, F, ρ, rel, post⟩ => ⟨e, F, ρ, rel, (Post.bind post).imp fun x ρ1 F1 H1 ex1 rel1 q => q F1 H1 (Ex.refl _) rel1⟩
/-! .. as values -/
theorem pe_and' {rest : List Expr} {ea eb : Env → R Val} (ha : PE X a (tV X.K xa W ea)) (hb : PE X (.BoolOp .And (b :: rest) pos) (tV X.K xa W eb)) :
    PE X (.BoolOp .And (a :: b :: rest) pos) (tV X.K xa W fun ρ => bindD (ea ρ) fun x ρ => andD x (eb ρ) ρ) := by
  refine pe_weak (pe_and (pe_toD ha) hb) fun σ H Q ⟨e, F, ρ, rel, post⟩ => ?_
  simp only [bindD_dd] at post
  refine ⟨e, F, ρ, rel, (Post.bind post).imp fun x ρ1 F1 H1 ex1 rel1 q v hv => ?_⟩
  unfold andD at q
  split at q
  · exact ⟨true, hv.bool_inv, iteT ⟨e, F1, ρ1, rel1, q⟩⟩
  · exact ⟨false, hv.bool_inv, iteF (q F1 H1 (Ex.refl _) rel1 _ (.bl false))⟩
  · exact q.elim
theorem pe_or' {rest : List Expr} {ea eb : Env → R Val} (ha : PE X a (tV X.K xa W ea)) (hb : PE X (.BoolOp .Or (b :: rest) pos) (tV X.K xa W eb)) :
    PE X (.BoolOp .Or (a :: b :: rest) pos) (tV X.K xa W fun ρ => bindD (ea ρ) fun x ρ => orD x (eb ρ) ρ) := by
  refine pe_weak (pe_or (pe_toD ha) hb) fun σ H Q ⟨e, F, ρ, rel, post⟩ => ?_
  simp only [bindD_dd] at post
  refine ⟨e, F, ρ, rel, (Post.bind post).imp fun x ρ1 F1 H1 ex1 rel1 q v hv => ?_⟩
  unfold orD at q
  split at q
  · exact ⟨false, hv.bool_inv, iteF ⟨e, F1, ρ1, rel1, q⟩⟩
  · exact ⟨true, hv.bool_inv, iteT (q F1 H1 (Ex.refl _) rel1 _ (.bl true))⟩
  · exact q.elim
theorem pe_not' {ea : Env → R Val} (ha : PE X a (tV X.K xa W ea)) : PE X (.UnaryOp .Not a pos) (tV X.K xa W fun ρ => bindD (ea ρ) fun x ρ => R.ofO ((notD x).map .pv) ρ) := by
  refine pe_weak (pe_not (pe_toD ha)) fun σ H Q ⟨e, F, ρ, rel, post⟩ => ?_
  simp only [bindD_dd] at post
  refine ⟨e, F, ρ, rel, (Post.bind post).imp fun x ρ1 F1 H1 ex1 rel1 q v hv => ?_⟩
  cases x <;> first | exact q.elim | skip
  exact ⟨_, hv.bool_inv, q F1 H1 (Ex.refl _) rel1 _ (.bl _)⟩
theorem pe_neg' {ea : Env → R Val} (ha : PE X a (tV X.K xa W ea)) : PE X (.UnaryOp .USub a pos) (tV X.K xa W fun ρ => bindD (ea ρ) fun x ρ => R.ofO ((negD x).map .pv) ρ) := by
  refine pe_weak (pe_un un_neg (pe_toD ha)) fun σ H Q ⟨e, F, ρ, rel, post⟩ => ?_
  simp only [bindD_dd] at post
  refine ⟨e, F, ρ, rel, (Post.bind post).imp fun x ρ1 F1 H1 ex1 rel1 q v hv => ?_⟩
  cases x <;> first | exact q.elim | skip
  exact ⟨_, hv.int_inv, q F1 H1 (Ex.refl _) rel1 _ (.int _)⟩
theorem pe_ife' {ec : Env → R Bool} {ea eb : Env → R Val} (hc : PT X c (tBo X.K xa W ec)) (ha : PE X a (tV X.K xa W ea)) (hb : PE X b (tV X.K xa W eb)) :
    PE X (.IfExp c a b pos) (tV X.K xa W fun ρ => (ec ρ).bind fun t ρ => iteR t (ea ρ) (eb ρ)) := by
  refine pe_weak (pe_ifExp hc ha hb) fun σ H Q ⟨e, F, ρ, rel, post⟩ => ⟨e, F, ρ, rel, (Post.bind post).imp fun x ρ1 F1 H1 ex1 rel1 q => ?_⟩
  cases x with
  | true => exact iteT ⟨e, F1, ρ1, rel1, q⟩
  | false => exact iteF ⟨e, F1, ρ1, rel1, q⟩
/-! ### arguments, displays -/
theorem pa_nil' : PA X [] (tL X.K xa W fun ρ => .ok [] ρ) := pa_weak pa_nil fun σ H Q ⟨e, F, ρ, rel, post⟩ => post F H (Ex.refl F) rel [] .nil
theorem pa_cons' {es : List Expr} {ea : Env → R Val} {el : Env → R (List D)} (ha : PE X a (tV X.K xa W ea)) (hr : PA X es (tL X.K xa W el)) (hs : starEach (a :: es) X.env = (false, eval a X.env) :: starEach es X.env) :
    PA X (a :: es) (tL X.K xa W fun ρ => bindD (ea ρ) fun x ρ => (el ρ).bind fun xs ρ => .ok (x :: xs) ρ) := by
  refine pa_weak (pa_cons (pe_toD ha) hr hs) fun σ H Q ⟨e, F, ρ, rel, post⟩ => ?_
  simp only [bindD_dd] at post
  refine ⟨e, F, ρ, rel, (Post.bind post).imp fun x ρ1 F1 H1 ex1 rel1 q v hv => ⟨e, F1, ρ1, rel1, (Post.bind q).imp fun xs ρ2 F2 H2 ex2 rel2 q2 vs hvs => ?_⟩⟩
  exact q2 F2 H2 (Ex.refl _) rel2 _ (.cons (hv.mono ex2) hvs)
theorem pe_tup' {es : List Expr} {k : Nat} {el : Env → R (List D)} (h : PA X es (tL X.K xa W el)) : PE X (.Tuple es k pos) (tV X.K xa W fun ρ => (el ρ).bind fun ds ρ => tupV ds ρ) := by
  refine pe_weak (pe_tup h) fun σ H Q ⟨e, F, ρ, rel, post⟩ => ⟨e, F, ρ, rel, (Post.bind post).imp fun ds ρ1 F1 H1 ex1 rel1 q vs hvs => ?_⟩
  unfold tupV at q
  split at q
  · rename_i hl
    refine ⟨by rw [hvs.length]; exact lim_size hl, fun p hp => ?_⟩
    have hF := rel1.noneF hp
    exact q _ _ (Ex.new hF) (rel1.new hp) _ (.tup (.inl (.inl upd_same)) (Reps.mono (Ex.new hF) hvs))
  · exact q.elim
theorem pe_lst' {es : List Expr} {el : Env → R (List D)} (h : PA X es (tL X.K xa W el)) : PE X (.List es pos) (tV X.K xa W fun ρ => (el ρ).bind fun ds ρ => lstV ds ρ) := by
  refine pe_weak (pe_lst h) fun σ H Q ⟨e, F, ρ, rel, post⟩ => ⟨e, F, ρ, rel, (Post.bind post).imp fun ds ρ1 F1 H1 ex1 rel1 q vs hvs => ?_⟩
  unfold lstV at q
  split at q
  · rename_i hl
    refine ⟨by rw [hvs.length]; exact lim_size hl, fun p hp => ?_⟩
    exact q _ _ (Ex.refl F1) (rel1.laid hp) _ (frNew rel1 hp hvs)
  · exact q.elim
end
end Pv

namespace Pv
open PySem L2 PyProof.Rows

/-! ### built-ins on one thing -/
def CallK (X : Cx) (r : List V → Hp → VK → Prop) (g : D → Option D) (w : D → Val) : Prop := ∀ (e : Ent) (F H : Hp) (ρ : Env) (σ : L2.St) (dx z : D) (x : V) (Q : VK), g dx = some z → Rel X.K e F H ρ σ → PkR X.K F H x dx →
  (∀ F' H' v, Ex F F' → Rel X.K e F' H' ρ σ → VR X.K e F' H' ρ σ v (w z) → Q v H') → r [x] H Q
def CallK2 (X : Cx) (r : List V → Hp → VK → Prop) (g : D → D → Option D) : Prop := ∀ (F H : Hp) (dx dy z : D) (x y : V) (Q : VK), g dx dy = some z → Rep X.K F x dx → Rep X.K F y dy → (∀ v, Rep X.K F v z → Q v H) → r [x, y] H Q
section
variable {X : Cx} {a b : Expr} {xa : Nat → Addr} {W : WX} {p pos : Pos} {r : List V → Hp → VK → Prop} {g : D → Option D} {w : D → Val} {nm : Str} {id T : String} {ep : Env → R D}
theorem pe_one_of (k : CallK X r g w) (h : PE X a (tCB r (tCons (tP X.K xa W ep) tNil))) : PE X a (tV X.K xa W fun ρ => (ep ρ).bind fun x ρ => R.ofO ((g x).map w) ρ) := by
  refine pe_weak h fun σ H Q ⟨e, F, ρ, rel, post⟩ => ⟨e, F, ρ, rel, (Post.bind post).imp fun dx ρ1 F1 H1 ex1 rel1 q x hx => ?_⟩
  obtain ⟨z, hz, q2⟩ := q.ofO
  obtain ⟨z', hz', rfl⟩ := Option.map_eq_some_iff.mp hz
  exact k e F1 H1 ρ1 σ dx z' x Q hz' rel1 hx fun F' H' v ex rel' rep => q2 F' H' ex rel' v rep
theorem CallR.orK {f : Value} {r r' : List V → Hp → VK → Prop} {g g' k : D → Option D} (h : CallR X f r) (h' : CallR X f r') (c : CallK X r g w) (c' : CallK X r' g' w) (hk : ∀ x z, k x = some z → g x = some z ∨ g' x = some z) : CallR X f (fun xs H Q => r xs H Q ∨ r' xs H Q) ∧ CallK X (fun xs H Q => r xs H Q ∨ r' xs H Q) k w :=
  ⟨h.or h', fun e F H ρ σ dx z x Q hz rel hx q => (hk dx z hz).elim (fun hz => .inl (c e F H ρ σ dx z x Q hz rel hx q)) fun hz => .inr (c' e F H ρ σ dx z x Q hz rel hx q)⟩
/-- the built-in's rule -/
def BltR (X : Cx) (f : Value) (g : D → Option D) (w : D → Val) : Prop := ∃ r, CallR X f r ∧ CallK X r g w
theorem BltR.or {f : Value} {g g' k : D → Option D} (h : BltR X f g w) (h' : BltR X f g' w) (hk : ∀ x z, k x = some z → g x = some z ∨ g' x = some z) : BltR X f k w := by
  obtain ⟨r, h1, h2⟩ := h
  obtain ⟨r', h3, h4⟩ := h'
  exact ⟨_, CallR.orK h1 h3 h2 h4 hk⟩
theorem BltR.of {f : Value} {g k : D → Option D} (h : BltR X f g w) (hk : ∀ x z, k x = some z → g x = some z) : BltR X f k w := h.or h fun x z q => .inl (hk x z q)
end
section
variable {X : Cx}
theorem sq_pk {K : PySem.W.Frag} {F H : Hp} {x : V} {xs : List D} (e : Ex F H) (h : PkR K F H x (.list xs)) : ∃ a us, x = .ref a ∧ SqL K H a us ∧ Reps K F us xs := by
  obtain ⟨a, us, rfl, h1, h2⟩ := h.list e
  exact ⟨a, us, rfl, .inl h1, h2⟩
theorem tq_pk {K : PySem.W.Frag} {F H : Hp} {x : V} {xs : List D} (e : Ex F H) (h : PkR K F H x (.tuple xs)) : ∃ a us, x = .ref a ∧ SqT K H a us ∧ SqT K F a us ∧ Reps K F us xs := by
  obtain ⟨a, us, rfl, h1, h2⟩ := (h.plain fun ys z => nomatch z).tup_inv
  exact ⟨a, us, rfl, e.sqT h1, h1, h2⟩
def gLenS : D → Option D
  | .list xs => some (.int xs.length)
  | .tuple xs => some (.int xs.length)
  | _ => none
theorem blt_len1 : BltR X (.builtin "len") gLenS .pv := by
  refine ⟨_, call_len_seq, fun e F H ρ σ dx z x Q hz rel hx q => ?_⟩
  cases dx <;> first | (cases hz; done) | skip
  · cases hz
    obtain ⟨a, us, rfl, h1, h2⟩ := sq_pk rel.sub hx
    refine ⟨a, us, rfl, .inl h1, ?_⟩
    rw [h2.length]
    exact q F H _ (Ex.refl F) rel (.int _)
  · cases hz
    obtain ⟨a, us, rfl, h1, h2, h3⟩ := tq_pk rel.sub hx
    refine ⟨a, us, rfl, .inr h1, ?_⟩
    rw [h3.length]
    exact q F H _ (Ex.refl F) rel (.int _)
def gLenT : D → Option D
  | .str s => if s.length ≤ LIM then some (.int s.length) else none
  | _ => none
theorem blt_len2 : BltR X (.builtin "len") gLenT .pv := by
  refine ⟨_, call_len_str, fun e F H ρ σ dx z x Q hz rel hx q => ?_⟩
  cases dx <;> first | (cases hz; done) | skip
  simp only [gLenT] at hz
  split at hz
  · rename_i hl
    cases hz
    exact ⟨_, by rw [(hx.plain fun ys z => nomatch z).str_inv], lim_size hl, q F H _ (Ex.refl F) rel (.int _)⟩
  · cases hz
theorem blt_len : BltR X (.builtin "len") (fun x => bltD .len [x]) (bltV .len) := by
  have e1 : bltV .len = .pv := by funext d; cases d <;> rfl
  rw [e1]
  refine blt_len1.or blt_len2 fun x z h => ?_
  cases x <;> first | (cases h; done) | (left; exact h) | (right; exact h)
theorem blt_abs : BltR X (.builtin "abs") (fun x => bltD .abs [x]) (bltV .abs) := by
  refine ⟨_, call_abs, fun e F H ρ σ dx z x Q hz rel hx q => ?_⟩
  cases dx <;> first | (cases hz; done) | skip
  cases hz
  exact ⟨_, by rw [(hx.plain fun ys z => nomatch z).int_inv], q F H _ (Ex.refl F) rel (.int _)⟩
theorem blt_int : BltR X (.type "int") (fun x => bltD .int [x]) (bltV .int) := by
  refine ⟨_, call_int1, fun e F H ρ σ dx z x Q hz rel hx q => ?_⟩
  cases dx <;> first | (cases hz; done) | skip
  · cases hz
    exact .inr ⟨_, by rw [(hx.plain fun ys z => nomatch z).bool_inv], q F H _ (Ex.refl F) rel (.int _)⟩
  · cases hz
    exact .inl ⟨_, by rw [(hx.plain fun ys z => nomatch z).int_inv], q F H _ (Ex.refl F) rel (.int _)⟩
theorem blt_tuple : BltR X (.type "tuple") (fun x => bltD .tuple [x]) (bltV .tuple) := by
  refine ⟨_, call_tuple_of, fun e F H ρ σ dx z x Q hz rel hx q => ?_⟩
  cases dx <;> first | (cases hz; done) | skip
  · cases hz
    obtain ⟨a, us, rfl, h1, h2⟩ := sq_pk rel.sub hx
    refine ⟨a, us, rfl, .inl ⟨h1, fun p hp => ?_⟩⟩
    have hF := rel.noneF hp
    exact q _ _ _ (Ex.new hF) (rel.new hp) (.tup (.inl (.inl upd_same)) (Reps.mono (Ex.new hF) h2))
  · cases hz
    obtain ⟨a, us, rfl, h1, h2, h3⟩ := tq_pk rel.sub hx
    exact ⟨a, us, rfl, .inr ⟨h1, q F H _ (Ex.refl F) rel (.tup h2 h3)⟩⟩
theorem blt_list : BltR X (.type "list") (fun x => bltD .list [x]) (bltV .list) := by
  refine ⟨_, call_list_of, fun e F H ρ σ dx z x Q hz rel hx q => ?_⟩
  cases dx <;> first | (cases hz; done) | skip
  · cases hz
    obtain ⟨a, us, rfl, h1, h2⟩ := sq_pk rel.sub hx
    exact ⟨a, us, rfl, .inl h1, fun p hp => q _ _ _ (Ex.refl F) (rel.laid hp) (frNew rel hp h2)⟩
  · cases hz
    obtain ⟨a, us, rfl, h1, h2, h3⟩ := tq_pk rel.sub hx
    exact ⟨a, us, rfl, .inr h1, fun p hp => q _ _ _ (Ex.refl F) (rel.laid hp) (frNew rel hp h3)⟩
theorem blt_sum (hc : X.calm = true) : BltR X (.builtin "sum") (fun x => bltD .sum [x]) (bltV .sum) := by
  refine ⟨_, cr_sum hc, fun e F H ρ σ dx z x Q hz rel hx q => ?_⟩
  cases dx <;> first | (cases hz; done) | skip
  obtain ⟨ns, h, rfl⟩ := Option.map_eq_some_iff.mp hz
  obtain ⟨a, us, rfl, h1, h2⟩ := sq_pk rel.sub hx
  rw [h2.intsOf h] at h1
  exact ⟨a, ns, rfl, h1, q F H _ (Ex.refl F) rel (.int _)⟩
theorem leastI_spec : ∀ (r : List Int) (m : Int), (leastI r m = m ∨ leastI r m ∈ r) ∧ leastI r m ≤ m ∧ ∀ y ∈ r, leastI r m ≤ y
  | [], m => ⟨.inl rfl, Int.le_refl _, fun _ h => nomatch h⟩
  | x :: r, m => by
    unfold leastI
    by_cases h : x < m
    · rw [if_pos h]
      obtain ⟨a, b, c⟩ := leastI_spec r x
      refine ⟨.inr ?_, by omega, fun y hy => ?_⟩
      · rcases a with a | a
        · rw [a]; exact List.mem_cons_self
        · exact List.mem_cons_of_mem _ a
      · rcases List.mem_cons.mp hy with rfl | hy
        · exact b
        · exact c y hy
    · rw [if_neg h]
      obtain ⟨a, b, c⟩ := leastI_spec r m
      refine ⟨a.imp id (List.mem_cons_of_mem _), b, fun y hy => ?_⟩
      rcases List.mem_cons.mp hy with rfl | hy
      · omega
      · exact c y hy
theorem mostI_spec : ∀ (r : List Int) (m : Int), (mostI r m = m ∨ mostI r m ∈ r) ∧ m ≤ mostI r m ∧ ∀ y ∈ r, y ≤ mostI r m
  | [], m => ⟨.inl rfl, Int.le_refl _, fun _ h => nomatch h⟩
  | x :: r, m => by
    unfold mostI
    by_cases h : m < x
    · rw [if_pos h]
      obtain ⟨a, b, c⟩ := mostI_spec r x
      refine ⟨.inr ?_, by omega, fun y hy => ?_⟩
      · rcases a with a | a
        · rw [a]; exact List.mem_cons_self
        · exact List.mem_cons_of_mem _ a
      · rcases List.mem_cons.mp hy with rfl | hy
        · exact b
        · exact c y hy
    · rw [if_neg h]
      obtain ⟨a, b, c⟩ := mostI_spec r m
      refine ⟨a.imp id (List.mem_cons_of_mem _), b, fun y hy => ?_⟩
      rcases List.mem_cons.mp hy with rfl | hy
      · omega
      · exact c y hy
theorem blt_min (hc : X.calm = true) : BltR X (.builtin "min") (fun x => bltD .min [x]) (bltV .min) := by
  refine ⟨_, cr_min hc, fun e F H ρ σ dx z x Q hz rel hx q => ?_⟩
  cases dx <;> first | (cases hz; done) | skip
  obtain ⟨ns, h, hz⟩ := Option.bind_eq_some_iff.mp hz
  obtain ⟨m, hm, rfl⟩ := Option.map_eq_some_iff.mp hz
  obtain ⟨a, us, rfl, h1, h2⟩ := sq_pk rel.sub hx
  rw [h2.intsOf h] at h1
  cases ns with
  | nil => cases hm
  | cons y r =>
    cases hm
    obtain ⟨s1, s2, s3⟩ := leastI_spec r y
    refine ⟨a, _, rfl, h1, by simp, fun m hm hle => ?_⟩
    have e1 : m = leastI r y := by
      have h4 := hle y List.mem_cons_self
      rcases List.mem_cons.mp hm with rfl | hm
      · rcases s1 with s1 | s1
        · exact s1.symm
        · have := hle _ (List.mem_cons_of_mem _ s1); omega
      · have h5 := s3 m hm
        rcases s1 with s1 | s1
        · omega
        · have := hle _ (List.mem_cons_of_mem _ s1); omega
    rw [e1]
    exact q F H _ (Ex.refl F) rel (.int _)
theorem blt_max (hc : X.calm = true) : BltR X (.builtin "max") (fun x => bltD .max [x]) (bltV .max) := by
  refine ⟨_, cr_max hc, fun e F H ρ σ dx z x Q hz rel hx q => ?_⟩
  cases dx <;> first | (cases hz; done) | skip
  obtain ⟨ns, h, hz⟩ := Option.bind_eq_some_iff.mp hz
  obtain ⟨m, hm, rfl⟩ := Option.map_eq_some_iff.mp hz
  obtain ⟨a, us, rfl, h1, h2⟩ := sq_pk rel.sub hx
  rw [h2.intsOf h] at h1
  cases ns with
  | nil => cases hm
  | cons y r =>
    cases hm
    obtain ⟨s1, s2, s3⟩ := mostI_spec r y
    refine ⟨a, _, rfl, h1, by simp, fun m hm hle => ?_⟩
    have e1 : m = mostI r y := by
      have h4 := hle y List.mem_cons_self
      rcases List.mem_cons.mp hm with rfl | hm
      · rcases s1 with s1 | s1
        · exact s1.symm
        · have := hle _ (List.mem_cons_of_mem _ s1); omega
      · have h5 := s3 m hm
        rcases s1 with s1 | s1
        · omega
        · have := hle _ (List.mem_cons_of_mem _ s1); omega
    rw [e1]
    exact q F H _ (Ex.refl F) rel (.int _)
theorem blt_all (hc : X.calm = true) : BltR X (.builtin "all") (fun x => bltD .all [x]) (bltV .all) := by
  refine ⟨_, cr_all hc, fun e F H ρ σ dx z x Q hz rel hx q => ?_⟩
  cases dx <;> first | (cases hz; done) | skip
  obtain ⟨ns, h, rfl⟩ := Option.map_eq_some_iff.mp hz
  obtain ⟨a, us, rfl, h1, h2⟩ := sq_pk rel.sub hx
  rw [h2.boolsOf h] at h1
  exact ⟨a, ns, rfl, h1, q F H _ (Ex.refl F) rel (.bl _)⟩
theorem blt_any (hc : X.calm = true) : BltR X (.builtin "any") (fun x => bltD .any [x]) (bltV .any) := by
  refine ⟨_, cr_any hc, fun e F H ρ σ dx z x Q hz rel hx q => ?_⟩
  cases dx <;> first | (cases hz; done) | skip
  obtain ⟨ns, h, rfl⟩ := Option.map_eq_some_iff.mp hz
  obtain ⟨a, us, rfl, h1, h2⟩ := sq_pk rel.sub hx
  rw [h2.boolsOf h] at h1
  exact ⟨a, ns, rfl, h1, q F H _ (Ex.refl F) rel (.bl _)⟩
end
def bltName : Blt → Str
  | .len => "len"
  | .abs => "abs"
  | .int => "int"
  | .tuple => "tuple"
  | .list => "list"
  | .sum => "sum"
  | .min => "min"
  | .max => "max"
  | .all => "all"
  | .any => "any"
  | .sorted => "sorted"
def bltVal : Blt → Value
  | .len => .builtin "len"
  | .abs => .builtin "abs"
  | .int => .type "int"
  | .tuple => .type "tuple"
  | .list => .type "list"
  | .sum => .builtin "sum"
  | .min => .builtin "min"
  | .max => .builtin "max"
  | .all => .builtin "all"
  | .any => .builtin "any"
  | .sorted => .builtin "sorted"
theorem blt_rule {X : Cx} (hc : X.calm = true) (b : Blt) (hb : b ≠ .sorted) : BltR X (bltVal b) (fun x => bltD b [x]) (bltV b) := by
  cases b with
  | len => exact blt_len
  | abs => exact blt_abs
  | int => exact blt_int
  | tuple => exact blt_tuple
  | list => exact blt_list
  | sum => exact blt_sum hc
  | min => exact blt_min hc
  | max => exact blt_max hc
  | all => exact blt_all hc
  | any => exact blt_any hc
  | sorted => exact absurd rfl hb
theorem blt_boot (b : Blt) : bootBuiltins (bltName b) = some (bltVal b) := by cases b <;> decide +kernel
theorem blt_nn (b : Blt) : bltName b ≠ "__name__" := by cases b <;> decide
theorem blt_nd (b : Blt) : (bltName b == ("__debug__" : Str)) = false := by cases b <;> decide
section
variable {X : Cx} {a c : Expr} {xa : Nat → Addr} {W : WX} {p pos : Pos} {ep : Env → R D}
theorem pe_b1 {b : Blt} (hc : X.calm = true) (hb : b ≠ .sorted) (hg : Gl X (bltName b)) (hm : X.mg (bltName b) = none) (ha : PE X a (tP X.K xa W ep)) (hs : starEach [a] X.env = (false, eval a X.env) :: starEach [] X.env) :
    PE X (.Call (.Name (bltName b) p) [a] [] pos) (tV X.K xa W fun ρ => (ep ρ).bind fun x ρ => R.ofO ((bltD b [x]).map (bltV b)) ρ) := by
  obtain ⟨r, h1, h2⟩ := blt_rule hc b hb
  have hbt := blt_boot b
  have key : PE X (.Call (.Name (bltName b) p) [a] [] pos) (tCB r (tCons (tP X.K xa W ep) tNil)) := by
    cases b with
    | len => exact pe_callB h1 hg hm hbt (pa_cons ha pa_nil hs) (blt_nn _) (blt_nd _) hs rfl
    | abs => exact pe_callB h1 hg hm hbt (pa_cons ha pa_nil hs) (blt_nn _) (blt_nd _) hs rfl
    | int => exact pe_callTy h1 hg hm hbt (pa_cons ha pa_nil hs) (blt_nn _) (blt_nd _) hs rfl
    | tuple => exact pe_callTy h1 hg hm hbt (pa_cons ha pa_nil hs) (blt_nn _) (blt_nd _) hs rfl
    | list => exact pe_callTy h1 hg hm hbt (pa_cons ha pa_nil hs) (blt_nn _) (blt_nd _) hs rfl
    | sum => exact pe_callB h1 hg hm hbt (pa_cons ha pa_nil hs) (blt_nn _) (blt_nd _) hs rfl
    | min => exact pe_callB h1 hg hm hbt (pa_cons ha pa_nil hs) (blt_nn _) (blt_nd _) hs rfl
    | max => exact pe_callB h1 hg hm hbt (pa_cons ha pa_nil hs) (blt_nn _) (blt_nd _) hs rfl
    | all => exact pe_callB h1 hg hm hbt (pa_cons ha pa_nil hs) (blt_nn _) (blt_nd _) hs rfl
    | any => exact pe_callB h1 hg hm hbt (pa_cons ha pa_nil hs) (blt_nn _) (blt_nd _) hs rfl
    | sorted => exact pe_callB h1 hg hm hbt (pa_cons ha pa_nil hs) (blt_nn _) (blt_nd _) hs rfl
  exact pe_one_of h2 key
end
end Pv

namespace Pv
open PySem L2 PyProof.Rows

section
variable {X : Cx} {a c : Expr} {xa : Nat → Addr} {W : WX} {p pos : Pos}
/-! ### min, max of two -/
theorem pe_min2 {ea eb : Env → R Val} (hc : X.calm = true) (hg : Gl X "min") (hm : X.mg "min" = none) (ha : PE X a (tV X.K xa W ea)) (hb : PE X c (tV X.K xa W eb)) (hs : starEach [a, c] X.env = (false, eval a X.env) :: starEach [c] X.env) (hs2 : starEach [c] X.env = (false, eval c X.env) :: starEach [] X.env)
    (hpl : (backTo pos (starEach [c] X.env)).any (·.1) = false) :
    PE X (.Call (.Name "min" p) [a, c] [] pos) (tV X.K xa W fun ρ => bindD (ea ρ) fun x ρ => bindD (eb ρ) fun y ρ => R.ofO ((bltD .min [x, y]).map .pv) ρ) := by
  refine pe_weak (pe_callB (call_min2 hc) hg hm (by decide +kernel) (pa_cons (pe_toD ha) (pa_cons (pe_toD hb) pa_nil hs2) hs) (by decide) (by decide) hs hpl) fun σ H Q ⟨e, F, ρ, rel, post⟩ => ?_
  simp only [bindD_dd] at post
  refine ⟨e, F, ρ, rel, (Post.bind post).imp fun dx ρ1 F1 H1 ex1 rel1 q x hx => ⟨e, F1, ρ1, rel1, (Post.bind q).imp fun dy ρ2 F2 H2 ex2 rel2 q2 y hy => ?_⟩⟩
  cases dx <;> cases dy <;> first | exact q2.elim | skip
  exact ⟨_, _, by rw [hx.int_inv, hy.int_inv], q2 F2 H2 (Ex.refl _) rel2 _ (.int _)⟩
theorem pe_max2 {ea eb : Env → R Val} (hc : X.calm = true) (hg : Gl X "max") (hm : X.mg "max" = none) (ha : PE X a (tV X.K xa W ea)) (hb : PE X c (tV X.K xa W eb)) (hs : starEach [a, c] X.env = (false, eval a X.env) :: starEach [c] X.env) (hs2 : starEach [c] X.env = (false, eval c X.env) :: starEach [] X.env)
    (hpl : (backTo pos (starEach [c] X.env)).any (·.1) = false) :
    PE X (.Call (.Name "max" p) [a, c] [] pos) (tV X.K xa W fun ρ => bindD (ea ρ) fun x ρ => bindD (eb ρ) fun y ρ => R.ofO ((bltD .max [x, y]).map .pv) ρ) := by
  refine pe_weak (pe_callB (call_max2 hc) hg hm (by decide +kernel) (pa_cons (pe_toD ha) (pa_cons (pe_toD hb) pa_nil hs2) hs) (by decide) (by decide) hs hpl) fun σ H Q ⟨e, F, ρ, rel, post⟩ => ?_
  simp only [bindD_dd] at post
  refine ⟨e, F, ρ, rel, (Post.bind post).imp fun dx ρ1 F1 H1 ex1 rel1 q x hx => ⟨e, F1, ρ1, rel1, (Post.bind q).imp fun dy ρ2 F2 H2 ex2 rel2 q2 y hy => ?_⟩⟩
  cases dx <;> cases dy <;> first | exact q2.elim | skip
  exact ⟨_, _, by rw [hx.int_inv, hy.int_inv], q2 F2 H2 (Ex.refl _) rel2 _ (.int _)⟩
end

/-! ### isinstance -/
def tyName : D → String
  | .none => "NoneType"
  | .bool _ => "bool"
  | .int _ => "int"
  | .str _ => "str"
  | .list _ => "list"
  | .tuple _ => "tuple"
  | .dict _ => "dict"
def tyStr : Ty → String
  | .int => "int"
  | .bool => "bool"
  | .str => "str"
  | .tup => "tuple"
  | .lst => "list"
  | .dic => "dict"
  | .non => "NoneType"
theorem kit_all (t : Ty) (d : D) : kitB (tyName d) (tyStr t) = some (t.is d) := by
  cases d <;> cases t <;> (simp only [tyName, tyStr, Ty.is]; decide +kernel)
theorem tyx_of {K : PySem.W.Frag} {H : Hp} {x : V} {d : D} (h : Rep K H x d) : TyX K H x (.type (tyName d)) := by
  cases h with
  | non => exact .base .non
  | bl b => exact .base (.bl b)
  | int i => exact .base (.int i)
  | str s => exact .base (.str s)
  | lst h1 h2 =>
    rcases h1 with h1 | ⟨o, h1⟩
    · exact .base (.lst h1)
    · exact .base (.frz h1)
  | tup h1 h2 =>
    rcases h1 with (h1 | ⟨o, h1⟩) | ⟨o, its, n, h1, h3, _⟩
    · exact .base (.tup h1)
    · exact .fTuple h1
    · exact .kTuple h1 h3
/-- a name of a built-in class -/
structure TyNm (X : Cx) (t : Ty) (e : Expr) : Prop where
  pe : PE X e (tC (.ty (tyStr t)))
inductive TyNms (X : Cx) : List Ty → List Expr → Prop
  | nil : TyNms X [] []
  | cons {t : Ty} {ts : List Ty} {e : Expr} {es : List Expr} : PE X e (tC (.ty (tyStr t))) → starEach (e :: es) X.env = (false, eval e X.env) :: starEach es X.env → TyNms X ts es → TyNms X (t :: ts) (e :: es)
section
variable {X : Cx} {a c : Expr} {xa : Nat → Addr} {W : WX} {p pos : Pos} {ep : Env → R D}
theorem pe_isi1 {t : Ty} (hg : Gl X "isinstance") (hm : X.mg "isinstance" = none) (ha : PE X a (tP X.K xa W ep)) (hc : PE X c (tC (.ty (tyStr t)))) (hs : starEach [a, c] X.env = (false, eval a X.env) :: starEach [c] X.env) (hs2 : starEach [c] X.env = (false, eval c X.env) :: starEach [] X.env)
    (hpl : (backTo pos (starEach [c] X.env)).any (·.1) = false) :
    PE X (.Call (.Name "isinstance" p) [a, c] [] pos) (tV X.K xa W fun ρ => (ep ρ).bind fun x ρ => .ok (.pv (.bool ([t].any fun t => t.is x))) ρ) := by
  refine pe_weak (pe_callB call_isi hg hm (by decide +kernel) (pa_cons ha (pa_cons hc pa_nil hs2) hs) (by decide) (by decide) hs hpl) fun σ H Q ⟨e, F, ρ, rel, post⟩ => ⟨e, F, ρ, rel, (Post.bind post).imp fun d ρ1 F1 H1 ex1 rel1 q x hx => ?_⟩
  refine ⟨x, _, _, _, _, rfl, .ty _, tyx_of (hx.rep rel1.sub), kit_ty (kit_all t d), ?_⟩
  have q := q F1 H1 (Ex.refl _) rel1 _ (.bl _)
  simpa using q
theorem kitAny_all {K : PySem.W.Frag} (d : D) : ∀ ts : List Ty, PySem.W.kitAny K (.type (tyName d)) (ts.map fun t => .type (tyStr t)) = some (ts.any fun t => t.is d)
  | [] => rfl
  | t :: ts => by
    have ih := kitAny_all (K := K) d ts
    refine kitAny_cons (kit_ty (kit_all t d)) (fun hb => ?_) (fun hb => ?_)
    · rw [ih, List.any_cons, hb, Bool.false_or]
    · rw [List.any_cons, hb, Bool.true_or]
def tTys : List Ty → TA
  | [] => tNil
  | t :: ts => tCons (tC (.ty (tyStr t))) (tTys ts)
theorem pa_tys {ts : List Ty} {es : List Expr} (h : TyNms X ts es) : PA X es (tTys ts) := by
  induction h with
  | nil => exact pa_nil
  | cons h1 h2 _ ih => exact pa_cons h1 ih h2
theorem tTys_run : ∀ (ts : List Ty) {σ : L2.St} {H : Hp} {Q : List V → Hp → Prop}, Q (ts.map fun t => .ty (tyStr t)) H → tTys ts σ H Q
  | [], _, _, _, h => h
  | t :: ts, σ, H, Q, h => tTys_run ts (Q := fun xs H2 => Q (.ty (tyStr t) :: xs) H2) h
theorem cls_tys : ∀ ts : List Ty, Paired ClsV (ts.map fun t => V.ty (tyStr t)) (ts.map fun t => .type (tyStr t))
  | [] => .nil
  | t :: ts => .cons (.ty _) (cls_tys ts)
theorem pe_isiT {ts : List Ty} {es : List Expr} {k : Nat} {p2 : Pos} (hg : Gl X "isinstance") (hm : X.mg "isinstance" = none) (ha : PE X a (tP X.K xa W ep)) (hc : TyNms X ts es) (hl : ts.length ≤ LIM) (hs : starEach [a, .Tuple es k p2] X.env = (false, eval a X.env) :: starEach [.Tuple es k p2] X.env)
    (hpl : (backTo pos (starEach [.Tuple es k p2] X.env)).any (·.1) = false) :
    PE X (.Call (.Name "isinstance" p) [a, .Tuple es k p2] [] pos) (tV X.K xa W fun ρ => (ep ρ).bind fun x ρ => .ok (.pv (.bool (ts.any fun t => t.is x))) ρ) := by
  refine pe_weak (pe_callB call_isiT hg hm (by decide +kernel) (pa_cons ha (pa_cons (pe_tup (pa_tys hc)) pa_nil rfl) hs) (by decide) (by decide) hs hpl) fun σ H Q ⟨e, F, ρ, rel, post⟩ => ⟨e, F, ρ, rel, (Post.bind post).imp fun d ρ1 F1 H1 ex1 rel1 q x hx => ?_⟩
  refine tTys_run ts ⟨by rw [List.length_map]; exact lim_size hl, fun tp htp => ?_⟩
  refine ⟨x, tp, _, _, _, _, rfl, upd_same, cls_tys ts, tyx_of ((hx.rep rel1.sub).mono (Ex.new htp)), kitAny_all d ts, ?_⟩
  exact q F1 _ (Ex.refl _) (rel1.laid htp) _ (.bl _)
end

/-! ### items, slices -/
section
variable {X : Cx} {a b : Expr} {xa : Nat → Addr} {W : WX} {pos : Pos}
theorem atI_map {α β : Type} (f : α → β) (xs : List α) (i : Int) : atI (xs.map f) i = (atI xs i).map f := by
  unfold atI
  rw [List.length_map]
  cases ixN xs.length i with
  | none => rfl
  | some j => simp
theorem ix_ok {F H : Hp} {dx dy z : D} {x y : V} {Q : VK} (hz : ixD dx dy = some z) (ex : Ex F H) (hx : PkR X.K F H x dx) (hy : Rep X.K F y dy) (q : ∀ v, Rep X.K F v z → Q v H) : rIx X.K x y H Q := by
  cases dx <;> cases dy <;> first | (cases hz; done) | skip
  · rename_i s i
    simp only [ixD] at hz
    split at hz
    · rename_i hl
      obtain ⟨c, hc, rfl⟩ := Option.map_eq_some_iff.mp hz
      exact .inr (.inr ⟨s, i, c, (hx.plain fun ys z => nomatch z).str_inv, hy.int_inv, lim_size hl, hc, q _ (.str _)⟩)
    · cases hz
  · rename_i xs i
    obtain ⟨l, us, rfl, h1, h2⟩ := sq_pk ex hx
    obtain ⟨v, hv, rv⟩ := h2.atI hz
    exact .inl ⟨l, us, i, v, rfl, hy.int_inv, h1, hv, q v rv⟩
  · rename_i xs i
    obtain ⟨l, us, rfl, h1, _, h2⟩ := tq_pk ex hx
    obtain ⟨v, hv, rv⟩ := h2.atI hz
    exact .inr (.inl ⟨l, us, i, v, rfl, hy.int_inv, h1, hv, q v rv⟩)
theorem pe_ixE {ea eb : Env → R Val} (ha : PE X a (tV X.K xa W ea)) (hb : PE X b (tV X.K xa W eb)) (hs : PlainIx b) :
    PE X (.Subscript a b pos) (tV X.K xa W fun ρ => bindD (ea ρ) fun x ρ => bindD (eb ρ) fun y ρ => R.ofO ((ixD x y).map .pv) ρ) := by
  refine pe_weak (pe_ix ix_seq (pe_toD ha) (pe_toD hb) hs) fun σ H Q ⟨e, F, ρ, rel, post⟩ => ?_
  simp only [bindD_dd] at post
  refine ⟨e, F, ρ, rel, (Post.bind post).imp fun dx ρ1 F1 H1 ex1 rel1 q x hx => ⟨e, F1, ρ1, rel1, (Post.bind q).imp fun dy ρ2 F2 H2 ex2 rel2 q2 y hy => ?_⟩⟩
  obtain ⟨z, hz, q3⟩ := q2.ofO
  obtain ⟨w, hw, rfl⟩ := Option.map_eq_some_iff.mp hz
  exact ix_ok hw rel2.sub (.inl (hx.mono ex2)) hy fun v hv => q3 F2 H2 (Ex.refl _) rel2 v hv
theorem lookV_some {ρ : Env} {j : Nat} {K : PySem.W.Frag} {e : Ent} {σ : L2.St} {F : Hp} {α : Type} {f : D → Env → R α} {Q : α → Env → Hp → Hp → Prop} {xa : Nat → Addr} {W : WX} (h : Post K xa W e σ F ((lookV ρ j).bind f) Q) : ∃ s, ρ[j]? = some (some s) ∧ (∀ xs, s ≠ .raw xs) ∧ Post K xa W e σ F (f s.dat ρ) Q := by
  unfold lookV at h
  split at h
  · exact h.elim
  · rename_i s hn hs
    exact ⟨s, hs, fun xs z => hn xs (by rw [z]), h⟩
  · exact h.elim
theorem pe_ixv {j : Nat} {eb : Env → R Val} (ha : PE X a (tVar j)) (hb : PE X b (tV X.K xa W eb)) (hs : PlainIx b) :
    PE X (.Subscript a b pos) (tV X.K xa W fun ρ => (lookV ρ j).bind fun _ ρ => bindD (eb ρ) fun y ρ => (lookV ρ j).bind fun x ρ => R.ofO ((ixD x y).map .pv) ρ) := by
  refine pe_weak (pe_ix ix_seq ha (pe_toD hb) hs) fun σ H Q ⟨e, F, ρ, rel, post⟩ => ?_
  simp only [bindD_dd] at post
  obtain ⟨s, hs, hn, post⟩ := lookV_some post
  obtain ⟨v, hv, _⟩ := rel.look hs hn
  refine ⟨v, hv, e, F, ρ, rel, (Post.bind post).imp fun dy ρ1 F1 H1 ex1 rel1 q y hy => ?_⟩
  obtain ⟨s', hs', hn', q2⟩ := lookV_some q
  obtain ⟨v', hv', pk⟩ := rel1.look hs' hn'
  have ev : v' = v := by rw [hv] at hv'; cases hv'; rfl
  subst ev
  obtain ⟨z, hz, q3⟩ := q2.ofO
  obtain ⟨w, hw, rfl⟩ := Option.map_eq_some_iff.mp hz
  exact ix_ok hw rel1.sub pk hy fun v hv => q3 F1 H1 (Ex.refl _) rel1 v hv
/-- a slice's bound -/
def tO (K : PySem.W.Frag) (xa : Nat → Addr) (W : WX) (ev : Env → R (Option Int)) : TO := fun σ H Q => ∃ e F ρ, Rel K e F H ρ σ ∧ Post K xa W e σ F (ev ρ) fun o ρ' F' H' => Q o H'
theorem po_weak {oe : Option Expr} {t t' : TO} (h : PO X oe t) (k : ∀ σ H Q, t' σ H Q → t σ H Q) : PO X oe t' := ⟨fun pins s σ H Q I hq => h.run pins s σ H Q I (k σ H Q hq)⟩
theorem po_none' : PO X none (tO X.K xa W fun ρ => partR true (.ok (.pv .none) ρ)) := po_weak po_none fun σ H Q ⟨e, F, ρ, rel, post⟩ => post F H (Ex.refl F) rel
theorem po_some' {ea : Env → R Val} (ha : PE X a (tV X.K xa W ea)) : PO X (some a) (tO X.K xa W fun ρ => partR false (ea ρ)) := by
  refine po_weak (po_some (pe_toD ha)) fun σ H Q ⟨e, F, ρ, rel, post⟩ => ?_
  have post : Post X.K xa W e σ F (partR false (ea ρ)) _ := post
  unfold partR at post
  rw [bindD_dd] at post
  refine ⟨e, F, ρ, rel, (Post.bind post).imp fun d ρ1 F1 H1 ex1 rel1 q v hv => ?_⟩
  cases d <;> first | exact q.elim | skip
  exact ⟨_, hv.int_inv, q F1 H1 (Ex.refl _) rel1⟩
theorem cut_rep {K : PySem.W.Frag} {F : Hp} {us : List V} {ds : List D} (h : Reps K F us ds) (lo hi : Option Int) : Reps K F (cutV us lo hi) (cut ds lo hi) := by
  unfold cutV cut
  rw [h.length]
  exact (h.drop _).take _
theorem cut_whole {ds : List D} {lo hi : Option Int} (h : HT.sIx ds.length 0 lo = 0 ∧ HT.sIx ds.length ds.length hi = ds.length) : cut ds lo hi = ds := by
  unfold cut
  rw [h.1, h.2, List.drop_zero, Nat.sub_zero, List.take_length]
theorem sl_ok {e : Ent} {F H : Hp} {ρ : Env} {σ : L2.St} {dx z : D} {x : V} {lo hi : Option Int} {Q : VK} (hz : slD dx lo hi = some z) (rel : Rel X.K e F H ρ σ) (hx : PkR X.K F H x dx)
    (q : ∀ F' H' v, Ex F F' → Rel X.K e F' H' ρ σ → VR X.K e F' H' ρ σ v (frV z) → Q v H') : rSlL X.K x lo hi H Q ∨ rSlA X.K x lo hi H Q := by
  cases dx <;> first | (cases hz; done) | skip
  · cases hz
    obtain ⟨l, us, rfl, h1, h2⟩ := sq_pk rel.sub hx
    exact .inl ⟨l, us, rfl, h1, fun p hp => q _ _ _ (Ex.refl F) (rel.laid hp) (frNew rel hp (cut_rep h2 lo hi))⟩
  · rename_i xs
    cases hz
    obtain ⟨l, us, rfl, h1, h3, h2⟩ := tq_pk rel.sub hx
    refine .inr ⟨l, us, rfl, h1, fun hw => ?_, fun _ p hp => ?_⟩
    · refine q F H _ (Ex.refl F) rel ?_
      rw [h2.length] at hw
      rw [cut_whole hw]
      exact .tup h3 h2
    · have hF := rel.noneF hp
      exact q _ _ _ (Ex.new hF) (rel.new hp) (.tup (.inl (.inl upd_same)) (Reps.mono (Ex.new hF) (cut_rep h2 lo hi)))
theorem pe_slE {ea : Env → R Val} {el eh : Env → R (Option Int)} {lo hi : Option Expr} {p2 : Pos} (ha : PE X a (tV X.K xa W ea)) (hl : PO X lo (tO X.K xa W el)) (hh : PO X hi (tO X.K xa W eh)) :
    PE X (.Subscript a (.Slice lo hi none p2) pos) (tV X.K xa W fun ρ => bindD (ea ρ) fun x ρ => (el ρ).bind fun l ρ => (eh ρ).bind fun h ρ => R.ofO ((slD x l h).map frV) ρ) := by
  refine pe_weak (pe_slice (sl_list.or sl_tupA) (pe_toD ha) hl hh) fun σ H Q ⟨e, F, ρ, rel, post⟩ => ?_
  simp only [bindD_dd] at post
  refine ⟨e, F, ρ, rel, (Post.bind post).imp fun dx ρ1 F1 H1 ex1 rel1 q x hx => ⟨e, F1, ρ1, rel1, (Post.bind q).imp fun l ρ2 F2 H2 ex2 rel2 q2 => ⟨e, F2, ρ2, rel2, (Post.bind q2).imp fun h ρ3 F3 H3 ex3 rel3 q3 => ?_⟩⟩⟩
  obtain ⟨z, hz, q4⟩ := q3.ofO
  obtain ⟨w, hw, rfl⟩ := Option.map_eq_some_iff.mp hz
  exact sl_ok hw rel3 (.inl (hx.mono (ex2.trans ex3))) fun F' H' v ex rel' rep => q4 F' H' ex rel' v rep
theorem pe_slv {j : Nat} {el eh : Env → R (Option Int)} {lo hi : Option Expr} {p2 : Pos} (ha : PE X a (tVar j)) (hl : PO X lo (tO X.K xa W el)) (hh : PO X hi (tO X.K xa W eh)) :
    PE X (.Subscript a (.Slice lo hi none p2) pos) (tV X.K xa W fun ρ => (lookV ρ j).bind fun _ ρ => (el ρ).bind fun l ρ => (eh ρ).bind fun h ρ => (lookV ρ j).bind fun x ρ => R.ofO ((slD x l h).map frV) ρ) := by
  refine pe_weak (pe_slice (sl_list.or sl_tupA) ha hl hh) fun σ H Q ⟨e, F, ρ, rel, post⟩ => ?_
  obtain ⟨s, hs, hn, post⟩ := lookV_some post
  obtain ⟨v, hv, _⟩ := rel.look hs hn
  refine ⟨v, hv, e, F, ρ, rel, (Post.bind post).imp fun l ρ2 F2 H2 ex2 rel2 q2 => ⟨e, F2, ρ2, rel2, (Post.bind q2).imp fun h ρ3 F3 H3 ex3 rel3 q3 => ?_⟩⟩
  obtain ⟨s', hs', hn', q4⟩ := lookV_some q3
  obtain ⟨v', hv', pk⟩ := rel3.look hs' hn'
  have ev : v' = v := by rw [hv] at hv'; cases hv'; rfl
  subst ev
  obtain ⟨z, hz, q5⟩ := q4.ofO
  obtain ⟨w, hw, rfl⟩ := Option.map_eq_some_iff.mp hz
  exact sl_ok hw rel3 pk fun F' H' v ex rel' rep => q5 F' H' ex rel' v rep
/-- a[::-1] -/
theorem pe_rev' {ep : Env → R D} {k : Nat} {p1 p2 p3 : Pos} (ha : PE X a (tP X.K xa W ep)) : PE X (.Subscript a (.Slice none none (some (.UnaryOp .USub (.Constant (.int 1) k p1) p2)) p3) pos) (tV X.K xa W fun ρ => (ep ρ).bind fun x ρ => R.ofO ((revD x).map frV) ρ) := by
  refine pe_weak (pe_revL ha) fun σ H Q ⟨e, F, ρ, rel, post⟩ => ⟨e, F, ρ, rel, (Post.bind post).imp fun dx ρ1 F1 H1 ex1 rel1 q x hx => ?_⟩
  obtain ⟨z, hz, q2⟩ := q.ofO
  obtain ⟨w, hw, rfl⟩ := Option.map_eq_some_iff.mp hz
  cases dx <;> first | (cases hw; done) | skip
  cases hw
  obtain ⟨l, us, rfl, h1, h2⟩ := sq_pk rel1.sub hx
  exact ⟨l, us, rfl, h1, fun p hp => q2 _ _ (Ex.refl F1) (rel1.laid hp) _ (frNew rel1 hp h2.reverse)⟩
end

/-! ### calls -/
def ArgR (K : PySem.W.Frag) (F H : Hp) : List V → List Slot → Prop
  | [], [] => True
  | v :: vs, .v d :: ss => Rep K F v d ∧ ArgR K F H vs ss
  | v :: vs, .io xs :: ss => (∃ p us, v = .ref p ∧ F p = none ∧ H p = some (.lst us) ∧ Reps K F us xs) ∧ ArgR K F H vs ss
  | v :: vs, .raw xs :: ss => (∃ p us, v = .ref p ∧ SqL K F p us ∧ Reps K F us xs) ∧ ArgR K F H vs ss
  | _, _ => False
def ioAddr : List V → List Slot → Option Addr
  | .ref p :: _, .io _ :: _ => some p
  | _, _ => none
def Frame (F H : Hp) (pI : Option Addr) (F' H' : Hp) : Prop := (∀ a o, H a = some o → pI ≠ some a → H' a = some o) ∧ ∀ a, F a = none → H a ≠ none → pI ≠ some a → F' a = none
def OutR (K : PySem.W.Frag) (F' H' : Hp) (pI : Option Addr) : Option Slot → Prop
  | none => pI = none
  | some (.io xs) => ∃ p us, pI = some p ∧ F' p = none ∧ H' p = some (.lst us) ∧ Reps K F' us xs
  | some (.fz xs) => ∃ p, pI = some p ∧ Rep K F' (.ref p) (.list xs)
  | _ => False
def VRc (K : PySem.W.Frag) (H F' H' : Hp) (pI : Option Addr) (v : V) : Val → Prop
  | .pv d => Rep K F' v d
  | .fr xs => ∃ p us, v = .ref p ∧ F' p = none ∧ H' p = some (.lst us) ∧ Reps K F' us xs ∧ H p = none ∧ pI ≠ some p
/-- what a call promises: what the pure run tells -/
def spOf (K : PySem.W.Frag) (xa : Nat → Addr) (call : Nat → List Slot → FR) (j : Nat) : Sp := fun vs H Q E => ∃ (F : Hp) (as : List Slot), Ex F H ∧ ArgR K F H vs as ∧ match call j as with
  | .ret x o => ∀ F' H' v, Ex F F' → Ex F' H' → Frame F H (ioAddr vs as) F' H' → OutR K F' H' (ioAddr vs as) o → VRc K H F' H' (ioAddr vs as) v x → Q v H'
  | .exc c none o => ∀ F' H', Ex F F' → Ex F' H' → Frame F H (ioAddr vs as) F' H' → OutR K F' H' (ioAddr vs as) o → E (.ref (xa c)) none H'
  | .exc _ (some _) _ => False
  | .bad => False
theorem argR_v {K : PySem.W.Frag} {F H : Hp} : ∀ {vs : List V} {ds : List D}, Reps K F vs ds → ArgR K F H vs (ds.map .v)
  | _, _, .nil => trivial
  | _, _, .cons h hs => ⟨h, argR_v hs⟩
theorem ioAddr_v (vs : List V) (ds : List D) : ioAddr vs (ds.map .v) = none := by
  cases ds with
  | nil => cases vs <;> (first | rfl | (rename_i v vs; cases v <;> rfl))
  | cons d ds => cases vs <;> (first | rfl | (rename_i v vs; cases v <;> rfl))
section
variable {K : PySem.W.Frag} {e : Ent} {F F' H H' : Hp} {ρ : Env} {σ : L2.St}
theorem ex_of_frame {pI : Option Addr} {a : Addr} {o : HO} (fr : Frame F H pI F' H') (h : H a = some o) (n : pI ≠ some a) : H' a = some o := fr.1 a o h n
/-- behind a call that was handed none of the lists -/
theorem Rel.called (r : Rel K e F H ρ σ) (ex : Ex F F') (ex' : Ex F' H') (fr : Frame F H none F' H') : Rel K e F' H' ρ σ where
  len := r.len
  sub0 := r.sub0.trans ex
  sub := ex'
  slot := fun i s hs => by
    obtain ⟨v, hv, q⟩ := r.slot i s hs
    refine ⟨v, hv, ?_⟩
    cases s with
    | v d => exact q.mono ex
    | own xs =>
      obtain ⟨b, us, rfl, q1, q2, q3, q4⟩ := q
      exact ⟨b, us, rfl, fr.2 b q1 (by rw [q2]; exact fun z => nomatch z) (fun z => nomatch z), fr.1 b _ q2 (fun z => nomatch z), q3.mono ex, q4⟩
    | io xs =>
      obtain ⟨b, us, rfl, q1, q2, q3, q4⟩ := q
      exact ⟨b, us, rfl, fr.2 b q1 (by rw [q2]; exact fun z => nomatch z) (fun z => nomatch z), fr.1 b _ q2 (fun z => nomatch z), q3.mono ex, q4⟩
    | fz xs =>
      obtain ⟨b, rfl, q1, q2⟩ := q
      exact ⟨b, rfl, q1, q2.mono ex⟩
    | raw xs =>
      obtain ⟨b, us, rfl, q1, q2⟩ := q
      exact ⟨b, us, rfl, ex.sqL q1, q2.mono ex⟩
  dis := r.dis
  frm := fun a o h1 h2 => fr.1 a o (r.frm a o h1 h2) (fun z => nomatch z)
  old := fun a h1 h2 h3 => fr.2 a (r.old a h1 h2 h3) (fun z => by
    cases h : e.H0 a with
    | none => exact h2 h
    | some o => rw [r.frm a o h h3] at z; cases z) (fun z => nomatch z)
  mh := fun p hp z => by
    cases h : H p with
    | none => exact r.mh p hp h
    | some o => rw [fr.1 p o h (fun z => nomatch z)] at z; cases z
  pm := r.pm
/-- behind a call that was handed the list at p, the place i: what the list has become -/
theorem Rel.calledIo {p : Addr} {i : Nat} {s s' : Slot} (r : Rel K e F H ρ σ) (ex : Ex F F') (ex' : Ex F' H') (fr : Frame F H (some p) F' H') (hs : ρ[i]? = some (some s)) (hm : s.isM = true) (hσ : σ[i]? = some (some (.ref p)))
    (hn : SlotR K e F' H' s' (.ref p)) (hpn : H' p ≠ none) : Rel K e F' H' (ρ.set i (some s')) σ := by
  have hi : i < ρ.length := (List.getElem?_eq_some_iff.mp hs).1
  have hp0 : e.M p ∨ e.H0 p = none := by
    obtain ⟨v, hv, q⟩ := r.slot i s hs
    rw [hσ] at hv
    cases hv
    cases s with
    | v d => cases hm
    | own xs => obtain ⟨b, us, eb, _, _, _, q4, _⟩ := q; cases eb; exact q4
    | io xs => obtain ⟨b, us, eb, _, _, _, q4, _⟩ := q; cases eb; exact .inl q4
    | fz xs => cases hm
    | raw xs => cases hm
  have ne : ∀ a o, e.H0 a = some o → ¬ e.M a → (some p : Option Addr) ≠ some a := fun a o h1 h2 z => by
    cases z
    rcases hp0 with h | h
    · exact h2 h
    · rw [h] at h1; cases h1
  exact {
    len := by rw [List.length_set]; exact r.len
    sub0 := r.sub0.trans ex
    sub := ex'
    slot := fun j t ht => by
      by_cases hj : i = j
      · subst hj
        rw [List.getElem?_set_self hi] at ht
        cases ht
        exact ⟨_, hσ, hn⟩
      · rw [List.getElem?_set_ne hj] at ht
        obtain ⟨v, hv, q⟩ := r.slot j t ht
        refine ⟨v, hv, ?_⟩
        cases t with
        | v d => exact q.mono ex
        | own xs =>
          obtain ⟨b, us, rfl, q1, q2, q3, q4⟩ := q
          have nb : (some p : Option Addr) ≠ some b := fun z => by cases z; exact r.dis i j _ _ _ hj hs ht hm rfl hσ hv
          exact ⟨b, us, rfl, fr.2 b q1 (by rw [q2]; exact fun z => nomatch z) nb, fr.1 b _ q2 nb, q3.mono ex, q4⟩
        | io xs =>
          obtain ⟨b, us, rfl, q1, q2, q3, q4⟩ := q
          have nb : (some p : Option Addr) ≠ some b := fun z => by cases z; exact r.dis i j _ _ _ hj hs ht hm rfl hσ hv
          exact ⟨b, us, rfl, fr.2 b q1 (by rw [q2]; exact fun z => nomatch z) nb, fr.1 b _ q2 nb, q3.mono ex, q4⟩
        | fz xs =>
          obtain ⟨b, rfl, q1, q2⟩ := q
          exact ⟨b, rfl, q1, q2.mono ex⟩
        | raw xs =>
          obtain ⟨b, us, rfl, q1, q2⟩ := q
          exact ⟨b, us, rfl, ex.sqL q1, q2.mono ex⟩
    dis := fun j k t u b hjk h1 h2 m1 m2 => by
      by_cases hj : i = j
      · subst hj
        have hk : i ≠ k := hjk
        rw [List.getElem?_set_ne hk] at h2
        exact r.dis i k s u b hjk hs h2 hm m2
      · by_cases hk : i = k
        · subst hk
          rw [List.getElem?_set_ne hj] at h1
          exact r.dis j i t s b hjk h1 hs m1 hm
        · rw [List.getElem?_set_ne hj] at h1
          rw [List.getElem?_set_ne hk] at h2
          exact r.dis j k t u b hjk h1 h2 m1 m2
    frm := fun a o h1 h2 => fr.1 a o (r.frm a o h1 h2) (ne a o h1 h2)
    old := fun a h1 h2 h3 => by
      cases h : e.H0 a with
      | none => exact absurd h h2
      | some o => exact fr.2 a (r.old a h1 h2 h3) (by rw [r.frm a o h h3]; exact fun z => nomatch z) (ne a o h h3)
    mh := fun q hq z => by
      by_cases hqp : q = p
      · subst hqp
        exact hpn z
      · cases h : H q with
        | none => exact r.mh q hq h
        | some o => rw [fr.1 q o h (fun z => by cases z; exact hqp rfl)] at z; cases z
    pm := r.pm }

theorem exc_post {α : Type} {xa : Nat → Addr} {W : WX} {c : Nat} {x : Option D} {ρ : Env} {Q : α → Env → Hp → Hp → Prop} (h : Post K xa W e σ F (R.exc c x ρ : R α) Q) : x = none ∧ ∀ F' H', Ex F F' → Rel K e F' H' ρ σ → W (.ref (xa c)) none σ H' := by
  cases x with
  | none => exact ⟨rfl, h⟩
  | some d => exact h.elim
end
section
variable {X : Cx} {CX : CXT} {k : Nat} {f : Addr} {fd : FuncData} {ps : List Str} {x : Str} {p pos : Pos} {a : Expr} {es : List Expr} {xa : Nat → Addr} {W : WX} {call : Nat → List Slot → FR} {j : Nat} {el : Env → R (List D)}
/-- a call's reading, from the promise: nothing of ours is handed over -/
theorem call_plain {e : Ent} {F H : Hp} {ρ : Env} {σ : L2.St} {vs : List V} {ds : List D} {Q : VK} (rel : Rel X.K e F H ρ σ) (h : Reps X.K F vs ds)
    (q : Post X.K xa W e σ F (backR none ρ (call j (ds.map .v))) fun x ρ' F' H' => ∀ v, VR X.K e F' H' ρ' σ v x → Q v H') : spOf X.K xa call j vs H Q (WE W σ) := by
  refine ⟨F, ds.map .v, rel.sub, argR_v h, ?_⟩
  rw [ioAddr_v]
  cases hc : call j (ds.map .v) with
  | ret x o =>
    rw [hc] at q
    intro F' H' v ex ex' fr out vr
    have rel' := rel.called ex ex' fr
    refine q F' H' ex rel' v ?_
    cases x with
    | pv d => exact vr
    | fr xs =>
      obtain ⟨p, us, rfl, h1, h2, h3, h4, _⟩ := vr
      exact ⟨p, us, rfl, h1, h2, h3, (rel.none0 h4).resolve_right (rel.fresh h4).1, (rel.fresh h4).1, (rel.fresh h4).2, rel.apart h4⟩
  | exc c x o =>
    rw [hc] at q
    obtain ⟨rfl, q⟩ := exc_post q
    intro F' H' ex ex' fr out
    exact q F' H' ex (rel.called ex ex' fr)
  | bad => rw [hc] at q; exact q.elim
theorem pe_callE (G : FnOk X.prog X.w X.K X.mg X.base (L2.CX X.prog X.w) k f fd ps (spOf X.K xa call j)) (hr : Room k X.A) (hg : Gl X x) (hm : X.mg x = some (.ref f)) (hk : PySem.W.keepIn X.K (.ref f) = true) (hb : Binds X.K fd ps []) (tk : Takes X W)
    (ha : PA X (a :: es) (tL X.K xa W el)) (hdb : (x == ("__debug__" : Str)) = false) (he : starEach (a :: es) X.env = (false, eval a X.env) :: starEach es X.env) (hpl : (backTo pos (starEach es X.env)).any (·.1) = false) :
    PE X (.Call (.Name x p) (a :: es) [] pos) (tV X.K xa W fun ρ => (el ρ).bind fun ds ρ => backR none ρ (call j (ds.map .v))) := by
  refine pe_weak (pe_callS (E := WE W) G hr hg hm hk hb (fun σ => passAt tk σ) ha hdb he hpl) fun σ H Q ⟨e, F, ρ, rel, post⟩ => ⟨e, F, ρ, rel, (Post.bind post).imp fun ds ρ1 F1 H1 ex1 rel1 q vs hvs => ?_⟩
  exact call_plain rel1 hvs q
theorem ioArg_some {ρ : Env} {i : Nat} {xs : List D} (h : ioArg ρ i = some xs) : (ρ[i]? = some (some (.own xs)) ∨ ρ[i]? = some (some (.io xs))) := by
  unfold ioArg at h
  split at h
  · cases h; exact .inl (by assumption)
  · cases h; exact .inr (by assumption)
  · cases h
/-- .. the place i is handed over -/
theorem call_io {e : Ent} {F H : Hp} {ρ : Env} {σ : L2.St} {v0 : V} {vs : List V} {ds : List D} {xs : List D} {i : Nat} {Q : VK} (rel : Rel X.K e F H ρ σ) (hv : σ[i]? = some (some v0)) (hi : ioArg ρ i = some xs) (h : Reps X.K F vs ds)
    (q : Post X.K xa W e σ F (backR (some i) ρ (call j (.io xs :: ds.map .v))) fun x ρ' F' H' => ∀ v, VR X.K e F' H' ρ' σ v x → Q v H') : spOf X.K xa call j (v0 :: vs) H Q (WE W σ) := by
  have key : ∃ s p us, ρ[i]? = some (some s) ∧ (s = .own xs ∨ s = .io xs) ∧ v0 = .ref p ∧ F p = none ∧ H p = some (.lst us) ∧ Reps X.K F us xs := by
    rcases ioArg_some hi with hs | hs
    · obtain ⟨v, hv', p, us, rfl, q1, q2, q3, _⟩ := rel.slot i _ hs
      rw [hv] at hv'; cases hv'
      exact ⟨_, p, us, hs, .inl rfl, rfl, q1, q2, q3⟩
    · obtain ⟨v, hv', p, us, rfl, q1, q2, q3, _⟩ := rel.slot i _ hs
      rw [hv] at hv'; cases hv'
      exact ⟨_, p, us, hs, .inr rfl, rfl, q1, q2, q3⟩
  obtain ⟨s, p, us, hs, hss, rfl, q1, q2, q3⟩ := key
  have hm : s.isM = true := by rcases hss with rfl | rfl <;> rfl
  refine ⟨F, .io xs :: ds.map .v, rel.sub, ⟨⟨p, us, rfl, q1, q2, q3⟩, argR_v h⟩, ?_⟩
  have back : ∀ {F' H' : Hp} {o : Option Slot}, Ex F F' → Ex F' H' → Frame F H (some p) F' H' → OutR X.K F' H' (some p) o → ∃ ρ', backS ρ (some i) o = some ρ' ∧ Rel X.K e F' H' ρ' σ := by
    intro F' H' o ex ex' fr out
    have slotAt : ∃ v, σ[i]? = some (some v) ∧ SlotR X.K e F H s v := rel.slot i s hs
    obtain ⟨v, hv', sl⟩ := slotAt
    rw [hv] at hv'; cases hv'
    cases o with
    | none => exact absurd out (fun z => nomatch z)
    | some s' =>
      cases s' with
      | v d => exact out.elim
      | own ys => exact out.elim
      | raw ys => exact out.elim
      | io ys =>
        obtain ⟨p', us', ep, o1, o2, o3⟩ := out
        cases ep
        rcases hss with rfl | rfl
        · refine ⟨ρ.set i (some (.own ys)), by simp only [backS, hs], rel.calledIo ex ex' fr hs hm hv ?_ (by rw [o2]; exact fun z => nomatch z)⟩
          obtain ⟨b, _, eb, _, _, _, q4, q5⟩ := sl
          cases eb
          exact ⟨p, us', rfl, o1, o2, o3, q4, q5⟩
        · refine ⟨ρ.set i (some (.io ys)), by simp only [backS, hs], rel.calledIo ex ex' fr hs hm hv ?_ (by rw [o2]; exact fun z => nomatch z)⟩
          obtain ⟨b, _, eb, _, _, _, q4, q5⟩ := sl
          cases eb
          exact ⟨p, us', rfl, o1, o2, o3, q4, q5⟩
      | fz ys =>
        obtain ⟨p', ep, o1⟩ := out
        cases ep
        have hpn : H' p ≠ none := by
          cases o1 with
          | lst h1 h2 => rcases ex'.rd h1 with h | ⟨o, h⟩ <;> (rw [h]; exact fun z => nomatch z)
        rcases hss with rfl | rfl
        · exact ⟨ρ.set i (some (.v (.list ys))), by simp only [backS, hs], rel.calledIo ex ex' fr hs hm hv o1 hpn⟩
        · refine ⟨ρ.set i (some (.fz ys)), by simp only [backS, hs], rel.calledIo ex ex' fr hs hm hv ?_ hpn⟩
          obtain ⟨b, _, eb, _, _, _, q4, q5⟩ := sl
          cases eb
          exact ⟨p, rfl, q5, o1⟩
  show match call j (.io xs :: ds.map .v) with
    | .ret x o => ∀ F' H' v, Ex F F' → Ex F' H' → Frame F H (some p) F' H' → OutR X.K F' H' (some p) o → VRc X.K H F' H' (some p) v x → Q v H'
    | .exc c none o => ∀ F' H', Ex F F' → Ex F' H' → Frame F H (some p) F' H' → OutR X.K F' H' (some p) o → WE W σ (.ref (xa c)) none H'
    | .exc _ (some _) _ => False
    | .bad => False
  cases hc : call j (.io xs :: ds.map .v) with
  | ret x o =>
    rw [hc] at q
    intro F' H' v ex ex' fr out vr
    obtain ⟨ρ', hb, rel'⟩ := back ex ex' fr out
    simp only [backR, hb] at q
    refine q F' H' ex rel' v ?_
    cases x with
    | pv d => exact vr
    | fr xs =>
      obtain ⟨p, us, rfl, h1, h2, h3, h4, h5⟩ := vr
      refine ⟨p, us, rfl, h1, h2, h3, (rel.none0 h4).resolve_right (rel.fresh h4).1, (rel.fresh h4).1, (rel.fresh h4).2, fun m t ht htm hσ => ?_⟩
      by_cases hmi : i = m
      · subst hmi
        rw [hv] at hσ
        cases hσ
        exact h5 rfl
      · have ht' : ρ[m]? = some (some t) := by
          cases o with
          | none => exact absurd out (fun z => nomatch z)
          | some s' =>
            cases s' with
            | v d => exact out.elim
            | own ys => exact out.elim
            | raw ys => exact out.elim
            | io ys => rcases hss with rfl | rfl <;> (simp only [backS, hs] at hb; cases hb; rwa [List.getElem?_set_ne hmi] at ht)
            | fz ys => rcases hss with rfl | rfl <;> (simp only [backS, hs] at hb; cases hb; rwa [List.getElem?_set_ne hmi] at ht)
        exact rel.apart h4 m t ht' htm hσ
  | exc c x o =>
    rw [hc] at q
    cases x with
    | none =>
      intro F' H' ex ex' fr out
      obtain ⟨ρ', hb, rel'⟩ := back ex ex' fr out
      simp only [backR, hb] at q
      exact q F' H' ex rel'
    | some d =>
      simp only [backR] at q
      split at q
      · exact q
      · exact q
  | bad => rw [hc] at q; exact q.elim
theorem pe_cioE {i : Nat} (G : FnOk X.prog X.w X.K X.mg X.base (L2.CX X.prog X.w) k f fd ps (spOf X.K xa call j)) (hr : Room k X.A) (hg : Gl X x) (hm : X.mg x = some (.ref f)) (hk : PySem.W.keepIn X.K (.ref f) = true) (hb : Binds X.K fd ps []) (tk : Takes X W)
    (hv : PE X a (tVar i)) (ha : PA X es (tL X.K xa W el)) (hdb : (x == ("__debug__" : Str)) = false) (he : starEach (a :: es) X.env = (false, eval a X.env) :: starEach es X.env) (hpl : (backTo pos (starEach es X.env)).any (·.1) = false) :
    PE X (.Call (.Name x p) (a :: es) [] pos) (tV X.K xa W fun ρ => cioGo (call j) i el ρ) := by
  refine pe_weak (pe_callS (E := WE W) G hr hg hm hk hb (fun σ => passAt tk σ) (pa_cons hv ha he) hdb he hpl) fun σ H Q ⟨e, F, ρ, rel, post⟩ => ?_
  have post : Post X.K xa W e σ F (cioGo (call j) i el ρ) _ := post
  unfold cioGo at post
  cases hi : ioArg ρ i with
  | some xs0 =>
    rw [hi] at post
    have hs : ∃ s, ρ[i]? = some (some s) ∧ ∀ xs, s ≠ .raw xs := by
      rcases ioArg_some hi with h | h <;> exact ⟨_, h, fun _ z => nomatch z⟩
    obtain ⟨s, hs, hn⟩ := hs
    obtain ⟨v, hv, _⟩ := rel.look hs hn
    refine ⟨v, hv, e, F, ρ, rel, (Post.bind post).imp fun ds ρ1 F1 H1 ex1 rel1 q vs hvs => ?_⟩
    cases hi1 : ioArg ρ1 i with
    | none => rw [hi1] at q; exact q.elim
    | some xs =>
      rw [hi1] at q
      exact call_io rel1 hv hi1 hvs q
  | none =>
    rw [hi] at post
    have post : Post X.K xa W e σ F (bindD (readV ρ i) fun x ρ => (el ρ).bind fun ds ρ => backR none ρ (call j (.v x :: ds.map .v))) _ := post
    unfold readV at post
    split at post
    · exact post.elim
    · rename_i s hn hs
      obtain ⟨F1, v, ex1, hv, rep, rel1⟩ := rel.freeze hs (fun xs z => hn xs (by rw [z]))
      have post : Post X.K xa W e σ F ((el (ρ.set i (some s.frozen))).bind fun ds ρ => backR none ρ (call j (.v s.dat :: ds.map .v))) _ := post
      refine ⟨v, hv, e, F1, _, rel1, (Post.bind (Post.weak ex1 post)).imp fun ds ρ2 F2 H2 ex2 rel2 q vs hvs => ?_⟩
      exact call_plain (ds := s.dat :: ds) rel2 (.cons (rep.mono ex2) hvs) q
    · exact post.elim
/-- the script handed over -/
theorem pe_craw {i : Nat} (G : FnOk X.prog X.w X.K X.mg X.base (L2.CX X.prog X.w) k f fd ps (spOf X.K xa call j)) (hr : Room k X.A) (hg : Gl X x) (hm : X.mg x = some (.ref f)) (hk : PySem.W.keepIn X.K (.ref f) = true) (hb : Binds X.K fd ps []) (tk : Takes X W)
    (hv : PE X a (tVar i)) (hdb : (x == ("__debug__" : Str)) = false) (he : starEach [a] X.env = (false, eval a X.env) :: starEach [] X.env) (hpl : (backTo pos (starEach [] X.env)).any (·.1) = false) :
    PE X (.Call (.Name x p) [a] [] pos) (tV X.K xa W fun ρ => crawGo (call j) i ρ) := by
  refine pe_weak (pe_callS (E := WE W) G hr hg hm hk hb (fun σ => passAt tk σ) (pa_cons hv pa_nil he) hdb he hpl) fun σ H Q ⟨e, F, ρ, rel, post⟩ => ?_
  have post : Post X.K xa W e σ F (crawGo (call j) i ρ) _ := post
  unfold crawGo at post
  split at post
  · rename_i xs hs
    obtain ⟨v, hv, q, us, rfl, q1, q2⟩ := rel.slot i _ hs
    refine ⟨_, hv, F, [.raw xs], rel.sub, ⟨⟨q, us, rfl, q1, q2⟩, trivial⟩, ?_⟩
    show match call j [.raw xs] with
      | .ret x o => ∀ F' H' v, Ex F F' → Ex F' H' → Frame F H none F' H' → OutR X.K F' H' none o → VRc X.K H F' H' none v x → Q v H'
      | .exc c none o => ∀ F' H', Ex F F' → Ex F' H' → Frame F H none F' H' → OutR X.K F' H' none o → WE W σ (.ref (xa c)) none H'
      | .exc _ (some _) _ => False
      | .bad => False
    cases hc : call j [.raw xs] with
    | ret x o =>
      rw [hc] at post
      intro F' H' v ex ex' fr out vr
      refine post F' H' ex (rel.called ex ex' fr) v ?_
      cases x with
      | pv d => exact vr
      | fr xs =>
        obtain ⟨p, us, rfl, h1, h2, h3, h4, _⟩ := vr
        exact ⟨p, us, rfl, h1, h2, h3, (rel.none0 h4).resolve_right (rel.fresh h4).1, (rel.fresh h4).1, (rel.fresh h4).2, rel.apart h4⟩
    | exc c x o =>
      rw [hc] at post
      obtain ⟨rfl, q⟩ := exc_post post
      intro F' H' ex ex' fr out
      exact q F' H' ex (rel.called ex ex' fr)
    | bad => rw [hc] at post; exact post.elim
  · exact post.elim
/-- the script cut -/
theorem pe_scr {i : Nat} {n : Int} {b : Expr} {p2 : Pos} (ha : PE X a (tVar i)) (hb : PE X b (tC (.int n))) : PE X (.Subscript a (.Slice none (some b) none p2) pos) (tV X.K xa W fun ρ => scrV ρ i n) := by
  refine pe_weak (pe_slice sl_list ha po_none (po_some hb)) fun σ H Q ⟨e, F, ρ, rel, post⟩ => ?_
  have post : Post X.K xa W e σ F (scrV ρ i n) _ := post
  unfold scrV at post
  split at post
  · rename_i xs hs
    obtain ⟨v, hv, q, us, rfl, q1, q2⟩ := rel.slot i _ hs
    refine ⟨_, hv, n, rfl, q, us, rfl, rel.sub.sqL q1, fun p hp => ?_⟩
    exact post F _ (Ex.refl F) (rel.laid hp) _ (frNew rel hp (cut_rep q2 none (some n)))
  · exact post.elim
end
end Pv

namespace Pv
open PySem L2 PyProof.Rows

/-! ### places stored -/
section
variable {K : PySem.W.Frag} {e : Ent} {F F' H H' : Hp} {ρ ρ' : Env} {σ σ' : L2.St} {v : V} {i : Nat}
theorem Rel.put {x : Val} (r : Rel K e F H ρ σ) (h : VR K e F H ρ σ v x) (hp : putV ρ i x = .ok () ρ') : Rel K e F H ρ' (σ.set i (some v)) ∧ i < σ.length := by
  unfold putV at hp
  split at hp
  · rename_i hf
    have hi : i < ρ.length := by
      unfold freeAt at hf
      cases hx : ρ[i]? with
      | none => rw [hx] at hf; cases hf
      | some s => exact (List.getElem?_eq_some_iff.mp hx).1
    have hiσ : i < σ.length := by rw [← r.len]; exact hi
    refine ⟨?_, hiσ⟩
    cases hp
    cases x with
    | pv d =>
      refine ⟨by rw [List.length_set, List.length_set]; exact r.len, r.sub0, r.sub, fun j t ht => ?_, fun j k t u p hjk h1 h2 m1 m2 hσ => ?_, r.frm, r.old, r.mh, r.pm⟩
      · by_cases hj : i = j
        · subst hj
          rw [List.getElem?_set_self hi] at ht
          cases ht
          exact ⟨v, List.getElem?_set_self hiσ, h⟩
        · rw [List.getElem?_set_ne hj] at ht
          rw [List.getElem?_set_ne hj]
          exact r.slot j t ht
      · have hj : i ≠ j := fun z => by subst z; rw [List.getElem?_set_self hi] at h1; cases h1; cases m1
        have hk : i ≠ k := fun z => by subst z; rw [List.getElem?_set_self hi] at h2; cases h2; cases m2
        rw [List.getElem?_set_ne hj] at h1 hσ
        rw [List.getElem?_set_ne hk] at h2 ⊢
        exact r.dis j k t u p hjk h1 h2 m1 m2 hσ
    | fr xs =>
      obtain ⟨q, us, rfl, q1, q2, q3, q4, q5, q6, q7⟩ := h
      refine ⟨by rw [List.length_set, List.length_set]; exact r.len, r.sub0, r.sub, fun j t ht => ?_, fun j k t u p hjk h1 h2 m1 m2 hσ => ?_, r.frm, r.old, r.mh, r.pm⟩
      · by_cases hj : i = j
        · subst hj
          rw [List.getElem?_set_self hi] at ht
          cases ht
          exact ⟨_, List.getElem?_set_self hiσ, q, us, rfl, q1, q2, q3, .inr q4, q6⟩
        · rw [List.getElem?_set_ne hj] at ht
          rw [List.getElem?_set_ne hj]
          exact r.slot j t ht
      · by_cases hj : i = j
        · subst hj
          have hk : i ≠ k := hjk
          rw [List.getElem?_set_self hiσ] at hσ
          rw [List.getElem?_set_ne hk] at h2 ⊢
          cases hσ
          exact q7 k u h2 m2
        · by_cases hk : i = k
          · subst hk
            rw [List.getElem?_set_ne hj] at h1 hσ
            rw [List.getElem?_set_self hiσ]
            intro z
            cases z
            exact q7 j t h1 m1 hσ
          · rw [List.getElem?_set_ne hj] at h1 hσ
            rw [List.getElem?_set_ne hk] at h2 ⊢
            exact r.dis j k t u p hjk h1 h2 m1 m2 hσ
  · cases hp
/-- a list of our own is changed -/
theorem Rel.write {p : Addr} {us' : List V} {xs' : List D} {s s' : Slot} (r : Rel K e F H ρ σ) (hs : ρ[i]? = some (some s)) (hss : (∃ xs, s = .own xs ∧ s' = .own xs') ∨ ∃ xs, s = .io xs ∧ s' = .io xs') (hσ : σ[i]? = some (some (.ref p))) (hq : Reps K F us' xs') :
    Rel K e F (upd H p (.lst us')) (ρ.set i (some s')) σ := by
  have hi : i < ρ.length := (List.getElem?_eq_some_iff.mp hs).1
  have hm : s.isM = true := by rcases hss with ⟨xs, rfl, _⟩ | ⟨xs, rfl, _⟩ <;> rfl
  obtain ⟨v, hv, sl⟩ := r.slot i s hs
  rw [hσ] at hv
  cases hv
  have hF : F p = none := by rcases hss with ⟨xs, rfl, _⟩ | ⟨xs, rfl, _⟩ <;> (obtain ⟨b, us, eb, q1, _⟩ := sl; cases eb; exact q1)
  have hp0 : e.M p ∨ e.H0 p = none := by
    rcases hss with ⟨xs, rfl, _⟩ | ⟨xs, rfl, _⟩
    · obtain ⟨b, us, eb, _, _, _, q4, _⟩ := sl; cases eb; exact q4
    · obtain ⟨b, us, eb, _, _, _, q4, _⟩ := sl; cases eb; exact .inl q4
  refine ⟨by rw [List.length_set]; exact r.len, r.sub0, fun a o h => ?_, fun j t ht => ?_, fun j k t u b hjk h1 h2 m1 m2 => ?_, fun a o h1 h2 => ?_, r.old, fun q hq' z => ?_, r.pm⟩
  · have ha : a ≠ p := fun z => by subst z; rw [hF] at h; cases h
    rw [upd_ne ha]
    exact r.sub a o h
  · by_cases hj : i = j
    · subst hj
      rw [List.getElem?_set_self hi] at ht
      cases ht
      refine ⟨_, hσ, ?_⟩
      rcases hss with ⟨xs, rfl, rfl⟩ | ⟨xs, rfl, rfl⟩
      · obtain ⟨b, us, eb, q1, q2, q3, q4, q5⟩ := sl
        cases eb
        exact ⟨p, us', rfl, hF, upd_same, hq, q4, q5⟩
      · obtain ⟨b, us, eb, q1, q2, q3, q4, q5⟩ := sl
        cases eb
        exact ⟨p, us', rfl, hF, upd_same, hq, q4, q5⟩
    · rw [List.getElem?_set_ne hj] at ht
      obtain ⟨v, hv, q⟩ := r.slot j t ht
      refine ⟨v, hv, ?_⟩
      cases t with
      | v d => exact q
      | own xs =>
        obtain ⟨b, us, rfl, q1, q2, q3⟩ := q
        have nb : b ≠ p := fun z => by subst z; exact r.dis i j _ _ _ hj hs ht hm rfl hσ hv
        exact ⟨b, us, rfl, q1, by rw [upd_ne nb]; exact q2, q3⟩
      | io xs =>
        obtain ⟨b, us, rfl, q1, q2, q3⟩ := q
        have nb : b ≠ p := fun z => by subst z; exact r.dis i j _ _ _ hj hs ht hm rfl hσ hv
        exact ⟨b, us, rfl, q1, by rw [upd_ne nb]; exact q2, q3⟩
      | fz xs => exact q
      | raw xs => exact q
  · by_cases hj : i = j
    · subst hj
      rw [List.getElem?_set_ne hjk] at h2
      exact r.dis i k s u b hjk hs h2 hm m2
    · by_cases hk : i = k
      · subst hk
        rw [List.getElem?_set_ne hj] at h1
        exact r.dis j i t s b hjk h1 hs m1 hm
      · rw [List.getElem?_set_ne hj] at h1
        rw [List.getElem?_set_ne hk] at h2
        exact r.dis j k t u b hjk h1 h2 m1 m2
  · have ha : a ≠ p := fun z => by
      subst z
      rcases hp0 with h | h
      · exact h2 h
      · rw [h] at h1; cases h1
    rw [upd_ne ha]
    exact r.frm a o h1 h2
  · by_cases hqp : q = p
    · subst hqp; rw [upd_same] at z; cases z
    · rw [upd_ne hqp] at z; exact r.mh q hq' z
/-- another object, that is nobody's here, is changed -/
theorem Rel.apartUpd {p : Addr} {o : HO} (r : Rel K e F H ρ σ) (hF : F p = none) (h0 : e.H0 p = none) (ap : Apart ρ σ p) : Rel K e F (upd H p o) ρ σ := by
  refine ⟨r.len, r.sub0, fun a u h => ?_, fun j t ht => ?_, r.dis, fun a u h1 h2 => ?_, r.old, fun q hq z => ?_, r.pm⟩
  · have ha : a ≠ p := fun z => by subst z; rw [hF] at h; cases h
    rw [upd_ne ha]
    exact r.sub a u h
  · obtain ⟨v, hv, q⟩ := r.slot j t ht
    refine ⟨v, hv, ?_⟩
    cases t with
    | v d => exact q
    | own xs =>
      obtain ⟨b, us, rfl, q1, q2, q3⟩ := q
      have nb : b ≠ p := fun z => by subst z; exact ap j _ ht rfl hv
      exact ⟨b, us, rfl, q1, by rw [upd_ne nb]; exact q2, q3⟩
    | io xs =>
      obtain ⟨b, us, rfl, q1, q2, q3⟩ := q
      have nb : b ≠ p := fun z => by subst z; exact ap j _ ht rfl hv
      exact ⟨b, us, rfl, q1, by rw [upd_ne nb]; exact q2, q3⟩
    | fz xs => exact q
    | raw xs => exact q
  · have ha : a ≠ p := fun z => by subst z; rw [h0] at h1; cases h1
    rw [upd_ne ha]
    exact r.frm a u h1 h2
  · by_cases hqp : q = p
    · subst hqp; rw [upd_same] at z; cases z
    · rw [upd_ne hqp] at z; exact r.mh q hq z
end

/-! ### targets -/
def Chg (is : List Nat) (σ σ' : L2.St) : Prop := σ'.length = σ.length ∧ ∀ j, j ∉ is → σ'[j]? = σ[j]?
def PostU (K : PySem.W.Frag) (e : Ent) (F H : Hp) (is : List Nat) (σ : L2.St) (r : R Unit) (Q : L2.St → Hp → Prop) : Prop := match r with
  | .ok () ρ' => ∀ σ', Chg is σ σ' → Rel K e F H ρ' σ' → Q σ' H
  | _ => False
def tG (K : PySem.W.Frag) (t : Tg) : TG := fun v σ H Q => ∃ e F ρ d, Rel K e F H ρ σ ∧ Rep K F v d ∧ PostU K e F H t.slots σ (putT ρ t d) Q
theorem Chg.set (i : Nat) (is : List Nat) (h : i ∈ is) (σ : L2.St) (v : Option V) : Chg is σ (σ.set i v) := ⟨List.length_set, fun j hj => List.getElem?_set_ne fun z => by subst z; exact hj h⟩
theorem Chg.trans {is : List Nat} {σ σ1 σ2 : L2.St} (a : Chg is σ σ1) (b : Chg is σ1 σ2) : Chg is σ σ2 := ⟨b.1.trans a.1, fun j hj => (b.2 j hj).trans (a.2 j hj)⟩
theorem Chg.mono {is js : List Nat} {σ σ1 : L2.St} (a : Chg is σ σ1) (h : ∀ i ∈ is, i ∈ js) : Chg js σ σ1 := ⟨a.1, fun j hj => a.2 j fun z => hj (h j z)⟩
theorem pg_weak {X : Cx} {tg : Expr} {t t' : TG} (h : PG X tg t) (k : ∀ v σ H Q, t' v σ H Q → t v σ H Q) : PG X tg t' := ⟨fun pins s σ H v u Q I r hq => h.run pins s σ H v u Q I r (k v σ H Q hq)⟩
theorem pg_or {X : Cx} {tg : Expr} {t t' : TG} (h : PG X tg t) (h' : PG X tg t') : PG X tg (fun v σ H Q => t v σ H Q ∨ t' v σ H Q) := ⟨fun pins s σ H v u Q I r hq => hq.elim (h.run pins s σ H v u Q I r) (h'.run pins s σ H v u Q I r)⟩
def gNs : List Nat → TGs
  | [] => gNil
  | i :: is => gCons (gName i) (gNs is)
theorem gNs_ok {K : PySem.W.Frag} {e : Ent} {F H : Hp} {js : List Nat} : ∀ {is : List Nat} {vs : List V} {ds : List D} {ρ : Env} {σ : L2.St} {Q : L2.St → Hp → Prop}, (∀ i ∈ is, i ∈ js) → Rel K e F H ρ σ → Reps K F vs ds → PostU K e F H js σ (putAll ρ is ds) Q → gNs is vs σ H Q
  | [], _, _, ρ, σ, Q, _, rel, .nil, post => ⟨rfl, post σ ⟨rfl, fun _ _ => rfl⟩ rel⟩
  | [], _, _, ρ, σ, Q, _, rel, .cons _ _, post => post.elim
  | i :: is, _, _, ρ, σ, Q, _, rel, .nil, post => post.elim
  | i :: is, v :: vs, d :: ds, ρ, σ, Q, hj, rel, .cons h hs, post => by
    refine ⟨v, vs, rfl, ?_⟩
    have post : PostU K e F H js σ ((putD ρ i d).bind fun _ ρ => putAll ρ is ds) Q := post
    cases hp : putD ρ i d with
    | ok u ρ1 =>
      rw [hp] at post
      obtain ⟨rel1, hi⟩ := rel.put (x := .pv d) h hp
      refine gNs_ok (fun k hk => hj k (List.mem_cons_of_mem _ hk)) rel1 hs ?_
      have post : PostU K e F H js σ (putAll ρ1 is ds) Q := post
      cases hq : putAll ρ1 is ds with
      | ok u ρ2 => rw [hq] at post; exact fun σ' c r => post σ' ((Chg.set i js (hj i List.mem_cons_self) σ (some v)).trans c) r
      | exc c x ρ2 => rw [hq] at post; exact post.elim
      | bad => rw [hq] at post; exact post.elim
    | exc c x ρ1 => rw [hp] at post; exact post.elim
    | bad => rw [hp] at post; exact post.elim
section
variable {X : Cx} {pos : Pos}
inductive NmOk (X : Cx) : List Nat → List Expr → Prop
  | nil : NmOk X [] []
  | cons {i : Nat} {is : List Nat} {e : Expr} {es : List Expr} : PG X e (gName i) → (assignEach (e :: es) X.env).map (·.2) = assign e X.env :: (assignEach es X.env).map (·.2) → NmOk X is es → NmOk X (i :: is) (e :: es)
theorem pgs_nm {is : List Nat} {es : List Expr} (h : NmOk X is es) : PGs X es (gNs is) := by
  induction h with
  | nil => exact pgs_nil
  | cons h hs _ ih => exact pgs_cons h ih hs
theorem pg_n {i : Nat} {e : Expr} (h : PG X e (gName i)) : PG X e (tG X.K (.n i)) := by
  refine pg_weak h fun v σ H Q ⟨e, F, ρ, d, rel, rep, post⟩ => ?_
  have post : PostU X.K e F H [i] σ (putD ρ i d) Q := post
  cases hp : putD ρ i d with
  | ok u ρ1 =>
    rw [hp] at post
    obtain ⟨rel1, hi⟩ := rel.put (x := .pv d) rep hp
    exact post _ (Chg.set i [i] List.mem_cons_self σ (some v)) rel1
  | exc c x ρ1 => rw [hp] at post; exact post.elim
  | bad => rw [hp] at post; exact post.elim
theorem pg_t {is : List Nat} {es : List Expr} {k : Nat} (hc : X.calm = true) (h : NmOk X is es) (hn : (assignEach es X.env).length = is.length) (hst : (assignEach es X.env).findIdx? (·.1) = none) : PG X (.Tuple es k pos) (tG X.K (.t is)) := by
  refine pg_weak (pg_or (pg_tup hc (pgs_nm h) hn hst) (pg_lst hc (pgs_nm h) hn hst)) fun v σ H Q ⟨e, F, ρ, d, rel, rep, post⟩ => ?_
  have post : PostU X.K e F H is σ (putT ρ (.t is) d) Q := post
  cases d with
  | list ds =>
    have post : PostU X.K e F H is σ (if ds.length = is.length then putAll ρ is ds else .bad) Q := post
    split at post
    · rename_i hl
      obtain ⟨a, us, rfl, h1, h2⟩ := rep.list_inv
      exact .inr ⟨a, us, rfl, .inl (rel.sub.rd h1), by rw [h2.length]; exact hl, gNs_ok (fun _ h => h) rel h2 post⟩
    · exact post.elim
  | tuple ds =>
    have post : PostU X.K e F H is σ (if ds.length = is.length then putAll ρ is ds else .bad) Q := post
    split at post
    · rename_i hl
      obtain ⟨a, us, rfl, h1, h2⟩ := rep.tup_inv
      exact .inl ⟨a, us, rfl, rel.sub.sqT h1, by rw [h2.length]; exact hl, gNs_ok (fun _ h => h) rel h2 post⟩
    · exact post.elim
  | _ => exact post.elim
end

/-! ### what is walked -/
def Yl (K : PySem.W.Frag) (F H : Hp) (x : V) (H' : Hp) (d : D) : Prop := (H' = H ∧ Rep K F x d) ∨ ∃ T us ds, x = .ref T ∧ H T = none ∧ H' = upd H T (.tup us) ∧ d = .tuple ds ∧ Reps K F us ds
def Walks (K : PySem.W.Frag) (F : Hp) (J : L2.It) (ds : List D) : Prop := (∀ (i : Nat) (d : D) (H : Hp), ds[i]? = some d → Ex F H → J.go i H ∧ ∀ x H', J.yld i H x H' → Yl K F H x H' d) ∧ ∀ H, Ex F H → J.stop ds.length H
def tI (K : PySem.W.Frag) (xa : Nat → Addr) (W : WX) (ev : Env → R (List D)) : TI := fun σ H R => ∃ e F ρ, Rel K e F H ρ σ ∧ Post K xa W e σ F (ev ρ) fun ds ρ' F' H' => ∀ J, Walks K F' J ds → R J H'
theorem SqL.inj {K : PySem.W.Frag} {H : Hp} {a : Addr} {us ws : List V} (h : Rd H a (.lst us)) (h' : Rd H a (.lst ws)) : us = ws := by
  rcases h with h | ⟨o, h⟩ <;> rcases h' with h' | ⟨o', h'⟩ <;> (rw [h] at h'; cases h') <;> rfl
theorem walks_list {K : PySem.W.Frag} {F : Hp} {a : Addr} {us : List V} {ds : List D} (h : Rd F a (.lst us)) (hs : Reps K F us ds) : Walks K F (Itl K a) ds := by
  refine ⟨fun i d H hd ex => ?_, fun H ex => ⟨us, .inl (ex.rd h), by rw [hs.length]; exact Nat.le_refl _⟩⟩
  obtain ⟨v, hv, rv⟩ := hs.get hd
  refine ⟨⟨us, v, .inl (ex.rd h), hv⟩, fun x H' ⟨e1, e2⟩ => .inl ⟨e1, ?_⟩⟩
  have := e2 us (.inl (ex.rd h))
  rw [hv] at this
  cases this
  exact rv
theorem walks_tup {K : PySem.W.Frag} {F : Hp} {a : Addr} {us : List V} {ds : List D} (h : SqT K F a us) (hs : Reps K F us ds) : Walks K F (Itt K a) ds := by
  refine ⟨fun i d H hd ex => ?_, fun H ex => ⟨us, ex.sqT h, by rw [hs.length]; exact Nat.le_refl _⟩⟩
  obtain ⟨v, hv, rv⟩ := hs.get hd
  refine ⟨⟨us, v, ex.sqT h, hv⟩, fun x H' ⟨e1, e2⟩ => .inl ⟨e1, ?_⟩⟩
  have := e2 us (ex.sqT h)
  rw [hv] at this
  cases this
  exact rv
theorem walks_str {K : PySem.W.Frag} {F : Hp} {s : Str} : Walks K F (Its s) (signsD s) := by
  refine ⟨fun i d H hd ex => ?_, fun H ex => ?_⟩
  · unfold signsD at hd
    rw [List.getElem?_map] at hd
    obtain ⟨c, hc, rfl⟩ := Option.map_eq_some_iff.mp hd
    have hc' : s.cps[i]? = some c := by rw [← Array.getElem?_toList]; exact hc
    refine ⟨(Array.getElem?_eq_some_iff.mp hc').1, fun x H' ⟨e1, c', e2, e3⟩ => .inl ⟨e1, ?_⟩⟩
    rw [hc'] at e2
    cases e2
    rw [e3]
    exact .str _
  · show s.cps.size ≤ (signsD s).length
    unfold signsD
    rw [List.length_map, Array.length_toList]
    exact Nat.le_refl _
theorem rangeD_len : ∀ (n : Nat) (lo c : Int), (rangeD lo n c).length = n
  | 0, _, _ => rfl
  | n + 1, lo, c => by unfold rangeD; rw [List.length_cons, rangeD_len n]
theorem rangeD_get : ∀ (n : Nat) (lo c : Int) (i : Nat), i < n → (rangeD lo n c)[i]? = some (.int (lo + i * c))
  | 0, _, _, _, h => by omega
  | n + 1, lo, c, 0, h => by unfold rangeD; simp
  | n + 1, lo, c, i + 1, h => by
    unfold rangeD
    rw [List.getElem?_cons_succ, rangeD_get n (lo + c) c i (by omega)]
    congr 2
    rw [Int.add_assoc]
    congr 1
    rw [show ((i + 1 : Nat) : Int) = (i : Int) + 1 by omega, Int.add_mul, Int.one_mul, Int.add_comm]
theorem rangeD_some {n : Nat} {lo c : Int} {i : Nat} {d : D} (h : (rangeD lo n c)[i]? = some d) : i < n ∧ d = .int (lo + i * c) := by
  have hi : i < n := by have := (List.getElem?_eq_some_iff.mp h).1; rwa [rangeD_len] at this
  rw [rangeD_get n lo c i hi] at h
  cases h
  exact ⟨hi, rfl⟩
theorem walks_range {K : PySem.W.Frag} {F : Hp} {lo : Int} {n : Nat} : Walks K F (Itr lo n) (rangeD lo n 1) := by
  refine ⟨fun i d H hd ex => ?_, fun H ex => by rw [rangeD_len]; exact Nat.le_refl _⟩
  obtain ⟨hi, rfl⟩ := rangeD_some hd
  refine ⟨hi, fun x H' ⟨e1, e2⟩ => .inl ⟨e1, ?_⟩⟩
  rw [e2, Int.mul_one]
  exact .int _
theorem walks_rangeC {K : PySem.W.Frag} {F : Hp} {lo c : Int} {n : Nat} : Walks K F (Itc lo c n) (rangeD lo n c) := by
  refine ⟨fun i d H hd ex => ?_, fun H ex => by rw [rangeD_len]; exact Nat.le_refl _⟩
  obtain ⟨hi, rfl⟩ := rangeD_some hd
  refine ⟨hi, fun x H' ⟨e1, e2⟩ => .inl ⟨e1, ?_⟩⟩
  rw [e2]
  exact .int _
theorem zipD_len : ∀ xs ys : List D, (zipD xs ys).length = min xs.length ys.length
  | [], _ => by simp [zipD]
  | _ :: _, [] => by simp [zipD]
  | x :: xs, y :: ys => by simp only [zipD, List.length_cons, zipD_len xs ys]; omega
theorem zipD_some : ∀ {xs ys : List D} {i : Nat} {d : D}, (zipD xs ys)[i]? = some d → ∃ x y, xs[i]? = some x ∧ ys[i]? = some y ∧ d = .tuple [x, y]
  | [], _, _, _, h => by simp [zipD] at h
  | _ :: _, [], _, _, h => by simp [zipD] at h
  | x :: xs, y :: ys, 0, d, h => by simp [zipD] at h; exact ⟨x, y, rfl, rfl, h.symm⟩
  | x :: xs, y :: ys, i + 1, d, h => by
    simp only [zipD, List.getElem?_cons_succ] at h ⊢
    exact zipD_some h
theorem walks_zipL {K : PySem.W.Frag} {F : Hp} {a b : Addr} {us ws : List V} {xs ys : List D} (h : Rd F a (.lst us)) (hs : Reps K F us xs) (h' : Rd F b (.lst ws)) (hs' : Reps K F ws ys) : Walks K F (Itz K a b) (zipD xs ys) := by
  refine ⟨fun i d H hd ex => ?_, fun H ex => ⟨us, ws, .inl (ex.rd h), .inl (ex.rd h'), by rw [zipD_len, hs.length, hs'.length]; omega⟩⟩
  obtain ⟨x, y, hx, hy, rfl⟩ := zipD_some hd
  obtain ⟨v, hv, rv⟩ := hs.get hx
  obtain ⟨w, hw, rw'⟩ := hs'.get hy
  refine ⟨⟨us, ws, v, w, .inl (ex.rd h), .inl (ex.rd h'), hv, hw⟩, fun z H' ⟨T, x', y', e1, e2, e3, e4, e5⟩ => .inr ⟨T, [x', y'], _, e1, e2, e3, rfl, ?_⟩⟩
  have h1 := e4 us (.inl (ex.rd h))
  have h2 := e5 ws (.inl (ex.rd h'))
  rw [hv] at h1
  rw [hw] at h2
  cases h1
  cases h2
  exact .cons rv (.cons rw' .nil)
theorem walks_zipT {K : PySem.W.Frag} {F : Hp} {a b : Addr} {us ws : List V} {xs ys : List D} (h : SqT K F a us) (hs : Reps K F us xs) (h' : SqT K F b ws) (hs' : Reps K F ws ys) : Walks K F (RZ.ItzT K a b) (zipD xs ys) := by
  refine ⟨fun i d H hd ex => ?_, fun H ex => ⟨us, ws, ex.sqT h, ex.sqT h', by rw [zipD_len, hs.length, hs'.length]; omega⟩⟩
  obtain ⟨x, y, hx, hy, rfl⟩ := zipD_some hd
  obtain ⟨v, hv, rv⟩ := hs.get hx
  obtain ⟨w, hw, rw'⟩ := hs'.get hy
  refine ⟨⟨us, ws, v, w, ex.sqT h, ex.sqT h', hv, hw⟩, fun z H' ⟨T, x', y', e1, e2, e3, e4, e5⟩ => .inr ⟨T, [x', y'], _, e1, e2, e3, rfl, ?_⟩⟩
  have h1 := e4 us (ex.sqT h)
  have h2 := e5 ws (ex.sqT h')
  rw [hv] at h1
  rw [hw] at h2
  cases h1
  cases h2
  exact .cons rv (.cons rw' .nil)
theorem enumD_len : ∀ (xs : List D) (k : Nat), (enumD k xs).length = xs.length
  | [], _ => rfl
  | x :: xs, k => by simp only [enumD, List.length_cons, enumD_len xs]
theorem enumD_some : ∀ {xs : List D} {k i : Nat} {d : D}, (enumD k xs)[i]? = some d → ∃ x, xs[i]? = some x ∧ d = .tuple [.int ((k + i : Nat) : Int), x]
  | [], _, _, _, h => by simp [enumD] at h
  | x :: xs, k, 0, d, h => by simp [enumD] at h; exact ⟨x, rfl, by rw [← h]; simp⟩
  | x :: xs, k, i + 1, d, h => by
    simp only [enumD, List.getElem?_cons_succ] at h ⊢
    obtain ⟨y, h1, h2⟩ := enumD_some h
    exact ⟨y, h1, by rw [h2]; congr 4; omega⟩
theorem walks_enum {K : PySem.W.Frag} {F : Hp} {a : Addr} {us : List V} {xs : List D} (h : Rd F a (.lst us)) (hs : Reps K F us xs) : Walks K F (Ite K a) (enumD 0 xs) := by
  refine ⟨fun i d H hd ex => ?_, fun H ex => ⟨us, .inl (ex.rd h), by rw [enumD_len, hs.length]; exact Nat.le_refl _⟩⟩
  obtain ⟨x, hx, rfl⟩ := enumD_some hd
  obtain ⟨v, hv, rv⟩ := hs.get hx
  refine ⟨⟨us, v, .inl (ex.rd h), hv⟩, fun z H' ⟨T, x', e1, e2, e3, e4⟩ => .inr ⟨T, [.int ((i : Nat) : Int), x'], _, e1, e2, e3, rfl, ?_⟩⟩
  have h1 := e4 us (.inl (ex.rd h))
  rw [hv] at h1
  cases h1
  rw [show (((0 + i : Nat)) : Int) = (i : Int) by omega]
  exact .cons (.int _) (.cons rv .nil)
section
variable {X : Cx} {tg a b c : Expr} {xa : Nat → Addr} {W : WX} {p pos : Pos} {ev : Env → R Val} {el : Env → R (List D)}
theorem pi_of (h : PE X a (tV X.K xa W ev)) : PI X tg a (tI X.K xa W fun ρ => bindD (ev ρ) fun x ρ => R.ofO (walkD x) ρ) := by
  refine pi_weak (pi_or (pi_or (pi_list (pe_toD h)) (pi_tup (pe_toD h))) (pi_str (pe_toD h))) fun σ H R ⟨e, F, ρ, rel, post⟩ => ?_
  simp only [bindD_dd] at post
  cases hv : dd (ev ρ) with
  | bad => rw [hv] at post; exact post.elim
  | exc c x ρ1 =>
    refine .inl (.inl ⟨e, F, ρ, rel, ?_⟩)
    have post := Post.bind post
    dsimp only
    rw [hv] at post ⊢
    obtain ⟨rfl, q⟩ := exc_post post
    exact q
  | ok d ρ1 =>
    have post := Post.bind post
    rw [hv] at post
    cases d with
    | list xs =>
      refine .inl (.inl ⟨e, F, ρ, rel, ?_⟩)
      dsimp only
      rw [hv]
      intro F' H' ex rel' v hv'
      obtain ⟨l, us, rfl, h1, h2⟩ := hv'.list_inv
      exact ⟨l, rfl, ⟨us, .inl (rel'.sub.rd h1)⟩, post F' H' ex rel' F' H' (Ex.refl _) rel' _ (walks_list h1 h2)⟩
    | tuple xs =>
      refine .inl (.inr ⟨e, F, ρ, rel, ?_⟩)
      dsimp only
      rw [hv]
      intro F' H' ex rel' v hv'
      obtain ⟨l, us, rfl, h1, h2⟩ := hv'.tup_inv
      exact ⟨l, rfl, ⟨us, rel'.sub.sqT h1⟩, post F' H' ex rel' F' H' (Ex.refl _) rel' _ (walks_tup h1 h2)⟩
    | str s =>
      refine .inr ⟨e, F, ρ, rel, ?_⟩
      dsimp only
      rw [hv]
      intro F' H' ex rel' v hv'
      exact ⟨s, hv'.str_inv, post F' H' ex rel' F' H' (Ex.refl _) rel' _ walks_str⟩
    | none => refine .inl (.inl ⟨e, F, ρ, rel, ?_⟩); dsimp only; rw [hv]; exact fun F' H' ex rel' v hv' => (post F' H' ex rel').elim
    | bool b => refine .inl (.inl ⟨e, F, ρ, rel, ?_⟩); dsimp only; rw [hv]; exact fun F' H' ex rel' v hv' => (post F' H' ex rel').elim
    | int i => refine .inl (.inl ⟨e, F, ρ, rel, ?_⟩); dsimp only; rw [hv]; exact fun F' H' ex rel' v hv' => (post F' H' ex rel').elim
    | dict kvs => refine .inl (.inl ⟨e, F, ρ, rel, ?_⟩); dsimp only; rw [hv]; exact fun F' H' ex rel' v hv' => (post F' H' ex rel').elim
end
end Pv

namespace Pv
open PySem L2 PyProof.Rows
section
variable {X : Cx} {tg a b c : Expr} {xa : Nat → Addr} {W : WX} {p pos : Pos} {ev eb : Env → R Val} {el : Env → R (List D)}
theorem rng_bind {r : R (List D)} {e : Ent} {σ : L2.St} {F : Hp} {Q : List D → Env → Hp → Hp → Prop} (h : Post X.K xa W e σ F (r.bind fun ds ρ => R.ofO ((rngOf ds).map fun p => rangeD p.1 p.2.1 p.2.2) ρ) Q) :
    Post X.K xa W e σ F r fun ds ρ1 F1 H1 => ∃ lo n st, rngOf ds = some (lo, n, st) ∧ ∀ F' H', Ex F1 F' → Rel X.K e F' H' ρ1 σ → Q (rangeD lo n st) ρ1 F' H' :=
  (Post.bind h).imp fun ds ρ1 F1 H1 ex1 rel1 q => by
    obtain ⟨z, hz, q2⟩ := q.ofO
    obtain ⟨⟨lo, n, st⟩, hw, rfl⟩ := Option.map_eq_some_iff.mp hz
    exact ⟨lo, n, st, hw, q2⟩
theorem pi_rng1 (hg : Gl X "range") (hm : X.mg "range" = none) (ha : PA X [a] (tL X.K xa W el)) (hs : starEach [a] X.env = [(false, eval a X.env)]) (hone : ∀ vs : List V, vs.length = 1 → True) :
    PI X tg (.Call (.Name "range" p) [a] [] pos) (fun σ H R => tL X.K xa W el σ H fun vs H1 => ∃ j : Int, vs = [.int j] ∧ -(2 ^ 62) ≤ j ∧ j < 2 ^ 62 ∧ R (Itr 0 j.toNat) H1) := pi_range1 hg hm ha hs
theorem reps_ints {K : PySem.W.Frag} {F : Hp} {vs : List V} {i j k : Int} : (Reps K F vs [.int i] → vs = [.int i]) ∧ (Reps K F vs [.int i, .int j] → vs = [.int i, .int j]) ∧ (Reps K F vs [.int i, .int j, .int k] → vs = [.int i, .int j, .int k]) := by
  refine ⟨fun h => ?_, fun h => ?_, fun h => ?_⟩
  · cases h with | cons h hs => cases hs; rw [h.int_inv]
  · cases h with | cons h hs => cases hs with | cons h2 hs => cases hs; rw [h.int_inv, h2.int_inv]
  · cases h with | cons h hs => cases hs with | cons h2 hs => cases hs with | cons h3 hs => cases hs; rw [h.int_inv, h2.int_inv, h3.int_inv]
theorem rngOf_1 {ds : List D} {lo : Int} {n : Nat} {st : Int} (hl : ds.length = 1) (h : rngOf ds = some (lo, n, st)) : ∃ j, ds = [.int j] ∧ -(2 ^ 62) ≤ j ∧ j < 2 ^ 62 ∧ lo = 0 ∧ n = j.toNat ∧ st = 1 := by
  match ds, hl with
  | [d], _ =>
    cases d <;> first | (cases h; done) | skip
    simp only [rngOf] at h
    split at h
    · rename_i hh
      cases h
      exact ⟨_, rfl, hh.1, hh.2, rfl, rfl, rfl⟩
    · cases h
theorem rngOf_2 {ds : List D} {lo : Int} {n : Nat} {st : Int} (hl : ds.length = 2) (h : rngOf ds = some (lo, n, st)) : ∃ i j, ds = [.int i, .int j] ∧ (-(2 ^ 62) ≤ i ∧ i < 2 ^ 62 ∧ -(2 ^ 62) ≤ j ∧ j < 2 ^ 62) ∧ lo = i ∧ n = (j - i).toNat ∧ st = 1 := by
  match ds, hl with
  | [d, d'], _ =>
    cases d <;> cases d' <;> first | (cases h; done) | skip
    simp only [rngOf] at h
    split at h
    · rename_i hh
      cases h
      exact ⟨_, _, rfl, ⟨hh.1.1, hh.1.2, hh.2.1, hh.2.2⟩, rfl, rfl, rfl⟩
    · cases h
theorem rngOf_3 {ds : List D} {lo : Int} {n : Nat} {st : Int} (hl : ds.length = 3) (h : rngOf ds = some (lo, n, st)) : ∃ i j, ds = [.int i, .int j, .int (-1)] ∧ (-(2 ^ 62) ≤ i ∧ i < 2 ^ 62 ∧ -(2 ^ 62) ≤ j ∧ j < 2 ^ 62) ∧ lo = i ∧ n = (i - j).toNat ∧ st = -1 := by
  match ds, hl with
  | [d, d', d''], _ =>
    cases d <;> cases d' <;> cases d'' <;> first | (cases h; done) | skip
    simp only [rngOf] at h
    split at h
    · rename_i hh
      cases h
      exact ⟨_, _, by rw [hh.1], ⟨hh.2.1.1, hh.2.1.2, hh.2.2.1, hh.2.2.2⟩, rfl, rfl, rfl⟩
    · cases h
/-- the list's length is the number of arguments -/
def LenIs (el : Env → R (List D)) (n : Nat) : Prop := ∀ ρ ds ρ', el ρ = .ok ds ρ' → ds.length = n
theorem post_len {e : Ent} {σ : L2.St} {F : Hp} {ρ : Env} {n : Nat} {Q : List D → Env → Hp → Hp → Prop} (hl : LenIs el n) (h : Post X.K xa W e σ F (el ρ) Q) : Post X.K xa W e σ F (el ρ) fun ds ρ1 F1 H1 => ds.length = n ∧ Q ds ρ1 F1 H1 := by
  cases he : el ρ with
  | ok ds ρ1 => rw [he] at h; exact fun F' H' ex rel => ⟨hl ρ ds ρ1 he, h F' H' ex rel⟩
  | exc c x ρ1 => rw [he] at h; obtain ⟨rfl, q⟩ := exc_post h; exact q
  | bad => rw [he] at h; exact h
theorem pi_rngA (hg : Gl X "range") (hm : X.mg "range" = none) (ha : PA X [a] (tL X.K xa W el)) (hl : LenIs el 1) (hs : starEach [a] X.env = [(false, eval a X.env)]) :
    PI X tg (.Call (.Name "range" p) [a] [] pos) (tI X.K xa W fun ρ => (el ρ).bind fun ds ρ => R.ofO ((rngOf ds).map fun p => rangeD p.1 p.2.1 p.2.2) ρ) := by
  refine pi_weak (pi_range1 hg hm ha hs) fun σ H R ⟨e, F, ρ, rel, post⟩ => ⟨e, F, ρ, rel, (post_len hl (rng_bind post)).imp fun ds ρ1 F1 H1 ex1 rel1 ⟨hln, lo, n, st, hr, q⟩ vs hvs => ?_⟩
  obtain ⟨j, rfl, h1, h2, rfl, rfl, rfl⟩ := rngOf_1 hln hr
  exact ⟨j, (reps_ints (j := 0) (k := 0)).1 hvs, h1, h2, q F1 H1 (Ex.refl _) rel1 _ walks_range⟩
theorem pi_rngB (hg : Gl X "range") (hm : X.mg "range" = none) (ha : PA X [a, b] (tL X.K xa W el)) (hl : LenIs el 2) (hs : starEach [a, b] X.env = [(false, eval a X.env), (false, eval b X.env)]) (hs2 : starEach [b] X.env = [(false, eval b X.env)]) :
    PI X tg (.Call (.Name "range" p) [a, b] [] pos) (tI X.K xa W fun ρ => (el ρ).bind fun ds ρ => R.ofO ((rngOf ds).map fun p => rangeD p.1 p.2.1 p.2.2) ρ) := by
  refine pi_weak (pi_range2 hg hm ha hs hs2) fun σ H R ⟨e, F, ρ, rel, post⟩ => ⟨e, F, ρ, rel, (post_len hl (rng_bind post)).imp fun ds ρ1 F1 H1 ex1 rel1 ⟨hln, lo, n, st, hr, q⟩ vs hvs => ?_⟩
  obtain ⟨i, j, rfl, h1, rfl, rfl, rfl⟩ := rngOf_2 hln hr
  exact ⟨_, j, (reps_ints (k := 0)).2.1 hvs, h1, q F1 H1 (Ex.refl _) rel1 _ walks_range⟩
theorem pi_rngC (hg : Gl X "range") (hm : X.mg "range" = none) (ha : PA X [a, b, c] (tL X.K xa W el)) (hl : LenIs el 3) (hs : starEach [a, b, c] X.env = (false, eval a X.env) :: starEach [b, c] X.env) (hpl : (backTo pos (starEach [b, c] X.env)).any (·.1) = false) :
    PI X tg (.Call (.Name "range" p) [a, b, c] [] pos) (tI X.K xa W fun ρ => (el ρ).bind fun ds ρ => R.ofO ((rngOf ds).map fun p => rangeD p.1 p.2.1 p.2.2) ρ) := by
  refine pi_weak (pi_range3 hg hm ha hs hpl) fun σ H R ⟨e, F, ρ, rel, post⟩ => ⟨e, F, ρ, rel, (post_len hl (rng_bind post)).imp fun ds ρ1 F1 H1 ex1 rel1 ⟨hln, lo, n, st, hr, q⟩ vs hvs => ?_⟩
  obtain ⟨i, j, rfl, ⟨h1, h2, h3, h4⟩, rfl, rfl, rfl⟩ := rngOf_3 hln hr
  exact ⟨_, j, -1, _, reps_ints.2.2 hvs, RgC.neg h1 h2 h3 h4, q F1 H1 (Ex.refl _) rel1 _ walks_rangeC⟩
theorem pi_zip' {elts : List Expr} {kk : Nat} {tpos : Pos} (hg : Gl X "zip") (hm : X.mg "zip" = none) (ha : PE X a (tV X.K xa W ev)) (hb : PE X b (tV X.K xa W eb)) (hs : starEach [a, b] X.env = (false, eval a X.env) :: starEach [b] X.env) (hs2 : starEach [b] X.env = (false, eval b X.env) :: starEach [] X.env) (hpl : (backTo pos (starEach [b] X.env)).any (·.1) = false) :
    PI X (.Tuple elts kk tpos) (.Call (.Name "zip" p) [a, b] [] pos) (tI X.K xa W fun ρ => bindD (ev ρ) fun x ρ => bindD (eb ρ) fun y ρ => R.ofO (zipO x y) ρ) := by
  refine pi_weak (RZ.pi_zipA hg hm (pa_cons (pe_toD ha) (pa_cons (pe_toD hb) pa_nil hs2) hs) hs hpl) fun σ H R ⟨e, F, ρ, rel, post⟩ => ?_
  simp only [bindD_dd] at post
  refine ⟨e, F, ρ, rel, (Post.bind post).imp fun dx ρ1 F1 H1 ex1 rel1 q x hx => ⟨e, F1, ρ1, rel1, (Post.bind q).imp fun dy ρ2 F2 H2 ex2 rel2 q2 y hy => ?_⟩⟩
  obtain ⟨zs, hz, q3⟩ := q2.ofO
  cases dx <;> cases dy <;> first | (cases hz; done) | skip
  · cases hz
    obtain ⟨l, us, rfl, h1, h2⟩ := (hx.mono ex2).list_inv
    obtain ⟨m, ws, rfl, h3, h4⟩ := hy.list_inv
    exact ⟨l, m, us, ws, rfl, .inl ⟨.inl (rel2.sub.rd h1), .inl (rel2.sub.rd h3), q3 F2 H2 (Ex.refl _) rel2 _ (walks_zipL h1 h2 h3 h4)⟩⟩
  · cases hz
    obtain ⟨l, us, rfl, h1, h2⟩ := (hx.mono ex2).tup_inv
    obtain ⟨m, ws, rfl, h3, h4⟩ := hy.tup_inv
    exact ⟨l, m, us, ws, rfl, .inr ⟨rel2.sub.sqT h1, rel2.sub.sqT h3, q3 F2 H2 (Ex.refl _) rel2 _ (walks_zipT h1 h2 h3 h4)⟩⟩
theorem pi_enum' {elts : List Expr} {kk : Nat} {tpos : Pos} (hg : Gl X "enumerate") (hm : X.mg "enumerate" = none) (ha : PE X a (tV X.K xa W ev)) (hs : starEach [a] X.env = [(false, eval a X.env)]) :
    PI X (.Tuple elts kk tpos) (.Call (.Name "enumerate" p) [a] [] pos) (tI X.K xa W fun ρ => bindD (ev ρ) fun x ρ => R.ofO (enumO x) ρ) := by
  refine pi_weak (pi_enum hg hm (pa_cons (pe_toD ha) pa_nil hs) hs) fun σ H R ⟨e, F, ρ, rel, post⟩ => ?_
  simp only [bindD_dd] at post
  refine ⟨e, F, ρ, rel, (Post.bind post).imp fun dx ρ1 F1 H1 ex1 rel1 q x hx => ?_⟩
  obtain ⟨zs, hz, q3⟩ := q.ofO
  cases dx <;> first | (cases hz; done) | skip
  cases hz
  obtain ⟨l, us, rfl, h1, h2⟩ := hx.list_inv
  exact ⟨l, us, rfl, .inl (rel1.sub.rd h1), q3 F1 H1 (Ex.refl _) rel1 _ (walks_enum h1 h2)⟩
end

/-! ### statements -/
section
variable (K : PySem.W.Frag) (xa : Nat → Addr) (W : WX)
def PostS (e : Ent) (F : Hp) (D : Ends) (r : SR) : Prop := match r with
  | .nx ρ' => ∀ F' H' σ', Ex F F' → Rel K e F' H' ρ' σ' → D.nx σ' H'
  | .brk ρ' => ∀ F' H' σ', Ex F F' → Rel K e F' H' ρ' σ' → D.bk σ' H'
  | .ct ρ' => ∀ F' H' σ', Ex F F' → Rel K e F' H' ρ' σ' → D.ct σ' H'
  | .ret x ρ' => ∀ F' H' σ' v, Ex F F' → Rel K e F' H' ρ' σ' → VR K e F' H' ρ' σ' v x → D.rt v H'
  | .exc c none ρ' => ∀ F' H' σ', Ex F F' → Rel K e F' H' ρ' σ' → W (.ref (xa c)) none σ' H'
  | .exc _ (some _) _ => False
  | .bad => False
/-- only the caller's list may change -/
def EntF (e : Ent) : Prop := ∀ a, e.M a → e.pI = some a
def tS (ev : Env → SR) : TS := fun D σ H => ∃ e F ρ, EntF e ∧ Rel K e F H ρ σ ∧ PostS K xa W e F D (ev ρ)
end
section
variable {K : PySem.W.Frag} {xa : Nat → Addr} {W : WX} {e : Ent} {F F1 H : Hp} {σ : L2.St} {D : Ends} {α : Type}
theorem PostS.weak {r : SR} (ex : Ex F F1) (h : PostS K xa W e F D r) : PostS K xa W e F1 D r := by
  cases r with
  | nx ρ => exact fun F' H' σ' ex' rel => h F' H' σ' (ex.trans ex') rel
  | brk ρ => exact fun F' H' σ' ex' rel => h F' H' σ' (ex.trans ex') rel
  | ct ρ => exact fun F' H' σ' ex' rel => h F' H' σ' (ex.trans ex') rel
  | ret x ρ => exact fun F' H' σ' v ex' rel => h F' H' σ' v (ex.trans ex') rel
  | exc c x ρ =>
    cases x with
    | none => exact fun F' H' σ' ex' rel => h F' H' σ' (ex.trans ex') rel
    | some d => exact h
  | bad => exact h
theorem PostS.toS {r : R α} {f : α → Env → SR} (h : PostS K xa W e F D (r.toS f)) : Post K xa W e σ F r fun a ρ1 F1 H1 => PostS K xa W e F1 D (f a ρ1) := by
  cases r with
  | ok a ρ => exact fun F' H' ex rel => PostS.weak (r := f a ρ) ex h
  | exc c x ρ =>
    cases x with
    | none => exact fun F' H' ex rel => h F' H' σ ex rel
    | some d => exact h
  | bad => exact h
theorem PostS.bind {r : SR} {f : Env → SR} {N : L2.St → Hp → Prop} (h : PostS K xa W e F D (r.bind f)) (hN : ∀ ρ F' H' σ', Ex F F' → Rel K e F' H' ρ σ' → PostS K xa W e F' D (f ρ) → N σ' H') : PostS K xa W e F { D with nx := N } r := by
  cases r with
  | nx ρ => exact fun F' H' σ' ex rel => hN ρ F' H' σ' ex rel (PostS.weak ex h)
  | brk ρ => exact h
  | ct ρ => exact h
  | ret x ρ => exact h
  | exc c x ρ =>
    cases x with
    | none => exact h
    | some d => exact h
  | bad => exact h
end
section
variable {X : Cx} {a b c : Expr} {st : Stmt} {sts : List Stmt} {xa : Nat → Addr} {W : WX} {p pos : Pos} {ev : Env → R Val} {el : Env → R (List D)} {t : TE}
theorem pss_nil' : PSs X [] (tS X.K xa W fun ρ => .nx ρ) := pss_weak pss_nil fun D σ H ⟨e, F, ρ, ef, rel, post⟩ => post F H σ (Ex.refl F) rel
theorem pss_cons' {es : Env → SR} {er : Env → SR} (h : PS X st (tS X.K xa W es)) (hr : PSs X sts (tS X.K xa W er)) : PSs X (st :: sts) (tS X.K xa W fun ρ => (es ρ).bind er) := by
  refine pss_weak (pss_cons h hr) fun D σ H ⟨e, F, ρ, ef, rel, post⟩ => ⟨e, F, ρ, ef, rel, ?_⟩
  exact PostS.bind post fun ρ1 F1 H1 σ1 ex1 rel1 q => ⟨e, F1, ρ1, ef, rel1, q⟩
theorem ps_pass' : PS X (.Pass pos) (tS X.K xa W fun ρ => .nx ρ) := ps_weak ps_pass fun D σ H ⟨e, F, ρ, ef, rel, post⟩ => post F H σ (Ex.refl F) rel
theorem ps_brk' : PS X (.Break pos) (tS X.K xa W fun ρ => .brk ρ) := ps_weak ps_break fun D σ H ⟨e, F, ρ, ef, rel, post⟩ => post F H σ (Ex.refl F) rel
theorem ps_ct' : PS X (.Continue pos) (tS X.K xa W fun ρ => .ct ρ) := ps_weak ps_continue fun D σ H ⟨e, F, ρ, ef, rel, post⟩ => post F H σ (Ex.refl F) rel
theorem ps_retN' : PS X (.Return none pos) (tS X.K xa W fun ρ => .ret (.pv .none) ρ) := ps_weak ps_retN fun D σ H ⟨e, F, ρ, ef, rel, post⟩ => post F H σ .non (Ex.refl F) rel .non
theorem ps_ret' (h : PE X a (tV X.K xa W ev)) : PS X (.Return (some a) pos) (tS X.K xa W fun ρ => (ev ρ).toS fun x ρ => .ret x ρ) := by
  refine ps_weak (ps_ret h) fun D σ H ⟨e, F, ρ, ef, rel, post⟩ => ⟨e, F, ρ, rel, (PostS.toS post).imp fun x ρ1 F1 H1 ex1 rel1 q v hv => ?_⟩
  exact q F1 H1 σ v (Ex.refl _) rel1 hv
theorem Rel.unset {K : PySem.W.Frag} {e : Ent} {F H : Hp} {ρ : Env} {σ : L2.St} {i : Nat} (r : Rel K e F H ρ σ) (hi : i < ρ.length) : Rel K e F H (ρ.set i none) σ :=
  ⟨by rw [List.length_set]; exact r.len, r.sub0, r.sub, fun j t ht => by
    by_cases hj : i = j
    · subst hj; rw [List.getElem?_set_self hi] at ht; cases ht
    · rw [List.getElem?_set_ne hj] at ht; exact r.slot j t ht, fun j k t u b hjk h1 h2 => by
    by_cases hj : i = j
    · subst hj; rw [List.getElem?_set_self hi] at h1; cases h1
    · by_cases hk : i = k
      · subst hk; rw [List.getElem?_set_self hi] at h2; cases h2
      · rw [List.getElem?_set_ne hj] at h1; rw [List.getElem?_set_ne hk] at h2; exact r.dis j k t u b hjk h1 h2, r.frm, r.old, r.mh, r.pm⟩
theorem ps_retv' {i : Nat} (h : PE X a (tVar i)) : PS X (.Return (some a) pos) (tS X.K xa W fun ρ => retV ρ i) := by
  refine ps_weak (ps_ret h) fun D σ H ⟨e, F, ρ, ef, rel, post⟩ => ?_
  have post : PostS X.K xa W e F D (retV ρ i) := post
  have other : ∀ s, ρ[i]? = some (some s) → (∀ xs, s ≠ .raw xs) → PostS X.K xa W e F D (.ret (.pv s.dat) (ρ.set i (some s.frozen))) → tRet (tVar i) D σ H := fun s hs hn post => by
    obtain ⟨F1, v, ex1, hv, rep, rel1⟩ := rel.freeze hs hn
    exact ⟨v, hv, post F1 H σ v ex1 rel1 rep⟩
  unfold retV at post
  split at post
  · rename_i xs hs
    have hi : i < ρ.length := (List.getElem?_eq_some_iff.mp hs).1
    obtain ⟨v, hv, q, us, rfl, q1, q2, q3, q4, q5⟩ := rel.slot i _ hs
    have hM : ¬ e.M q := fun h => q5 (ef q h)
    refine ⟨_, hv, post F H σ _ (Ex.refl F) (rel.unset hi) ⟨q, us, rfl, q1, q2, q3, q4.resolve_left hM, hM, q5, fun j t ht htm hσ => ?_⟩⟩
    by_cases hj : i = j
    · subst hj; rw [List.getElem?_set_self hi] at ht; cases ht
    · rw [List.getElem?_set_ne hj] at ht
      exact rel.dis i j _ t q hj hs ht rfl htm hv hσ
  · exact post.elim
  · rename_i s hne hn hs
    exact other s hs (fun xs z => hn xs (by rw [z])) post
  · exact post.elim
theorem ps_expr' (h : PE X a (tV X.K xa W ev)) (hs : swapsWith a none pos.line X.env = pure false) : PS X (.Expr a pos) (tS X.K xa W fun ρ => (ev ρ).toS fun _ ρ => .nx ρ) := by
  refine ps_weak (ps_expr h hs) fun D σ H ⟨e, F, ρ, ef, rel, post⟩ => ⟨e, F, ρ, rel, (PostS.toS post).imp fun x ρ1 F1 H1 ex1 rel1 q v hv => ?_⟩
  exact q F1 H1 σ (Ex.refl _) rel1
theorem ps_ite' {ec : Env → R Bool} {ea eb : Env → SR} {sa sb : List Stmt} (hc : PT X c (tBo X.K xa W ec)) (ha : PSs X sa (tS X.K xa W ea)) (hb : PSs X sb (tS X.K xa W eb)) : PS X (.If c sa sb pos) (tS X.K xa W fun ρ => (ec ρ).toS fun t ρ => iteS t (ea ρ) (eb ρ)) := by
  refine ps_weak (ps_if hc ha hb) fun D σ H ⟨e, F, ρ, ef, rel, post⟩ => ⟨e, F, ρ, rel, (PostS.toS post).imp fun t ρ1 F1 H1 ex1 rel1 q => ?_⟩
  cases t with
  | true => exact iteT ⟨e, F1, ρ1, ef, rel1, q⟩
  | false => exact iteF ⟨e, F1, ρ1, ef, rel1, q⟩
/-- x = e -/
theorem ps_asgN {i : Nat} (h : PS X st (tAsg t (gName i))) (hr : ∀ σ H Q, tV X.K xa W ev σ H Q → t σ H Q) : PS X st (tS X.K xa W fun ρ => (ev ρ).toS fun x ρ => asgV ρ (.n i) x) := by
  refine ps_weak h fun D σ H ⟨e, F, ρ, ef, rel, post⟩ => hr σ H _ ⟨e, F, ρ, rel, (PostS.toS post).imp fun x ρ1 F1 H1 ex1 rel1 q v hv => ?_⟩
  have q : PostS X.K xa W e F1 D (toNx (putV ρ1 i x)) := q
  cases hp : putV ρ1 i x with
  | ok u ρ2 =>
    rw [hp] at q
    exact q F1 H1 _ (Ex.refl _) (rel1.put hv hp).1
  | exc c y ρ2 => rw [hp] at q; unfold putV at hp; split at hp <;> cases hp
  | bad => rw [hp] at q; exact q.elim
theorem putAll_exc : ∀ {is : List Nat} {ds : List D} {ρ : Env} {c : Nat} {x : Option D} {ρ' : Env}, putAll ρ is ds ≠ .exc c x ρ'
  | [], [], _, _, _, _ => fun h => nomatch h
  | [], _ :: _, _, _, _, _ => fun h => nomatch h
  | _ :: _, [], _, _, _, _ => fun h => nomatch h
  | i :: is, d :: ds, ρ, c, x, ρ' => fun h => by
    have h : (putD ρ i d).bind (fun _ ρ => putAll ρ is ds) = .exc c x ρ' := h
    unfold putD putV at h
    split at h
    · exact putAll_exc (is := is) (ds := ds) h
    · cases h
theorem putT_exc {tg : Tg} {d : D} {ρ : Env} {c : Nat} {x : Option D} {ρ' : Env} : putT ρ tg d ≠ .exc c x ρ' := fun h => by
  cases tg with
  | n i =>
    have h : putD ρ i d = .exc c x ρ' := h
    unfold putD putV at h
    split at h <;> cases h
  | t is =>
    cases d with
    | list ds => have h : (if ds.length = is.length then putAll ρ is ds else .bad) = .exc c x ρ' := h; split at h; exact putAll_exc h; cases h
    | tuple ds => have h : (if ds.length = is.length then putAll ρ is ds else .bad) = .exc c x ρ' := h; split at h; exact putAll_exc h; cases h
    | _ => cases h
theorem tG_of {e : Ent} {F H : Hp} {ρ : Env} {σ : L2.St} {tg : Tg} {d : D} {v : V} {Q : L2.St → Hp → Prop} {f : Env → SR} {D : Ends} (rel : Rel X.K e F H ρ σ) (rep : Rep X.K F v d) (h : PostS X.K xa W e F D ((putT ρ tg d).toS fun _ ρ => f ρ))
    (k : ∀ ρ' σ', Chg tg.slots σ σ' → Rel X.K e F H ρ' σ' → PostS X.K xa W e F D (f ρ') → Q σ' H) : tG X.K tg v σ H Q := by
  refine ⟨e, F, ρ, d, rel, rep, ?_⟩
  cases hp : putT ρ tg d with
  | ok u ρ' => rw [hp] at h; exact fun σ' c r => k ρ' σ' c r h
  | exc c x ρ' => exact absurd hp putT_exc
  | bad => rw [hp] at h; exact h.elim
/-- a, b = e -/
theorem ps_asgT {is : List Nat} {tge : Expr} (he : PE X a (tV X.K xa W ev)) (hg : PG X tge (tG X.K (.t is))) (hs : swapsWithSole [tge] a pos.line X.env = pure false) (hw : swappedStores [tge] a X.env = pure none) (h1 : (assignEach [tge] X.env).map (·.2) = [assign tge X.env]) :
    PS X (.Assign [tge] a pos) (tS X.K xa W fun ρ => (ev ρ).toS fun x ρ => asgV ρ (.t is) x) := by
  refine ps_weak (ps_asg (pe_toD he) hg hs hw h1) fun D σ H ⟨e, F, ρ, ef, rel, post⟩ => ⟨e, F, ρ, rel, ?_⟩
  have post : PostS X.K xa W e F D ((ev ρ).toS fun x ρ => toNx (putT ρ (.t is) x.dat)) := post
  have e1 : ((ev ρ).toS fun x ρ => toNx (putT ρ (.t is) x.dat)) = (dd (ev ρ)).toS fun x ρ => toNx (putT ρ (.t is) x) := by cases ev ρ <;> rfl
  rw [e1] at post
  exact (PostS.toS post).imp fun d ρ1 F1 H1 ex1 rel1 q v hv => tG_of (f := fun ρ => .nx ρ) rel1 hv q fun ρ' σ' _ rel' q' => q' F1 H1 σ' (Ex.refl _) rel'
theorem par_put {e : Ent} {F H : Hp} {D : Ends} : ∀ {is : List Nat} {ds : List PyData} {ρ : Env}, PostS X.K xa W e F D (toNx (putAll ρ is ds)) → ∃ ρ', putAll ρ is ds = .ok () ρ' ∧ PostS X.K xa W e F D (.nx ρ') := fun {is ds ρ} h => by
  cases hp : putAll ρ is ds with
  | ok u ρ' => rw [hp] at h; exact ⟨ρ', rfl, h⟩
  | exc c x ρ' => exact absurd hp putAll_exc
  | bad => rw [hp] at h; exact h.elim
theorem put_cons {ρ ρ' : Env} {i : Nat} {is : List Nat} {d : D} {ds : List D} (h : putAll ρ (i :: is) (d :: ds) = .ok () ρ') : ∃ ρ1, putD ρ i d = .ok () ρ1 ∧ putAll ρ1 is ds = .ok () ρ' := by
  have h : (putD ρ i d).bind (fun _ ρ => putAll ρ is ds) = .ok () ρ' := h
  cases hp : putD ρ i d with
  | ok u ρ1 => rw [hp] at h; exact ⟨ρ1, rfl, h⟩
  | exc c x ρ1 => rw [hp] at h; cases h
  | bad => rw [hp] at h; cases h
theorem ps_par2' {i j : Nat} (hl : LenIs el 2) (h : PS X st (tPar i j (tL X.K xa W el))) : PS X st (tS X.K xa W fun ρ => (el ρ).toS fun ds ρ => toNx (putAll ρ [i, j] ds)) := by
  refine ps_weak h fun D σ H ⟨e, F, ρ, ef, rel, post⟩ => ⟨e, F, ρ, rel, (post_len hl (PostS.toS post)).imp fun ds ρ1 F1 H1 ex1 rel1 ⟨hln, q⟩ vs hvs => ?_⟩
  match ds, hln, hvs with
  | [d1, d2], _, .cons r1 (.cons r2 .nil) =>
    obtain ⟨ρ2, hp, q⟩ := par_put (H := H1) q
    obtain ⟨ρa, h1, hp⟩ := put_cons hp
    obtain ⟨ρb, h2, hp⟩ := put_cons hp
    cases hp
    have relA := (rel1.put (x := .pv d1) r1 h1).1
    have relB := (relA.put (x := .pv d2) r2 h2).1
    exact ⟨_, _, rfl, q F1 H1 _ (Ex.refl _) relB⟩
theorem ps_par3' {i j l : Nat} (hl : LenIs el 3) (h : PS X st (tPar3 i j l (tL X.K xa W el))) : PS X st (tS X.K xa W fun ρ => (el ρ).toS fun ds ρ => toNx (putAll ρ [i, j, l] ds)) := by
  refine ps_weak h fun D σ H ⟨e, F, ρ, ef, rel, post⟩ => ⟨e, F, ρ, rel, (post_len hl (PostS.toS post)).imp fun ds ρ1 F1 H1 ex1 rel1 ⟨hln, q⟩ vs hvs => ?_⟩
  match ds, hln, hvs with
  | [d1, d2, d3], _, .cons r1 (.cons r2 (.cons r3 .nil)) =>
    obtain ⟨ρ2, hp, q⟩ := par_put (H := H1) q
    obtain ⟨ρa, h1, hp⟩ := put_cons hp
    obtain ⟨ρb, h2, hp⟩ := put_cons hp
    obtain ⟨ρc, h3, hp⟩ := put_cons hp
    cases hp
    have relA := (rel1.put (x := .pv d1) r1 h1).1
    have relB := (relA.put (x := .pv d2) r2 h2).1
    have relC := (relB.put (x := .pv d3) r3 h3).1
    exact ⟨_, _, _, rfl, q F1 H1 _ (Ex.refl _) relC⟩
/-- x += e -/
theorem ps_aug' {i : Nat} {o : BOp} {f : Int → Int → Int} (h : PS X st (tAug i (tD X.K xa W fun ρ => dd (ev ρ)) (ipI f))) (hf : ∀ x y z, augD o x y = some z → ∃ a b, x = .int a ∧ y = .int b ∧ z = .int (f a b)) :
    PS X st (tS X.K xa W fun ρ => ((lookV ρ i).bind fun x ρ => bindD (ev ρ) fun y ρ => R.ofO (augD o x y) ρ).toS fun z ρ => toNx (putD ρ i z)) := by
  refine ps_weak h fun D σ H ⟨e, F, ρ, ef, rel, post⟩ => ?_
  have post := PostS.toS (σ := σ) post
  obtain ⟨s, hs, hn, post⟩ := lookV_some post
  obtain ⟨v, hv, pk⟩ := rel.look hs hn
  simp only [bindD_dd] at post
  refine ⟨v, hv, e, F, ρ, rel, (Post.bind post).imp fun dy ρ1 F1 H1 ex1 rel1 q y hy => ?_⟩
  obtain ⟨z, hz, q2⟩ := q.ofO
  obtain ⟨a, b, h1, rfl, rfl⟩ := hf _ _ _ hz
  rw [h1] at pk
  refine ⟨a, b, (pk.plain fun ys z => nomatch z).int_inv, hy.int_inv, ?_⟩
  have q3 := q2 F1 H1 (Ex.refl _) rel1
  have q3 : PostS X.K xa W e F1 D (toNx (putV ρ1 i (.pv (.int (f a b))))) := q3
  cases hp : putV ρ1 i (.pv (.int (f a b))) with
  | ok u ρ2 =>
    rw [hp] at q3
    exact q3 F1 H1 _ (Ex.refl _) (rel1.put (x := .pv (.int (f a b))) (.int _) hp).1
  | exc c y ρ2 => rw [hp] at q3; unfold putV at hp; split at hp <;> cases hp
  | bad => rw [hp] at q3; exact q3.elim
end
end Pv

namespace Pv
open PySem L2 PyProof.Rows
section
variable {X : Cx} {a b c : Expr} {st : Stmt} {sts : List Stmt} {xa : Nat → Addr} {W : WX} {p pos : Pos} {ev eb : Env → R Val} {el : Env → R (List D)} {t : TE}
theorem own_at {K : PySem.W.Frag} {e : Ent} {F H : Hp} {ρ : Env} {σ : L2.St} {i : Nat} {xs : List D} (rel : Rel K e F H ρ σ) (hi : ioArg ρ i = some xs) : ∃ s p us, ρ[i]? = some (some s) ∧ (s = .own xs ∨ s = .io xs) ∧ σ[i]? = some (some (.ref p)) ∧ H p = some (.lst us) ∧ Reps K F us xs := by
  rcases ioArg_some hi with hs | hs
  · obtain ⟨v, hv', p, us, rfl, q1, q2, q3, _⟩ := rel.slot i _ hs
    exact ⟨_, p, us, hs, .inl rfl, hv', q2, q3⟩
  · obtain ⟨v, hv', p, us, rfl, q1, q2, q3, _⟩ := rel.slot i _ hs
    exact ⟨_, p, us, hs, .inr rfl, hv', q2, q3⟩
/-- x.append(e) -/
theorem ps_app' {i : Nat} (h : PS X st (tDrop (tBM X.K "list" rAppend (tVar i) (tCons (tD X.K xa W fun ρ => dd (ev ρ)) tNil)))) :
    PS X st (tS X.K xa W fun ρ => (R.ofO (ioArg ρ i) ρ).toS fun _ ρ => (dd (ev ρ)).toS fun y ρ => addX ρ i y) := by
  refine ps_weak h fun D σ H ⟨e, F, ρ, ef, rel, post⟩ => ?_
  have post : PostS X.K xa W e F D ((R.ofO (ioArg ρ i) ρ).toS fun _ ρ => (dd (ev ρ)).toS fun y ρ => addX ρ i y) := post
  cases hi : ioArg ρ i with
  | none => rw [hi] at post; exact post.elim
  | some xs0 =>
    rw [hi] at post
    have post : PostS X.K xa W e F D ((dd (ev ρ)).toS fun y ρ => addX ρ i y) := post
    obtain ⟨s, q, us, hs, hss, hσ, hH, hR⟩ := own_at rel hi
    refine ⟨_, hσ, .inl ⟨rfl, us, .inl (.inl hH)⟩, e, F, ρ, rel, (PostS.toS post).imp fun dy ρ1 F1 H1 ex1 rel1 q2 y hy => ?_⟩
    have fin : ∀ (xs : List PyData) (s' : Slot), ioArg ρ1 i = some xs → xs.length < LIM → ((ρ1[i]? = some (some (.own xs)) ∧ s' = .own (xs ++ [dy])) ∨ (ρ1[i]? = some (some (.io xs)) ∧ s' = .io (xs ++ [dy]))) → PostS X.K xa W e F1 D (.nx (ρ1.set i (some s'))) → rAppend (.ref q) [y] H1 fun _ H2 => D.nx σ H2 := fun xs s' hi1 hl hc q3 => by
      obtain ⟨s1, p1, us1, hs1, hss1, hσ1, hH1, hR1⟩ := own_at rel1 hi1
      rw [hσ] at hσ1
      cases hσ1
      refine ⟨q, us1, y, rfl, rfl, hH1, by rw [hR1.length]; exact lim_lt hl, ?_⟩
      refine q3 F1 _ σ (Ex.refl _) (rel1.write (s := s1) (s' := s') (xs' := xs ++ [dy]) hs1 ?_ hσ (hR1.append (.cons hy .nil)))
      rcases hc with ⟨h1, h2⟩ | ⟨h1, h2⟩
      · rw [h1] at hs1; cases hs1; exact .inl ⟨xs, rfl, h2⟩
      · rw [h1] at hs1; cases hs1; exact .inr ⟨xs, rfl, h2⟩
    unfold addX at q2
    split at q2
    · rename_i xs hs1
      split at q2
      · rename_i hl
        exact fin xs _ (by unfold ioArg; rw [hs1]) hl (.inl ⟨hs1, rfl⟩) q2
      · exact q2.elim
    · rename_i xs hs1
      split at q2
      · rename_i hl
        exact fin xs _ (by unfold ioArg; rw [hs1]) hl (.inr ⟨hs1, rfl⟩) q2
      · exact q2.elim
    · exact q2.elim
/-- x[i] = e -/
theorem ps_set' {i : Nat} {tge : Expr} (he : PE X a (tV X.K xa W ev)) (hg : PG X tge (gSub (tVar i) (tD X.K xa W fun ρ => dd (eb ρ)) rSetL)) (hs : swapsWithSole [tge] a pos.line X.env = pure false) (hw : swappedStores [tge] a X.env = pure none) (h1 : (assignEach [tge] X.env).map (·.2) = [assign tge X.env]) :
    PS X (.Assign [tge] a pos) (tS X.K xa W fun ρ => (bindD (ev ρ) fun d ρ => (lookV ρ i).bind fun _ ρ => bindD (eb ρ) fun j ρ => R.ok (d, j) ρ).toS fun p ρ => putX ρ i p.2 p.1) := by
  refine ps_weak (ps_asg (pe_toD he) hg hs hw h1) fun D σ H ⟨e, F, ρ, ef, rel, post⟩ => ⟨e, F, ρ, rel, ?_⟩
  have post := PostS.toS (σ := σ) post
  simp only [bindD_dd] at post
  refine (Post.bind post).imp fun dv ρ1 F1 H1 ex1 rel1 q v hv => ?_
  obtain ⟨s, hs1, hn1, q⟩ := lookV_some q
  obtain ⟨o, ho, _⟩ := rel1.look hs1 hn1
  refine ⟨o, ho, e, F1, ρ1, rel1, (Post.bind q).imp fun dj ρ2 F2 H2 ex2 rel2 q2 j hj => ?_⟩
  have q2 : PostS X.K xa W e F2 D (putX ρ2 i dj dv) := q2 F2 H2 (Ex.refl _) rel2
  have fin : ∀ (xs ys : List PyData) (s s' : Slot) (k : Int), ρ2[i]? = some (some s) → (s = .own xs ∧ s' = .own ys ∨ s = .io xs ∧ s' = .io ys) → dj = .int k → setAt? xs k dv = some ys → PostS X.K xa W e F2 D (.nx (ρ2.set i (some s'))) → rSetL o j v H2 fun H3 => D.nx σ H3 := fun xs ys s s' k hs2 hss hk hset q3 => by
    have hi : ioArg ρ2 i = some xs := by
      unfold ioArg
      rw [hs2]
      rcases hss with ⟨rfl, _⟩ | ⟨rfl, _⟩ <;> rfl
    obtain ⟨s1, p1, us1, hs3, hss1, hσ1, hH1, hR1⟩ := own_at rel2 hi
    rw [ho] at hσ1
    cases hσ1
    unfold setAt? at hset
    obtain ⟨m, hm, rfl⟩ := Option.map_eq_some_iff.mp hset
    subst hk
    refine ⟨p1, us1, k, m, rfl, hj.int_inv, hH1, by rw [hR1.length]; exact hm, ?_⟩
    refine q3 F2 _ σ (Ex.refl _) (rel2.write (s := s) (s' := s') (xs' := xs.set m dv) hs2 ?_ ho (hR1.set m (hv.mono ex2)))
    rcases hss with ⟨h1, h2⟩ | ⟨h1, h2⟩
    · exact .inl ⟨xs, h1, h2⟩
    · exact .inr ⟨xs, h1, h2⟩
  unfold putX at q2
  split at q2
  · rename_i xs k hs2 _
    split at q2
    · rename_i ys hy
      exact fin xs ys _ _ k hs2 (.inl ⟨rfl, rfl⟩) rfl hy q2
    · exact q2.elim
  · rename_i xs k hs2 _
    split at q2
    · rename_i ys hy
      exact fin xs ys _ _ k hs2 (.inr ⟨rfl, rfl⟩) rfl hy q2
    · exact q2.elim
  · exact q2.elim
/-- while -/
theorem ps_whl' {ec : Env → R Bool} {es : Env → SR} {body : List Stmt} (hp : PassesOwn (model X.prog X.w) X.A X.env X.xe) (hc : PT X c (tBo X.K xa W ec)) (hb : PSs X body (tS X.K xa W es)) : PS X (.While c body [] pos) (tS X.K xa W fun ρ => whl ec es ρ) := by
  refine ps_weak (ps_while hp hc hb) fun D σ H ⟨e, F, ρ, ef, rel, post⟩ => ?_
  have post : PostS X.K xa W e F D (whl ec es ρ) := post
  have hne : whl ec es ρ ≠ .bad := fun z => by rw [z] at post; exact post
  obtain ⟨n, hn⟩ := whl_ends hne
  refine ⟨fun m σ' H' => ∃ F' ρ' r, Ex F F' ∧ Rel X.K e F' H' ρ' σ' ∧ whlF ec es m ρ' = some r ∧ PostS X.K xa W e F' D r, ⟨n, F, ρ, _, Ex.refl F, rel, hn, post⟩, fun m σ' H' ⟨F', ρ', r, ex, rel', hr, post'⟩ => ?_⟩
  cases m with
  | zero => cases hr
  | succ m =>
    unfold whlF at hr
    refine ⟨e, F', ρ', rel', ?_⟩
    cases he : ec ρ' with
    | bad => rw [he] at hr; cases hr; exact post'.elim
    | exc c x ρ1 =>
      rw [he] at hr
      cases hr
      cases x with
      | none => exact fun F1 H1 ex1 rel1 => post' F1 H1 σ' ex1 rel1
      | some d => exact post'.elim
    | ok b ρ1 =>
      rw [he] at hr
      intro F1 H1 ex1 rel1
      cases b with
      | false =>
        cases hr
        exact iteF (post' F1 H1 σ' ex1 rel1)
      | true =>
        refine iteT ⟨fun σ2 H2 => ∃ F2 ρ2 r, Ex F F2 ∧ Rel X.K e F2 H2 ρ2 σ2 ∧ whlF ec es m ρ2 = some r ∧ PostS X.K xa W e F2 D r, fun σ2 H2 h => ⟨m, by omega, h⟩, e, F1, ρ1, ef, rel1, ?_⟩
        cases hs : es ρ1 with
        | nx ρ2 => simp only [hs] at hr; exact fun F2 H2 σ2 ex2 rel2 => ⟨F2, ρ2, r, (ex.trans ex1).trans ex2, rel2, hr, PostS.weak (ex1.trans ex2) post'⟩
        | ct ρ2 => simp only [hs] at hr; exact fun F2 H2 σ2 ex2 rel2 => ⟨F2, ρ2, r, (ex.trans ex1).trans ex2, rel2, hr, PostS.weak (ex1.trans ex2) post'⟩
        | brk ρ2 => simp only [hs] at hr; cases hr; exact fun F2 H2 σ2 ex2 rel2 => post' F2 H2 σ2 (ex1.trans ex2) rel2
        | ret x ρ2 => simp only [hs] at hr; cases hr; exact fun F2 H2 σ2 v ex2 rel2 => post' F2 H2 σ2 v (ex1.trans ex2) rel2
        | exc c x ρ2 =>
          simp only [hs] at hr
          cases hr
          cases x with
          | none => exact fun F2 H2 σ2 ex2 rel2 => post' F2 H2 σ2 (ex1.trans ex2) rel2
          | some d => exact post'.elim
        | bad => simp only [hs] at hr; cases hr; exact post'.elim
theorem yl_rel {e : Ent} {F H H' : Hp} {ρ : Env} {σ : L2.St} {x : V} {d : D} (rel : Rel X.K e F H ρ σ) (y : Yl X.K F H x H' d) : ∃ F', Ex F F' ∧ Rel X.K e F' H' ρ σ ∧ Rep X.K F' x d := by
  rcases y with ⟨rfl, h⟩ | ⟨T, us, ds, rfl, hT, rfl, rfl, h⟩
  · exact ⟨F, Ex.refl F, rel, h⟩
  · have hF := rel.noneF hT
    exact ⟨_, Ex.new hF, rel.new hT, .tup (.inl (.inl upd_same)) (Reps.mono (Ex.new hF) h)⟩
/-- for -/
theorem ps_for' {tg : Tg} {tge it : Expr} {body : List Stmt} {es : Env → SR} (hp : PassesOwn (model X.prog X.w) X.A X.env X.xe) (hc : X.calm = true) (hi : PI X tge it (tI X.K xa W el)) (hg : PG X tge (tG X.K tg)) (hb : PSs X body (tS X.K xa W es)) (hs : ∀ x, foldedSetIterable it X.env x = pure x) :
    PS X (.For tge it body [] pos) (tS X.K xa W fun ρ => (el ρ).toS fun xs ρ => forGo (fun x ρ => (putT ρ tg x).toS fun _ ρ => es ρ) xs ρ) := by
  refine ps_weak (ps_for hp hc hi hg hb hs) fun D σ H ⟨e, F, ρ, ef, rel, post⟩ => ⟨e, F, ρ, rel, (PostS.toS post).imp fun ds ρ1 F1 H1 ex1 rel1 q J hJ => ?_⟩
  refine ⟨fun i m σ' H' => m = ds.length - i ∧ i ≤ ds.length ∧ ∃ F' ρ', Ex F1 F' ∧ Rel X.K e F' H' ρ' σ' ∧ PostS X.K xa W e F' D (forGo (fun x ρ => (putT ρ tg x).toS fun _ ρ => es ρ) (ds.drop i) ρ'), ⟨ds.length, by simp, Nat.zero_le _, F1, ρ1, Ex.refl _, rel1, by simpa using q⟩, ?_⟩
  rintro i m σ' H' ⟨rfl, hi, F', ρ', ex, rel', post'⟩
  by_cases hlt : i < ds.length
  · have hd : ds[i]? = some ds[i] := List.getElem?_eq_getElem hlt
    obtain ⟨hgo, hy⟩ := hJ.1 i ds[i] H' hd (ex.trans rel'.sub)
    refine .inr ⟨hgo, fun σ2 H2 => ∃ F2 ρ2, Ex F1 F2 ∧ Rel X.K e F2 H2 ρ2 σ2 ∧ PostS X.K xa W e F2 D (forGo (fun x ρ => (putT ρ tg x).toS fun _ ρ => es ρ) (ds.drop (i + 1)) ρ2), fun σ2 H2 ⟨F2, ρ2, a1, a2, a3⟩ => ⟨ds.length - (i + 1), by omega, rfl, hlt, F2, ρ2, a1, a2, a3⟩, fun x H2 hx => ?_⟩
    have yl : Yl X.K F' H' x H2 ds[i] := by
      rcases hy x H2 hx with ⟨h1, h2⟩ | ⟨T, us, zs, h1, h2, h3, h4, h5⟩
      · exact .inl ⟨h1, h2.mono ex⟩
      · exact .inr ⟨T, us, zs, h1, h2, h3, h4, Reps.mono ex h5⟩
    obtain ⟨F2, ex2, rel2, rep⟩ := yl_rel rel' yl
    rw [List.drop_eq_getElem_cons hlt] at post'
    have post2 := PostS.weak ex2 post'
    unfold forGo at post2
    have pd : PostS X.K xa W e F2 { D with nx := fun σ2 H2 => ∃ F2 ρ2, Ex F1 F2 ∧ Rel X.K e F2 H2 ρ2 σ2 ∧ PostS X.K xa W e F2 D (forGo (fun x ρ => (putT ρ tg x).toS fun _ ρ => es ρ) (ds.drop (i + 1)) ρ2), ct := fun σ2 H2 => ∃ F2 ρ2, Ex F1 F2 ∧ Rel X.K e F2 H2 ρ2 σ2 ∧ PostS X.K xa W e F2 D (forGo (fun x ρ => (putT ρ tg x).toS fun _ ρ => es ρ) (ds.drop (i + 1)) ρ2), bk := D.nx } ((putT ρ' tg ds[i]).toS fun _ ρ => es ρ) := by
      cases hr : (putT ρ' tg ds[i]).toS fun _ ρ => es ρ with
      | nx ρ3 => simp only [hr] at post2; exact fun F3 H3 σ3 ex3 rel3 => ⟨F3, ρ3, (ex.trans ex2).trans ex3, rel3, PostS.weak ex3 post2⟩
      | ct ρ3 => simp only [hr] at post2; exact fun F3 H3 σ3 ex3 rel3 => ⟨F3, ρ3, (ex.trans ex2).trans ex3, rel3, PostS.weak ex3 post2⟩
      | brk ρ3 => simp only [hr] at post2; exact post2
      | ret x ρ3 => simp only [hr] at post2; exact post2
      | exc c x ρ3 =>
        simp only [hr] at post2
        cases x with
        | none => exact post2
        | some d => exact post2
      | bad => simp only [hr] at post2; exact post2
    exact tG_of rel2 rep pd fun ρ3 σ3 _ rel3 q3 => ⟨e, F2, ρ3, ef, rel3, q3⟩
  · have e1 : i = ds.length := by omega
    subst e1
    rw [List.drop_length] at post'
    exact .inl ⟨hJ.2 H' (ex.trans rel'.sub), post' F' H' σ' (Ex.refl _) rel'⟩
/-! ### raise -/
theorem pmk_own0 {C : Addr} {bmB : List Value} {B newId initId : String} {x : Str} {p pos : Pos} (F : ExcBaseFacts B newId initId bmB) (q : PySem.W.excIn X.K C bmB newId = true) (gC : X.mg x = some (.ref C)) (kC : PySem.W.keepIn X.K (.ref C) = true) (r : Raises X (.ref C)) (hg : Gl X x)
    (hdb : (x == ("__debug__" : Str)) = false) : PMk X (.Call (.Name x p) [] [] pos) (fun _ H Q => Q (.ref C) none H) := by
  intro pins s σ H Q I h
  refine wpAny_Call_Name_kw (ld_glob I hg gC ?_ hdb)
  refine PySem.W.callWith_K0 I.kIn kC ?_
  show wpAny _ _ (call (.ref C) []) _ _ _
  obtain ⟨bm, N, nm, qn, bs, hdct, sn, sub, ab, col, dd, k0, k1, k2, k3, k5, mN, hC, hN, hni, T⟩ := exc_obj I.kIn q
  refine wpAny_call_exc_subT F T hC hN hni (fun h' e hm => ?_) (Nat.zero_le _)
  exact mk_of I hm r h (I.hok.gone hm.new)
theorem ps_raise0 {c : Nat} (hc : X.calm = true) (tk : Takes X W) (h : PMk X a (fun _ H Q => Q (.ref (xa c)) none H)) : PS X (.Raise (some a) none pos) (tS X.K xa W fun ρ => .exc c none ρ) :=
  ps_weak (ps_raise hc tk h) fun D σ H ⟨e, F, ρ, ef, rel, post⟩ => post F H σ (Ex.refl F) rel
theorem ps_bad {ev : Env → SR} (h : ∀ ρ, ev ρ = .bad) : PS X st (tS X.K xa W ev) := ps_weak ps_never fun D σ H ⟨e, F, ρ, ef, rel, post⟩ => by rw [h ρ] at post; exact post
end

/-! ### list comprehensions -/
theorem wipe_get {σ : L2.St} {i : Nat} : ∀ {is : List Nat}, i ∉ is → (wipe σ is)[i]? = σ[i]?
  | [], _ => rfl
  | j :: is, h => by
    unfold wipe
    rw [List.getElem?_set_ne (fun z => h (by rw [z]; exact List.mem_cons_self))]
    exact wipe_get fun z => h (List.mem_cons_of_mem _ z)
theorem wipeE_len (ρ : Env) : ∀ is : List Nat, (wipeE ρ is).length = ρ.length
  | [] => rfl
  | j :: is => by unfold wipeE; rw [List.length_set, wipeE_len ρ is]
theorem wipeE_get {ρ : Env} {i : Nat} : ∀ {is : List Nat}, i ∉ is → (wipeE ρ is)[i]? = ρ[i]?
  | [], _ => rfl
  | j :: is, h => by
    unfold wipeE
    rw [List.getElem?_set_ne (fun z => h (by rw [z]; exact List.mem_cons_self))]
    exact wipeE_get fun z => h (List.mem_cons_of_mem _ z)
theorem wipeE_some {ρ : Env} {i : Nat} {s : Slot} : ∀ {is : List Nat}, (wipeE ρ is)[i]? = some (some s) → i ∉ is
  | [], _ => fun h => nomatch h
  | j :: is, h => by
    unfold wipeE at h
    by_cases hj : j = i
    · subst hj
      cases hi : (wipeE ρ is)[j]? with
      | none =>
        have : (wipeE ρ is).length ≤ j := List.getElem?_eq_none_iff.mp hi
        rw [List.getElem?_eq_none (by rw [List.length_set]; exact this)] at h
        cases h
      | some t =>
        rw [List.getElem?_set_self (List.getElem?_eq_some_iff.mp hi).1] at h
        cases h
    · rw [List.getElem?_set_ne hj] at h
      intro z
      rcases List.mem_cons.mp z with z | z
      · exact hj z.symm
      · exact wipeE_some h z
theorem backE_len (ρ ρ' : Env) : ∀ is : List Nat, (backE ρ ρ' is).length = ρ'.length
  | [] => rfl
  | j :: is => by unfold backE; rw [List.length_set, backE_len ρ ρ' is]
theorem backE_out {ρ ρ' : Env} {i : Nat} : ∀ {is : List Nat}, i ∉ is → (backE ρ ρ' is)[i]? = ρ'[i]?
  | [], _ => rfl
  | j :: is, h => by
    unfold backE
    rw [List.getElem?_set_ne (fun z => h (by rw [z]; exact List.mem_cons_self))]
    exact backE_out fun z => h (List.mem_cons_of_mem _ z)
theorem backE_in {ρ ρ' : Env} {i : Nat} (hi : i < ρ'.length) : ∀ {is : List Nat}, i ∈ is → (backE ρ ρ' is)[i]? = some (ρ.getD i none)
  | [], h => nomatch h
  | j :: is, h => by
    unfold backE
    by_cases hj : j = i
    · subst hj
      rw [List.getElem?_set_self (by rw [backE_len]; exact hi)]
    · rw [List.getElem?_set_ne hj]
      exact backE_in hi ((List.mem_cons.mp h).resolve_left fun z => hj z.symm)
/-- the block's own beginning -/
def entB (e : Ent) (F H : Hp) (ρ : Env) (σ : L2.St) : Ent := ⟨F, H, fun a => (∃ (i : Nat) (s : Slot), ρ[i]? = some (some s) ∧ s.isM = true ∧ σ[i]? = some (some (.ref a))) ∨ e.pI = some a, e.pI⟩
section
variable {K : PySem.W.Frag} {e : Ent} {F F' H H' : Hp} {ρ ρ' : Env} {σ : L2.St} {is : List Nat}
theorem plain_at (h : plainAt ρ is = true) {i : Nat} (hi : i ∈ is) {s : Slot} (hs : ρ[i]? = some (some s)) : ∃ d, s = .v d := by
  have := List.all_eq_true.mp h i hi
  rw [hs] at this
  cases s with
  | v d => exact ⟨d, rfl⟩
  | _ => cases this
theorem Rel.block (r : Rel K e F H ρ σ) (hp : plainAt ρ is = true) : Rel K (entB e F H ρ σ) F H (wipeE ρ is) (wipe σ is) := by
  refine ⟨by rw [wipeE_len, wipe_length]; exact r.len, Ex.refl F, r.sub, fun i s hs => ?_, fun i j s t p hij h1 h2 m1 m2 hσ => ?_, fun a o h _ => h, fun a h _ _ => h, fun p hm => ?_, fun p hm => .inr hm⟩
  · have hn := wipeE_some hs
    rw [wipeE_get hn] at hs
    obtain ⟨v, hv, q⟩ := r.slot i s hs
    refine ⟨v, by rw [wipe_get hn]; exact hv, ?_⟩
    cases s with
    | v d => exact q
    | own xs =>
      obtain ⟨b, us, rfl, q1, q2, q3, q4, q5⟩ := q
      exact ⟨b, us, rfl, q1, q2, q3, .inl (.inl ⟨i, _, hs, rfl, hv⟩), q5⟩
    | io xs =>
      obtain ⟨b, us, rfl, q1, q2, q3, q4, q5⟩ := q
      exact ⟨b, us, rfl, q1, q2, q3, .inr q5, q5⟩
    | fz xs => exact q
    | raw xs => exact q
  · have n1 := wipeE_some h1
    have n2 := wipeE_some h2
    rw [wipeE_get n1] at h1
    rw [wipeE_get n2] at h2
    rw [wipe_get n1] at hσ
    rw [wipe_get n2]
    exact r.dis i j s t p hij h1 h2 m1 m2 hσ
  · rcases hm with ⟨i, s, hs, hm, hσ⟩ | hm
    · obtain ⟨v, hv, q⟩ := r.slot i s hs
      rw [hσ] at hv
      cases hv
      cases s with
      | v d => cases hm
      | own xs => obtain ⟨b, us, eb, _, q2, _⟩ := q; cases eb; rw [q2]; exact fun z => nomatch z
      | io xs => obtain ⟨b, us, eb, _, q2, _⟩ := q; cases eb; rw [q2]; exact fun z => nomatch z
      | fz xs => cases hm
      | raw xs => cases hm
    · exact r.mh p (r.pm p hm)
theorem entB_M (r : Rel K e F H ρ σ) {p : Addr} (hm : (entB e F H ρ σ).M p) : e.M p ∨ e.H0 p = none := by
  rcases hm with ⟨i, s, hs, hm, hσ⟩ | hm
  · obtain ⟨v, hv, q⟩ := r.slot i s hs
    rw [hσ] at hv
    cases hv
    cases s with
    | v d => cases hm
    | own xs => obtain ⟨b, us, eb, _, q2, _, q4, _⟩ := q; cases eb; exact q4
    | io xs => obtain ⟨b, us, eb, _, q2, _, q4, _⟩ := q; cases eb; exact .inl q4
    | fz xs => cases hm
    | raw xs => cases hm
  · exact .inl (r.pm p hm)
theorem Rel.back (r : Rel K e F H ρ σ) (hp : plainAt ρ is = true) {σ2 : L2.St} (hσ : Chg is (wipe σ is) σ2) (r' : Rel K (entB e F H ρ σ) F' H' ρ' σ2) : Rel K e F' H' (backE ρ ρ' is) σ := by
  have exF : Ex F F' := r'.sub0
  have l' : ρ'.length = σ.length := by rw [r'.len, hσ.1, wipe_length]
  have notM : ∀ a o, e.H0 a = some o → ¬ e.M a → ¬ (entB e F H ρ σ).M a := fun a o h1 h2 hm => by
    rcases entB_M r hm with h | h
    · exact h2 h
    · rw [h] at h1; cases h1
  have place : ∀ (i : Nat) (s : Slot), (backE ρ ρ' is)[i]? = some (some s) → (i ∈ is ∧ ρ[i]? = some (some s)) ∨ (i ∉ is ∧ ρ'[i]? = some (some s)) := fun i s h => by
    by_cases hi : i ∈ is
    · have hl : i < ρ'.length := by
        have := (List.getElem?_eq_some_iff.mp h).1
        rwa [backE_len] at this
      rw [backE_in hl hi] at h
      refine .inl ⟨hi, ?_⟩
      have hl2 : i < ρ.length := by rw [r.len, ← l']; exact hl
      rw [List.getD_eq_getElem?_getD, List.getElem?_eq_getElem hl2] at h
      rw [List.getElem?_eq_getElem hl2]
      exact h
    · rw [backE_out hi] at h
      exact .inr ⟨hi, h⟩
  refine ⟨by rw [backE_len]; exact l', r.sub0.trans exF, r'.sub, fun i s hs => ?_, fun i j s t p hij h1 h2 m1 m2 hv => ?_, fun a o h1 h2 => r'.frm a o (r.frm a o h1 h2) (notM a o h1 h2), fun a h1 h2 h3 => ?_, fun p hm z => ?_, r.pm⟩
  · rcases place i s hs with ⟨hi, hs⟩ | ⟨hi, hs⟩
    · obtain ⟨d, rfl⟩ := plain_at hp hi hs
      obtain ⟨v, hv, q⟩ := r.slot i _ hs
      exact ⟨v, hv, Rep.mono exF q⟩
    · obtain ⟨v, hv, q⟩ := r'.slot i s hs
      rw [hσ.2 i hi, wipe_get hi] at hv
      refine ⟨v, hv, ?_⟩
      have conv : ∀ b, ((entB e F H ρ σ).M b ∨ (entB e F H ρ σ).H0 b = none) → (e.M b ∨ e.H0 b = none) := fun b h => h.elim (entB_M r) fun h => (r.none0 h).symm
      cases s with
      | v d => exact q
      | own xs =>
        obtain ⟨b, us, rfl, q1, q2, q3, q4, q5⟩ := q
        exact ⟨b, us, rfl, q1, q2, q3, conv b q4, q5⟩
      | io xs =>
        obtain ⟨b, us, rfl, q1, q2, q3, q4, q5⟩ := q
        exact ⟨b, us, rfl, q1, q2, q3, r.pm b q5, q5⟩
      | fz xs => exact q
      | raw xs => exact q
  · rcases place i s h1 with ⟨hi, h1⟩ | ⟨hi, h1⟩
    · obtain ⟨d, rfl⟩ := plain_at hp hi h1
      cases m1
    · rcases place j t h2 with ⟨hj, h2⟩ | ⟨hj, h2⟩
      · obtain ⟨d, rfl⟩ := plain_at hp hj h2
        cases m2
      · have := r'.dis i j s t p hij h1 h2 m1 m2 (by rw [hσ.2 i hi, wipe_get hi]; exact hv)
        rw [hσ.2 j hj, wipe_get hj] at this
        exact this
  · cases h : e.H0 a with
    | none => exact absurd h h2
    | some o => exact r'.old a (r.old a h1 h2 h3) (by show H a ≠ none; rw [r.frm a o h h3]; exact fun z => nomatch z) (notM a o h h3)
  · cases h : H p with
    | none => exact r.mh p hm h
    | some o =>
      by_cases hM : (entB e F H ρ σ).M p
      · exact r'.mh p hM z
      · rw [r'.frm p o h hM] at z; cases z
end
end Pv

namespace Pv
open PySem L2 PyProof.Rows
section
variable {X : Cx} {a b c : Expr} {xa : Nat → Addr} {W : WX} {p pos : Pos}
def WF : WX := fun _ _ _ _ => False
theorem set_ext {σ σ' : L2.St} (hl : σ'.length = σ.length) {v : Nat} (h : ∀ j, j ≠ v → σ'[j]? = σ[j]?) : σ'.set v none = σ.set v none := by
  apply List.ext_getElem?
  intro j
  by_cases hj : v = j
  · subst hj
    by_cases hv : v < σ.length
    · rw [List.getElem?_set_self hv, List.getElem?_set_self (by rw [hl]; exact hv)]
    · rw [List.getElem?_eq_none (by rw [List.length_set]; omega), List.getElem?_eq_none (by rw [List.length_set]; omega)]
  · rw [List.getElem?_set_ne hj, List.getElem?_set_ne hj]
    exact h j (Ne.symm hj)
theorem wipe_get2 {σ : L2.St} {i : Nat} : ∀ {is : List Nat}, i ∈ is → (wipe σ is)[i]? = if i < σ.length then some none else none
  | [], h => nomatch h
  | j :: is, h => by
    unfold wipe
    by_cases hj : j = i
    · subst hj
      by_cases hi : j < σ.length
      · rw [List.getElem?_set_self (by rw [wipe_length]; exact hi), if_pos hi]
      · rw [List.getElem?_eq_none (by rw [List.length_set, wipe_length]; omega), if_neg hi]
    · rw [List.getElem?_set_ne hj]
      exact wipe_get2 ((List.mem_cons.mp h).resolve_left fun z => hj z.symm)
theorem wipe_chg {σ σ2 : L2.St} {is : List Nat} (h : Chg is (wipe σ is) σ2) : wipe σ2 is = wipe σ is := by
  have hl : σ2.length = σ.length := by rw [h.1, wipe_length]
  apply List.ext_getElem?
  intro j
  by_cases hj : j ∈ is
  · rw [wipe_get2 hj, wipe_get2 hj, hl]
  · rw [wipe_get hj, h.2 j hj]
theorem Rel.apartOld {K : PySem.W.Frag} {e : Ent} {F H : Hp} {ρ : Env} {σ : L2.St} {q : Addr} (r : Rel K e F H ρ σ) (h0 : e.H0 q ≠ none) (hM : ¬ e.M q) (hI : e.pI ≠ some q) : Apart ρ σ q := fun i s hs hm hσ => by
  obtain ⟨v, hv, sl⟩ := r.slot i s hs
  rw [hσ] at hv
  cases hv
  cases s with
  | v d => cases hm
  | own xs =>
    obtain ⟨b, us, eb, _, _, _, q4, _⟩ := sl
    cases eb
    rcases q4 with q4 | q4
    · exact hM q4
    · exact h0 q4
  | io xs =>
    obtain ⟨b, us, eb, _, _, _, _, q5⟩ := sl
    cases eb
    exact hI q5
  | fz xs => cases hm
  | raw xs => cases hm
theorem lcGo_cons {f : D → Env → R (Option D)} {x : D} {xs ys : List D} {ρ ρe : Env} (h : lcGo f (x :: xs) ρ = .ok ys ρe) : ∃ o ρ1 rest, f x ρ = .ok o ρ1 ∧ lcGo f xs ρ1 = .ok rest ρe ∧ ys = consO o rest := by
  have h : (f x ρ).bind (fun o ρ => (lcGo f xs ρ).bind fun r ρ => .ok (consO o r) ρ) = .ok ys ρe := h
  cases hf : f x ρ with
  | bad => rw [hf] at h; cases h
  | exc c x ρ1 => rw [hf] at h; cases h
  | ok o ρ1 =>
    rw [hf] at h
    have h : (lcGo f xs ρ1).bind (fun r ρ => .ok (consO o r) ρ) = .ok ys ρe := h
    cases hg : lcGo f xs ρ1 with
    | bad => rw [hg] at h; cases h
    | exc c x ρ1 => rw [hg] at h; cases h
    | ok r ρ2 => rw [hg] at h; cases h; exact ⟨o, ρ1, r, rfl, hg, rfl⟩
theorem lcTurn_ok {tg : Tg} {ev : Env → R (Option D)} {x : D} {ρ ρ' : Env} {o : Option D} (h : lcTurn tg ev x ρ = .ok o ρ') : plainAt ρ tg.slots = true ∧ ∃ ρ2 ρ3, putT (wipeE ρ tg.slots) tg x = .ok () ρ2 ∧ ev ρ2 = .ok o ρ3 ∧ ρ' = backE ρ ρ3 tg.slots := by
  unfold lcTurn at h
  split at h
  · rename_i hp
    refine ⟨hp, ?_⟩
    cases hq : putT (wipeE ρ tg.slots) tg x with
    | bad => rw [hq] at h; cases h
    | exc c x ρ1 => rw [hq] at h; cases h
    | ok u ρ2 =>
      rw [hq] at h
      have h : (ev ρ2).bind (fun o ρ3 => .ok o (backE ρ ρ3 tg.slots)) = .ok o ρ' := h
      cases he : ev ρ2 with
      | bad => rw [he] at h; cases h
      | exc c x ρ1 => rw [he] at h; cases h
      | ok o2 ρ3 => rw [he] at h; cases h; exact ⟨ρ2, ρ3, rfl, he, rfl⟩
  · cases h
theorem yl_rel2 {e : Ent} {F H H' : Hp} {ρ : Env} {σ : L2.St} {x : V} {d : D} (rel : Rel X.K e F H ρ σ) (y : Yl X.K F H x H' d) : ∃ F', Ex F F' ∧ Rel X.K e F' H' ρ σ ∧ Rep X.K F' x d ∧ Ex H H' ∧ ∀ q, H q ≠ none → F q = none → F' q = none := by
  rcases y with ⟨rfl, h⟩ | ⟨T, us, ds, rfl, hT, rfl, rfl, h⟩
  · exact ⟨F, Ex.refl F, rel, h, Ex.refl _, fun _ _ h => h⟩
  · have hF := rel.noneF hT
    refine ⟨_, Ex.new hF, rel.new hT, .tup (.inl (.inl upd_same)) (Reps.mono (Ex.new hF) h), Ex.new hT, fun q h1 h2 => ?_⟩
    rw [upd_ne (fun z => h1 (by rw [z]; exact hT))]
    exact h2
/-- the reading of a list comprehension -/
theorem lc_read {tg : Tg} {el : Env → R (List D)} {ec : Env → R Bool} {ev : Env → R Val} {σ : L2.St} {H : Hp} {Q : VK}
    (h : tV X.K xa W (fun ρ => (el ρ).bind fun xs ρ => lcEnd (lcGo (lcTurn tg fun ρ => (ec ρ).bind fun t ρ => iteR t (bindD (ev ρ) fun y ρ => .ok (some y) ρ) (.ok none ρ)) xs ρ)) σ H Q) :
    tLc (tI X.K xa W el) (tG X.K tg) (tBo X.K xa WF ec) (tD X.K xa WF fun ρ => dd (ev ρ)) tg.slots σ H Q := by
  obtain ⟨e, F, ρ, rel, post⟩ := h
  refine ⟨e, F, ρ, rel, (Post.bind post).imp fun xs ρ1 F1 H1 ex1 rel1 q J hJ Dl hD => ?_⟩
  generalize hf : (lcTurn tg fun ρ => (ec ρ).bind fun t ρ => iteR t (bindD (ev ρ) fun y ρ => .ok (some y) ρ) (.ok none ρ)) = f at q
  cases hr : lcGo f xs ρ1 with
  | bad => rw [hr] at q; exact q.elim
  | exc c x ρ2 => rw [hr] at q; exact q.elim
  | ok ys ρe =>
    rw [hr] at q
    have q : Post X.K xa W e σ F1 (lstV ys ρe) _ := q
    unfold lstV at q
    split at q
    · rename_i hlim
      have d0 : e.H0 Dl = none := (rel1.none0 hD).resolve_right (rel1.fresh hD).1
      have dM := (rel1.fresh hD).1
      have dI := (rel1.fresh hD).2
      refine ⟨fun i m H' => m = xs.length - i ∧ i ≤ xs.length ∧ ∃ F' ρ' acc us rest, Ex F1 F' ∧ Rel X.K e F' H' ρ' σ ∧ F' Dl = none ∧ Apart ρ' σ Dl ∧ H' Dl = some (.lst us) ∧ Reps X.K F' us acc ∧ lcGo f (xs.drop i) ρ' = .ok rest ρe ∧ acc ++ rest = ys,
        ⟨xs.length, by simp, Nat.zero_le _, F1, ρ1, [], [], ys, Ex.refl _, rel1.laid hD, rel1.noneF hD, rel1.apart hD, upd_same, .nil, by simpa using hr, rfl⟩, ?_⟩
      rintro i m H' ⟨rfl, hi, F', ρ', acc, us, rest, ex, rel', hF', ap, hH', hR, hgo, hys⟩
      by_cases hlt : i < xs.length
      · have hd : xs[i]? = some xs[i] := List.getElem?_eq_getElem hlt
        obtain ⟨hgo2, hy⟩ := hJ.1 i xs[i] H' hd (ex.trans rel'.sub)
        refine .inr ⟨hgo2, fun H2 => ∃ F2 ρ2 acc us rest, Ex F1 F2 ∧ Rel X.K e F2 H2 ρ2 σ ∧ F2 Dl = none ∧ Apart ρ2 σ Dl ∧ H2 Dl = some (.lst us) ∧ Reps X.K F2 us acc ∧ lcGo f (xs.drop (i + 1)) ρ2 = .ok rest ρe ∧ acc ++ rest = ys,
          fun H2 h => ⟨xs.length - (i + 1), by omega, rfl, hlt, h⟩, fun x H2 hx => ?_⟩
        have yl : Yl X.K F' H' x H2 xs[i] := by
          rcases hy x H2 hx with ⟨h1, h2⟩ | ⟨T, us, zs, h1, h2, h3, h4, h5⟩
          · exact .inl ⟨h1, h2.mono ex⟩
          · exact .inr ⟨T, us, zs, h1, h2, h3, h4, Reps.mono ex h5⟩
        obtain ⟨F2, ex2, rel2, rep, exH, keep⟩ := yl_rel2 rel' yl
        have hH2 : H2 Dl = some (.lst us) := exH _ _ hH'
        have hF2 : F2 Dl = none := keep Dl (by rw [hH']; exact fun z => nomatch z) hF'
        rw [List.drop_eq_getElem_cons hlt] at hgo
        obtain ⟨o, ρ2, rest2, hfx, hgo', hrest⟩ := lcGo_cons hgo
        subst hf
        obtain ⟨hplain, ρb, ρc, hput, hev, rfl⟩ := lcTurn_ok hfx
        have relB := rel2.block hplain
        refine ⟨_, F2, _, xs[i], relB, rep, ?_⟩
        rw [hput]
        intro σ2 chg relC
        refine ⟨wipe_chg chg, ?_⟩
        have hMB : ¬ (entB e F2 H2 ρ' σ).M Dl := fun hm => by
          rcases hm with ⟨j, s, hs, hm, hσ⟩ | hm
          · exact ap j s hs hm hσ
          · exact dI hm
        have apB : ∀ {ρz : Env} {Fz Hz : Hp} {σz : L2.St}, Chg tg.slots (wipe σ tg.slots) σz → Rel X.K (entB e F2 H2 ρ' σ) Fz Hz ρz σz → Apart (backE ρ' ρz tg.slots) σ Dl := fun {ρz Fz Hz σz} cz rz j s hs hm hσ => by
          have a1 := rz.apartOld (q := Dl) (by show H2 Dl ≠ none; rw [hH2]; exact fun z => nomatch z) hMB dI
          by_cases hj : j ∈ tg.slots
          · have hl : j < ρz.length := by
              have := (List.getElem?_eq_some_iff.mp hs).1
              rwa [backE_len] at this
            rw [backE_in hl hj] at hs
            have hl2 : j < ρ'.length := by rw [rel2.len, ← wipe_length σ tg.slots, ← cz.1, ← rz.len]; exact hl
            rw [List.getD_eq_getElem?_getD, List.getElem?_eq_getElem hl2] at hs
            obtain ⟨d, rfl⟩ := plain_at hplain hj (show ρ'[j]? = some (some s) by rw [List.getElem?_eq_getElem hl2]; exact hs)
            cases hm
          · rw [backE_out hj] at hs
            exact a1 j s hs hm (by rw [cz.2 j hj, wipe_get hj]; exact hσ)
        cases hec : ec ρb with
        | bad => rw [hec] at hev; cases hev
        | exc c x ρt => rw [hec] at hev; cases hev
        | ok t ρt =>
          rw [hec] at hev
          refine ⟨_, F2, ρb, relC, ?_⟩
          rw [hec]
          intro F3 H3 ex3 rel3
          cases t with
          | false =>
            have hev : (R.ok none ρt : R (Option D)) = .ok o ρc := hev
            cases hev
            refine iteF ⟨F3, _, acc, us, rest2, (ex.trans ex2).trans ex3, rel2.back hplain chg rel3, ?_, apB chg rel3, ?_, Reps.mono (ex2.trans ex3) hR, hgo', by rw [← hys, hrest, consO_none]⟩
            · exact rel3.old Dl hF2 (by show H2 Dl ≠ none; rw [hH2]; exact fun z => nomatch z) hMB
            · exact rel3.frm Dl _ hH2 hMB
          | true =>
            have hev : bindD (ev ρt) (fun y ρ => R.ok (some y) ρ) = .ok o ρc := hev
            rw [bindD_dd] at hev
            refine iteT ⟨_, F3, ρt, rel3, ?_⟩
            dsimp only
            cases hdd : dd (ev ρt) with
            | bad => rw [hdd] at hev; cases hev
            | exc c x ρt => rw [hdd] at hev; cases hev
            | ok y ρd =>
              rw [hdd] at hev
              cases hev
              intro F4 H4 ex4 rel4 v hv
              have h4 : H4 Dl = some (.lst us) := rel4.frm Dl _ hH2 hMB
              have f4 : F4 Dl = none := rel4.old Dl hF2 (by show H2 Dl ≠ none; rw [hH2]; exact fun z => nomatch z) hMB
              have hlen : us.length < sizeLine := by
                rw [hR.length]
                refine lim_lt (Nat.lt_of_lt_of_le ?_ hlim)
                rw [← hys, hrest, consO_some, List.length_append, List.length_cons]
                omega
              refine ⟨us, h4, hlen, F4, _, acc ++ [y], us ++ [v], rest2, ((ex.trans ex2).trans ex3).trans ex4, (rel2.back hplain chg rel4).apartUpd f4 d0 (apB chg rel4), f4, apB chg rel4, upd_same, (Reps.mono ((ex2.trans ex3).trans ex4) hR).append (.cons hv .nil), hgo', ?_⟩
              rw [← hys, hrest, List.append_assoc]
              rfl
      · have e1 : i = xs.length := by omega
        subst e1
        rw [List.drop_length] at hgo
        cases hgo
        refine .inl ⟨hJ.2 H' (ex.trans rel'.sub), q F' H' ex rel' _ ?_⟩
        rw [List.append_nil] at hys
        subst hys
        exact ⟨Dl, us, rfl, hF', hH', hR, d0, dM, dI, ap⟩
    · exact q.elim
theorem pts_weak {ifs : List Expr} {t t' : TT} (h : PTs X ifs t) (k : ∀ σ H Q, t' σ H Q → t σ H Q) : PTs X ifs t' := ⟨fun pins s σ H Q I hq => h.run pins s σ H Q I (k σ H Q hq)⟩
theorem pts_yes : PTs X [] (tBo X.K xa W fun ρ => .ok true ρ) := pts_weak pts_nil fun σ H Q ⟨e, F, ρ, rel, post⟩ => post F H (Ex.refl F) rel
end
end Pv

namespace Pv
open PySem L2 PyProof.Rows

/-! ### does a text stand for a piece of the pure language? -/
structure Nm where
  fn : List Str
  gl : List Str
  ex : List Str
def bltNms : List Str := ["len", "abs", "int", "tuple", "list", "sum", "min", "max", "all", "any", "sorted", "isinstance", "bool", "str", "dict", "range", "zip", "enumerate"]
def lk (sc : Scope) (x : Str) : Option NameKind := sc.names.lookup x
def isLoc (sc : Scope) (x : Str) : Bool := decide (lk sc x = some .local)
def isCell (sc : Scope) (x : Str) : Bool := decide (lk sc x = some .cell)
def isFree (sc : Scope) (x : Str) : Bool := decide (lk sc x = some .free)
def isGlb (sc : Scope) (x : Str) : Bool := decide (lk sc x = some .globalImplicit) && !(x == ("__debug__" : Str))
def nameB (N : List Str) (sc : Scope) (i : Nat) (x : Str) : Bool := decide (N[i]? = some x) && (isLoc sc x || isCell sc x || isFree sc x) && !(x == ("__debug__" : Str)) && !(x == ("__classdict__" : Str))
def chkK : Const → D → Bool
  | .none, .none => true
  | .bool b, .bool c => b == c
  | .int i, .int j => decide (i = j)
  | .str s, .str t => decide (s = t)
  | _, _ => false
def chkTy (sc : Scope) (ex : Expr) (t : Ty) : Bool := match ex with
  | .Name x _ => decide (x = Str.ofString (tyStr t)) && isGlb sc x && bltNms.contains x && decide (t ≠ .non)
  | _ => false
def chkTys (sc : Scope) : List Expr → List Ty → Bool
  | [], [] => true
  | e :: es, t :: ts => chkTy sc e t && chkTys sc es ts
  | _, _ => false
def chkIsi (sc : Scope) (ex : Expr) (ts : List Ty) : Bool := match ex, ts with
  | .Tuple es _ _, ts => chkTys sc es ts && decide (ts.length ≤ LIM)
  | e, [t] => chkTy sc e t
  | _, _ => false
/-- a target: strict where the names must be the block's own -/
def chkNm (N : List Str) (sc : Scope) (strict : Bool) (ex : Expr) (i : Nat) : Bool := match ex with
  | .Name x _ => decide (N[i]? = some x) && (isLoc sc x || (!strict && isCell sc x))
  | _ => false
def chkNms (N : List Str) (sc : Scope) (strict : Bool) : List Expr → List Nat → Bool
  | [], [] => true
  | e :: es, i :: is => chkNm N sc strict e i && chkNms N sc strict es is
  | _, _ => false
def chkTg (N : List Str) (sc : Scope) (strict : Bool) (ex : Expr) (t : Tg) : Bool := match t with
  | .n i => chkNm N sc strict ex i
  | .t is => (match ex with
    | .Tuple es _ _ => chkNms N sc strict es is
    | _ => false)
def ownOf (N : List Str) (is : List Nat) : List (Str × Nat) := is.map fun i => (N.getD i Str.empty, i)
def isTupE : Expr → Bool
  | .Tuple _ _ _ => true
  | _ => false
def chkO (oe : Option Expr) (nop : Bool) (f : Expr → Bool) : Bool := match oe with
  | none => nop
  | some e => f e
def isYes : T → Bool
  | .yes => true
  | _ => false
def chkC (ifs : List Expr) (yes : Bool) (f : Expr → Bool) : Bool := match ifs with
  | [] => yes
  | [e] => f e
  | _ => false
section
variable (M : Nm) (N : List Str)
mutual
def chkE (sc : Scope) (ex : Expr) : E → Bool
  | .nop => false
  | .v i => (match ex with
    | .Name x _ => nameB N sc i x
    | _ => false)
  | .k d => (match ex with
    | .Constant c _ _ => chkK c d
    | _ => false)
  | .g j => (match ex with
    | .Name x _ => isGlb sc x && decide (M.gl[j]? = some x)
    | _ => false)
  | .bin o a b => (match ex with
    | .BinOp l op r _ => decide (op = opOf o) && (chkE sc l a && chkE sc r b)
    | _ => false)
  | .neg a => (match ex with
    | .UnaryOp .USub e _ => chkE sc e a
    | _ => false)
  | .not a => (match ex with
    | .UnaryOp .Not e _ => chkE sc e a
    | _ => false)
  | .and a b => (match ex with
    | .BoolOp .And [x, y] _ => chkE sc x a && chkE sc y b
    | .BoolOp .And (x :: y :: z :: r) p => chkE sc x a && chkE sc (.BoolOp .And (y :: z :: r) p) b
    | _ => false)
  | .or a b => (match ex with
    | .BoolOp .Or [x, y] _ => chkE sc x a && chkE sc y b
    | .BoolOp .Or (x :: y :: z :: r) p => chkE sc x a && chkE sc (.BoolOp .Or (y :: z :: r) p) b
    | _ => false)
  | .cmp o a b => (match ex with
    | .Compare l [op] [r] _ => decide (op = cmpOf o) && (chkE sc l a && chkE sc r b)
    | _ => false)
  | .chain o o' a b c => (match ex with
    | .Compare l [op, op'] [m, r] _ => (decide (op = cmpOf o) && decide (op' = cmpOf o')) && (chkE sc l a && (chkE sc m b && chkE sc r c))
    | _ => false)
  | .ife c a b => (match ex with
    | .IfExp t x y _ => chkT sc t c && (chkE sc x a && chkE sc y b)
    | _ => false)
  | .tup es => (match ex with
    | .Tuple xs _ _ => chkEs sc xs es
    | _ => false)
  | .lst es => (match ex with
    | .List xs _ => chkEs sc xs es
    | _ => false)
  | .ix a i => (match ex with
    | .Subscript v s _ => chkE sc v a && chkE sc s i
    | _ => false)
  | .ixv j i => (match ex with
    | .Subscript (.Name x _) s _ => nameB N sc j x && chkE sc s i
    | _ => false)
  | .sl a lo hi => (match ex with
    | .Subscript v (.Slice l u none _) _ => chkE sc v a && (chkO l (isNop lo) (fun e => chkE sc e lo) && chkO u (isNop hi) (fun e => chkE sc e hi))
    | _ => false)
  | .slv j lo hi => (match ex with
    | .Subscript (.Name x _) (.Slice l u none _) _ => nameB N sc j x && (chkO l (isNop lo) (fun e => chkE sc e lo) && chkO u (isNop hi) (fun e => chkE sc e hi))
    | _ => false)
  | .rev a => (match ex with
    | .Subscript v (.Slice none none (some (.UnaryOp .USub (.Constant (.int 1) _ _) _)) _) _ => chkE sc v a
    | _ => false)
  | .call j es => (match ex with
    | .Call (.Name x _) (y :: ys) [] _ => (isGlb sc x && decide (M.fn[j]? = some x)) && chkEs sc (y :: ys) es
    | _ => false)
  | .cio j i es => (match ex with
    | .Call (.Name x _) (.Name y _ :: ys) [] _ => (isGlb sc x && decide (M.fn[j]? = some x)) && (nameB N sc i y && chkEs sc ys es)
    | _ => false)
  | .craw j i => (match ex with
    | .Call (.Name x _) [.Name y _] [] _ => (isGlb sc x && decide (M.fn[j]? = some x)) && nameB N sc i y
    | _ => false)
  | .scr i n => (match ex with
    | .Subscript (.Name x _) (.Slice none (some (.Constant (.int m) _ _)) none _) _ => nameB N sc i x && decide (m = n)
    | _ => false)
  | .b1 b a => (match ex with
    | .Call (.Name x _) [v] [] _ => (decide (x = bltName b) && isGlb sc x && decide (b ≠ .sorted)) && chkE sc v a
    | _ => false)
  | .b2 b a c => (match ex with
    | .Call (.Name x _) [v, w] [] _ => (decide (x = bltName b) && isGlb sc x && (decide (b = .min) || decide (b = .max))) && (chkE sc v a && chkE sc w c)
    | _ => false)
  | .isi a ts => (match ex with
    | .Call (.Name x _) [v, w] [] _ => (decide (x = ("isinstance" : Str)) && isGlb sc x && chkIsi sc w ts) && chkE sc v a
    | _ => false)
  | .lc elt tg it c => (match ex with
    | .ListComp v [⟨t, i, ifs, 0⟩] scope _ => blkC N sc scope (ownOf N tg.slots) && (chkTg N (relS scope sc) true t tg && (chkI sc t i it && (chkE (relS scope sc) v elt && chkC ifs (isYes c) (fun e => chkT (relS scope sc) e c))))
    | _ => false)
def chkEs (sc : Scope) (xs : List Expr) : Es → Bool
  | .nil => (match xs with
    | [] => true
    | _ => false)
  | .cons e es => (match xs with
    | x :: r => chkE sc x e && chkEs sc r es
    | _ => false)
def chkI (sc : Scope) (tg ex : Expr) : It → Bool
  | .rng es => (match ex with
    | .Call (.Name x _) [a] [] _ => (decide (x = ("range" : Str)) && isGlb sc x) && chkEs sc [a] es
    | .Call (.Name x _) [a, b] [] _ => (decide (x = ("range" : Str)) && isGlb sc x) && chkEs sc [a, b] es
    | .Call (.Name x _) [a, b, c] [] _ => (decide (x = ("range" : Str)) && isGlb sc x) && chkEs sc [a, b, c] es
    | _ => false)
  | .of e => chkE sc ex e
  | .zip a b => (match ex with
    | .Call (.Name x _) [v, w] [] _ => (decide (x = ("zip" : Str)) && isGlb sc x && isTupE tg) && (chkE sc v a && chkE sc w b)
    | _ => false)
  | .enum a => (match ex with
    | .Call (.Name x _) [v] [] _ => (decide (x = ("enumerate" : Str)) && isGlb sc x && isTupE tg) && chkE sc v a
    | _ => false)
def chkT (sc : Scope) (ex : Expr) : T → Bool
  | .e a => (match ex with
    | .BoolOp _ _ _ => false
    | .UnaryOp .Not _ _ => false
    | .IfExp _ _ _ _ => false
    | e => chkE sc e a)
  | .and a b => (match ex with
    | .BoolOp .And [x, y] _ => chkT sc x a && chkT sc y b
    | .BoolOp .And (x :: y :: z :: r) p => chkT sc x a && chkT sc (.BoolOp .And (y :: z :: r) p) b
    | _ => false)
  | .or a b => (match ex with
    | .BoolOp .Or [x, y] _ => chkT sc x a && chkT sc y b
    | .BoolOp .Or (x :: y :: z :: r) p => chkT sc x a && chkT sc (.BoolOp .Or (y :: z :: r) p) b
    | _ => false)
  | .not a => (match ex with
    | .UnaryOp .Not e _ => chkT sc e a
    | _ => false)
  | .yes => false
end
end
end Pv

namespace Pv
open PySem L2 PyProof.Rows

/-- what the context grants -/
structure Gd (X : Cx) (C : Cfg) (M : Nm) (xa : Nat → Addr) (k : Nat) : Prop where
  calm : X.calm = true
  nd : X.N.Nodup
  kind : X.env.scope.kind = .function
  room : Room k X.A
  fns : ∀ j x, M.fn[j]? = some x → ∃ f fd ps, X.mg x = some (.ref f) ∧ PySem.W.keepIn X.K (.ref f) = true ∧ Binds X.K fd ps [] ∧ FnOk X.prog X.w X.K X.mg X.base (L2.CX X.prog X.w) k f fd ps (spOf X.K xa C.call j)
  gls : ∀ j x d, M.gl[j]? = some x → C.gl j = some d → ∃ u v, X.mg x = some u ∧ RelV v u ∧ ∀ F, Rep X.K F v d
  blt : ∀ x ∈ bltNms, X.mg x = none
  exs : ∀ c x, M.ex[c]? = some x → X.mg x = some (.ref (xa c)) ∧ PySem.W.keepIn X.K (.ref (xa c)) = true ∧ PySem.W.excIn X.K (xa c) He.veBase "ValueError.__new__" = true ∧ PySem.W.subIn X.K (.ref (xa c)) (.type "BaseException") = some true ∧ PySem.W.typeIn X.K (.ref (xa c)) = some (.type "type")
theorem Gd.units {X : Cx} {C : Cfg} {M : Nm} {xa : Nat → Addr} {k : Nat} (g : Gd X C M xa k) : X.A.units + 100 < cLine := by have := g.room.un; omega
section
variable {M : Nm} {N : List Str} {sc : Scope}
theorem chk_star {e : Expr} {p : Pos} (m : E) : chkE M N sc (.Starred e p) m = false := by cases m <;> rfl
theorem chk_slice {l u s : Option Expr} {p : Pos} (m : E) : chkE M N sc (.Slice l u s p) m = false := by cases m <;> rfl
theorem chk_set {es : List Expr} {k : Nat} {p : Pos} (m : E) : chkE M N sc (.Set es k p) m = false := by cases m <;> rfl
theorem star_of {ex : Expr} {m : E} (h : chkE M N sc ex m = true) (es : List Expr) (env : PySem.Env) : starEach (ex :: es) env = (false, eval ex env) :: starEach es env := by
  cases ex <;> first | rfl | (rw [chk_star] at h; cases h)
theorem plain_of {ex : Expr} {m : E} (h : chkE M N sc ex m = true) : PlainIx ex := by
  intro o i
  cases ex <;> first | rfl | (rw [chk_slice] at h; cases h)
theorem mark_of {ex : Expr} {m : E} (h : chkE M N sc ex m = true) (op : CmpOp) : behindInMarks op ex = false := by
  cases ex <;> first | rfl | (rw [chk_set] at h; cases h)
theorem fold_of {ex : Expr} {m : E} (h : chkE M N sc ex m = true) (env : PySem.Env) (x : Value) : foldedSetIterable ex env x = pure x := by
  cases ex <;> first | rfl | (rw [chk_set] at h; cases h)
theorem back_star {ex : Expr} {m : E} (h : chkE M N sc ex m = true) {es : List Expr} {env : PySem.Env} {pos : Pos} (hr : (backTo pos (starEach es env)).any (·.1) = false) : (backTo pos (starEach (ex :: es) env)).any (·.1) = false := by
  rw [star_of h]
  exact hr
theorem chkEs_back : ∀ (m : Es) {xs : List Expr} {env : PySem.Env} {pos : Pos}, chkEs M N sc xs m = true → (backTo pos (starEach xs env)).any (·.1) = false
  | .nil, xs, env, pos, h => by
    cases xs with
    | nil => rfl
    | cons x r => cases h
  | .cons e es, xs, env, pos, h => by
    cases xs with
    | nil => cases h
    | cons x r =>
      have h : (chkE M N sc x e && chkEs M N sc r es) = true := h
      rw [Bool.and_eq_true] at h
      exact back_star h.1 (chkEs_back es h.2)
theorem ba {a b : Bool} (h : (a && b) = true) : a = true ∧ b = true := by rwa [Bool.and_eq_true] at h
theorem glb_of {X : Cx} {x : Str} (h : isGlb X.env.scope x = true) : Gl X x ∧ (x == ("__debug__" : Str)) = false := by
  obtain ⟨h1, h2⟩ := ba h
  have h1' : lk X.env.scope x = some .globalImplicit := of_decide_eq_true h1
  refine ⟨h1', ?_⟩
  cases hx : x == ("__debug__" : Str) with
  | false => rfl
  | true => rw [hx] at h2; cases h2
theorem name_of {X : Cx} {i : Nat} {x : Str} {p : Pos} (h : nameB X.N X.env.scope i x = true) : PE X (.Name x p) (tVar i) := by
  obtain ⟨h1, h4⟩ := ba h
  obtain ⟨h1, h3⟩ := ba h1
  obtain ⟨h1, h2⟩ := ba h1
  have nb : ∀ y : Str, (!(x == y)) = true → (x == y) = false := fun y hy => by
    cases hx : x == y with
    | false => rfl
    | true => rw [hx] at hy; cases hy
  refine pe_var (of_decide_eq_true h1) ?_ (nb _ h3) (nb _ h4)
  rcases Bool.or_eq_true_iff.mp h2 with h2 | h2
  · rcases Bool.or_eq_true_iff.mp h2 with h2 | h2
    · exact .inl (of_decide_eq_true h2)
    · exact .inr (.inl (of_decide_eq_true h2))
  · exact .inr (.inr (of_decide_eq_true h2))
theorem blt_in (b : Blt) : bltName b ∈ bltNms := by cases b <;> decide
end
section
variable {C : Cfg} {M : Nm} {xa : Nat → Addr} {k : Nat}
theorem isV_E {m : E} {i : Nat} (h : isV m = some i) : m = .v i := by cases m <;> first | (cases h; rfl) | cases h
theorem pe_pk {X : Cx} {W : WX} {ex : Expr} {m : E} (h : PE X ex (tV X.K xa W (evE C m))) (hc : chkE M X.N X.env.scope ex m = true) : PE X ex (tP X.K xa W fun ρ => pk (isV m) (fun ρ => evE C m ρ) ρ) := by
  cases hi : isV m with
  | none => exact pe_toP h
  | some i =>
    have := isV_E hi
    subst this
    cases ex <;> first | (cases hc; done) | skip
    exact pe_look (name_of hc)
theorem ty_ok {X : Cx} {ex : Expr} {t : Ty} (hb : ∀ x ∈ bltNms, X.mg x = none) (h : chkTy X.env.scope ex t = true) : PE X ex (tC (.ty (tyStr t))) ∧ ∀ es, starEach (ex :: es) X.env = (false, eval ex X.env) :: starEach es X.env := by
  unfold chkTy at h
  split at h
  · rename_i x p
    obtain ⟨h, h4⟩ := ba h
    obtain ⟨h, h3⟩ := ba h
    obtain ⟨h1, h2⟩ := ba h
    have e1 := of_decide_eq_true h1
    have hn := of_decide_eq_true h4
    obtain ⟨g1, g2⟩ := glb_of h2
    refine ⟨?_, fun es => rfl⟩
    have hm := hb x (by simpa using h3)
    subst e1
    refine pe_bltn g1 hm ?_ rfl ?_ g2
    · cases t <;> first | decide +kernel | exact absurd rfl hn
    · cases t <;> decide
  · cases h
theorem tys_ok {X : Cx} (hb : ∀ x ∈ bltNms, X.mg x = none) : ∀ {es : List Expr} {ts : List Ty}, chkTys X.env.scope es ts = true → TyNms X ts es
  | [], [], _ => .nil
  | [], _ :: _, h => by cases h
  | _ :: _, [], h => by cases h
  | e :: es, t :: ts, h => by
    have h : (chkTy X.env.scope e t && chkTys X.env.scope es ts) = true := h
    obtain ⟨h1, h2⟩ := ba h
    obtain ⟨a, b⟩ := ty_ok hb h1
    exact .cons a (b es) (tys_ok hb h2)
theorem nm_ok {X : Cx} {ex : Expr} {i : Nat} {strict : Bool} (hN : X.N.Nodup) (hf : strict = true ∨ ∀ x, X.fn x = true) (h : chkNm X.N X.env.scope strict ex i = true) : PG X ex (gName i) ∧ ∀ es, (assignEach (ex :: es) X.env).map (·.2) = assign ex X.env :: (assignEach es X.env).map (·.2) := by
  unfold chkNm at h
  split at h
  · obtain ⟨h1, h2⟩ := ba h
    refine ⟨?_, fun es => rfl⟩
    rcases Bool.or_eq_true_iff.mp h2 with h2 | h2
    · exact pg_name hN (of_decide_eq_true h1) (.inl (of_decide_eq_true h2)) (.inr (of_decide_eq_true h2))
    · obtain ⟨h2, h3⟩ := ba h2
      rcases hf with hf | hf
      · rw [hf] at h2; cases h2
      · exact pg_name hN (of_decide_eq_true h1) (.inr (of_decide_eq_true h3)) (.inl (hf _))
  · cases h
theorem nms_ok {X : Cx} {strict : Bool} (hN : X.N.Nodup) (hf : strict = true ∨ ∀ x, X.fn x = true) : ∀ {es : List Expr} {is : List Nat}, chkNms X.N X.env.scope strict es is = true → NmOk X is es ∧ (assignEach es X.env).length = is.length ∧ (assignEach es X.env).findIdx? (·.1) = none
  | [], [], _ => ⟨.nil, rfl, rfl⟩
  | [], _ :: _, h => by cases h
  | _ :: _, [], h => by cases h
  | e :: es, i :: is, h => by
    have h : (chkNm X.N X.env.scope strict e i && chkNms X.N X.env.scope strict es is) = true := h
    obtain ⟨h1, h2⟩ := ba h
    obtain ⟨a, b⟩ := nm_ok hN hf h1
    obtain ⟨c, d, f⟩ := nms_ok hN hf h2
    refine ⟨.cons a (b es) c, ?_, ?_⟩
    · unfold chkNm at h1
      split at h1
      · show (assignEach es X.env).length + 1 = is.length + 1
        rw [d]
      · cases h1
    · unfold chkNm at h1
      split at h1
      · show ((false, _) :: assignEach es X.env).findIdx? (·.1) = none
        rw [List.findIdx?_cons]
        simp [f]
      · cases h1
theorem tg_ok {X : Cx} {ex : Expr} {t : Tg} {strict : Bool} (hc : X.calm = true) (hN : X.N.Nodup) (hf : strict = true ∨ ∀ x, X.fn x = true) (h : chkTg X.N X.env.scope strict ex t = true) : PG X ex (tG X.K t) := by
  cases t with
  | n i => exact pg_n (nm_ok hN hf h).1
  | t is =>
    unfold chkTg at h
    dsimp only at h
    split at h
    · obtain ⟨a, b, c⟩ := nms_ok hN hf h
      exact pg_t hc a b c
    · cases h
theorem gd_blk {X : Cx} (g : Gd X C M xa k) {s : Shared} {H : Hp} {scope : Scope} {cl : List (Str × Addr)} {c : Addr} {fp : List Addr} (hk : scope.kind = .function) : Gd (X.blk s H scope (compEnvC scope cl c X.env) fp) C M xa k :=
  ⟨g.calm, g.nd, hk, g.room, g.fns, g.gls, g.blt, g.exs⟩
theorem takesF {X : Cx} : Takes X WF := L2.takes0
theorem test_he {ex : Expr} (h1 : ∀ op vs p, ex ≠ .BoolOp op vs p) (h2 : ∀ e p, ex ≠ .UnaryOp .Not e p) (h3 : ∀ a b c p, ex ≠ .IfExp a b c p) (h4 : ∀ l o r p, ex ≠ .Compare l o r p) (env : PySem.Env) (whole : Sem Value) :
    isTrue ex env whole = (do let v ← whole; standAt ex.pos; holding [v] (truthy v)) := by
  cases ex <;> first | rfl | exact absurd rfl (h1 _ _ _) | exact absurd rfl (h3 _ _ _ _) | exact absurd rfl (h4 _ _ _ _) | skip
  rename_i op e p
  cases op <;> first | rfl | exact absurd rfl (h2 _ _)
theorem takes_n {X : Cx} : ∀ {W : WX}, Takes X W → Takes X W := fun h => h

theorem fn_at {X : Cx} (g : Gd X C M xa k) {j : Nat} {x : Str} (h : (isGlb X.env.scope x && decide (M.fn[j]? = some x)) = true) : Gl X x ∧ (x == ("__debug__" : Str)) = false ∧ ∃ f fd ps, X.mg x = some (.ref f) ∧ PySem.W.keepIn X.K (.ref f) = true ∧ Binds X.K fd ps [] ∧ FnOk X.prog X.w X.K X.mg X.base (L2.CX X.prog X.w) k f fd ps (spOf X.K xa C.call j) := by
  obtain ⟨h1, h2⟩ := ba h
  obtain ⟨a, b⟩ := glb_of h1
  exact ⟨a, b, g.fns j x (of_decide_eq_true h2)⟩
/-- the parts of a list comprehension -/
theorem lc_parts {X : Cx} {W : WX} (g : Gd X C M xa k) {v t i : Expr} {ifs : List Expr} {scope : Scope} {elt : E} {tg : Tg} {it : It} {c : T}
    (h : (blkC X.N X.env.scope scope (ownOf X.N tg.slots) && (chkTg X.N (relS scope X.env.scope) true t tg && (chkI M X.N X.env.scope t i it && (chkE M X.N (relS scope X.env.scope) v elt && chkC ifs (isYes c) (fun e => chkT M X.N (relS scope X.env.scope) e c))))) = true)
    (hI : chkI M X.N X.env.scope t i it = true → PI X t i (tI X.K xa W (evI C it)) ∧ ∀ x, foldedSetIterable i X.env x = pure x)
    (hE : ∀ {X' : Cx}, Gd X' C M xa k → X'.N = X.N → X'.K = X.K → X'.env.scope = relS scope X.env.scope → PE X' v (tV X.K xa WF (evE C elt)))
    (hT : ∀ {X' : Cx} {e : Expr}, Gd X' C M xa k → X'.N = X.N → X'.K = X.K → X'.env.scope = relS scope X.env.scope → chkT M X'.N X'.env.scope e c = true → PT X' e (tBo X.K xa WF (evT C c))) :
    BlkOk X.N X.env.scope scope (ownOf X.N tg.slots) ∧ PI X t i (tI X.K xa W (evI C it)) ∧
      (∀ (s : Shared) (H : Hp) (c' : Addr) (cl : List (Str × Addr)) (fp : List Addr), PG (X.blk s H scope (compEnvC scope cl c' X.env) fp) t (tG X.K tg)) ∧
      (∀ (s : Shared) (H : Hp) (c' : Addr) (cl : List (Str × Addr)) (fp : List Addr), PTs (X.blk s H scope (compEnvC scope cl c' X.env) fp) ifs (tBo X.K xa WF (evT C c))) ∧
      (∀ (s : Shared) (H : Hp) (c' : Addr) (cl : List (Str × Addr)) (fp : List Addr), PE (X.blk s H scope (compEnvC scope cl c' X.env) fp) v (tD X.K xa WF fun ρ => dd (evE C elt ρ))) ∧ (∀ x, foldedSetIterable i X.env x = pure x) ∧ (ownOf X.N tg.slots).map (·.2) = tg.slots := by
  obtain ⟨h1, h⟩ := ba h
  obtain ⟨h2, h⟩ := ba h
  obtain ⟨h3, h⟩ := ba h
  obtain ⟨h4, h5⟩ := ba h
  have B := blkOk_by h1
  obtain ⟨pi, fo⟩ := hI h3
  refine ⟨B, pi, fun s H c' cl fp => ?_, fun s H c' cl fp => ?_, fun s H c' cl fp => ?_, fo, ?_⟩
  · exact tg_ok (X := X.blk s H scope (compEnvC scope cl c' X.env) fp) g.calm g.nd (.inl rfl) h2
  · have g' : Gd (X.blk s H scope (compEnvC scope cl c' X.env) fp) C M xa k := gd_blk g B.kind
    unfold chkC at h5
    split at h5
    · have ey : c = .yes := by cases c <;> first | rfl | cases h5
      subst ey
      exact pts_yes
    · exact pts_one (hT g' rfl rfl rfl h5)
    · cases h5
  · exact pe_toD (hE (gd_blk g B.kind) rfl rfl rfl)
  · unfold ownOf
    rw [List.map_map]
    exact List.map_id _

mutual
theorem soundE : ∀ (m : E) {X : Cx} {W : WX} {ex : Expr}, Gd X C M xa k → Takes X W → chkE M X.N X.env.scope ex m = true → PE X ex (tV X.K xa W (evE C m))
  | .nop, X, W, ex, g, tk, h => by cases h
  | .v i, X, W, ex, g, tk, h => by
    unfold chkE at h
    split at h
    · exact pe_read (name_of h)
    · cases h
  | .k d, X, W, ex, g, tk, h => by
    unfold chkE at h
    split at h
    · unfold chkK at h
      split at h
      · exact pe_const pe_non fun F => .non
      · rename_i b c
        have e1 : b = c := by simpa using h
        subst e1
        exact pe_const pe_bl fun F => .bl b
      · rename_i i j
        have e1 := of_decide_eq_true h
        subst e1
        exact pe_const pe_int fun F => .int i
      · rename_i s t
        have e1 := of_decide_eq_true h
        subst e1
        exact pe_const pe_str fun F => .str s
      · cases h
    · cases h
  | .g j, X, W, ex, g, tk, h => by
    unfold chkE at h
    split at h
    · rename_i x p
      obtain ⟨h1, h2⟩ := ba h
      obtain ⟨g1, g2⟩ := glb_of h1
      cases hd : C.gl j with
      | none =>
        refine ⟨fun pins s σ H Q I hq => ?_⟩
        obtain ⟨e, F, ρ, rel, post⟩ := hq
        have post : Post X.K xa W e σ F (R.ofO ((C.gl j).map Val.pv) ρ) _ := post
        rw [hd] at post
        exact post.elim
      | some d =>
        obtain ⟨u, v, hu, rv, rep⟩ := g.gls j x d (of_decide_eq_true h2) hd
        refine pe_weak (pe_glob g1 hu rv g2) fun σ H Q ⟨e, F, ρ, rel, post⟩ => ?_
        have post : Post X.K xa W e σ F (R.ofO ((C.gl j).map Val.pv) ρ) _ := post
        rw [hd] at post
        exact post F H (Ex.refl F) rel v (rep F)
    · cases h
  | .bin o a b, X, W, ex, g, tk, h => by
    unfold chkE at h
    split at h
    · obtain ⟨h1, h⟩ := ba h
      obtain ⟨h2, h3⟩ := ba h
      have e1 := of_decide_eq_true h1
      subst e1
      exact pe_binS (bin_ok o) (soundE a g tk h2) (soundE b g tk h3)
    · cases h
  | .neg a, X, W, ex, g, tk, h => by
    unfold chkE at h
    split at h
    · exact pe_neg' (soundE a g tk h)
    · cases h
  | .not a, X, W, ex, g, tk, h => by
    unfold chkE at h
    split at h
    · exact pe_not' (soundE a g tk h)
    · cases h
  | .and a b, X, W, ex, g, tk, h => by
    unfold chkE at h
    split at h
    · obtain ⟨h1, h2⟩ := ba h
      exact pe_and' (soundE a g tk h1) (pe_one (soundE b g tk h2))
    · obtain ⟨h1, h2⟩ := ba h
      exact pe_and' (soundE a g tk h1) (soundE b g tk h2)
    · cases h
  | .or a b, X, W, ex, g, tk, h => by
    unfold chkE at h
    split at h
    · obtain ⟨h1, h2⟩ := ba h
      exact pe_or' (soundE a g tk h1) (pe_one (soundE b g tk h2))
    · obtain ⟨h1, h2⟩ := ba h
      exact pe_or' (soundE a g tk h1) (soundE b g tk h2)
    · cases h
  | .cmp o a b, X, W, ex, g, tk, h => by
    unfold chkE at h
    split at h
    · obtain ⟨h1, h⟩ := ba h
      obtain ⟨h2, h3⟩ := ba h
      have e1 := of_decide_eq_true h1
      subst e1
      exact pe_cmpP (cmp_ok g.units o) (soundE a g tk h2) (pe_pk (soundE b g tk h3) h3) (mark_of h3 _)
    · cases h
  | .chain o o' a b c, X, W, ex, g, tk, h => by
    unfold chkE at h
    split at h
    · obtain ⟨h0, h⟩ := ba h
      obtain ⟨h1, h2⟩ := ba h0
      obtain ⟨h3, h⟩ := ba h
      obtain ⟨h4, h5⟩ := ba h
      have e1 := of_decide_eq_true h1
      have e2 := of_decide_eq_true h2
      subst e1
      subst e2
      exact pe_chainP (cmp_ok g.units o) (cmp_ok g.units o') (soundE a g tk h3) (soundE b g tk h4) (soundE c g tk h5) (mark_of h5 _)
    · cases h
  | .ife c a b, X, W, ex, g, tk, h => by
    unfold chkE at h
    split at h
    · obtain ⟨h1, h⟩ := ba h
      obtain ⟨h2, h3⟩ := ba h
      exact pe_ife' (soundT c g tk h1).1 (soundE a g tk h2) (soundE b g tk h3)
    · cases h
  | .tup es, X, W, ex, g, tk, h => by
    unfold chkE at h
    split at h
    · exact pe_tup' (soundEs es g tk h).1
    · cases h
  | .lst es, X, W, ex, g, tk, h => by
    unfold chkE at h
    split at h
    · exact pe_lst' (soundEs es g tk h).1
    · cases h
  | .ix a i, X, W, ex, g, tk, h => by
    unfold chkE at h
    split at h
    · obtain ⟨h1, h2⟩ := ba h
      exact pe_ixE (soundE a g tk h1) (soundE i g tk h2) (plain_of h2)
    · cases h
  | .ixv j i, X, W, ex, g, tk, h => by
    unfold chkE at h
    split at h
    · obtain ⟨h1, h2⟩ := ba h
      exact pe_ixv (name_of h1) (soundE i g tk h2) (plain_of h2)
    · cases h
  | .sl a lo hi, X, W, ex, g, tk, h => by
    unfold chkE at h
    split at h
    · obtain ⟨h1, h⟩ := ba h
      obtain ⟨h2, h3⟩ := ba h
      refine pe_slE (soundE a g tk h1) ?_ ?_
      · unfold chkO at h2
        split at h2
        · have e1 : lo = .nop := by cases lo <;> first | rfl | cases h2
          subst e1
          exact po_none'
        · have e1 : isNop lo = false := by cases lo <;> first | rfl | cases h2
          rw [e1]
          exact po_some' (soundE lo g tk h2)
      · unfold chkO at h3
        split at h3
        · have e1 : hi = .nop := by cases hi <;> first | rfl | cases h3
          subst e1
          exact po_none'
        · have e1 : isNop hi = false := by cases hi <;> first | rfl | cases h3
          rw [e1]
          exact po_some' (soundE hi g tk h3)
    · cases h
  | .slv j lo hi, X, W, ex, g, tk, h => by
    unfold chkE at h
    split at h
    · obtain ⟨h1, h⟩ := ba h
      obtain ⟨h2, h3⟩ := ba h
      refine pe_slv (name_of h1) ?_ ?_
      · unfold chkO at h2
        split at h2
        · have e1 : lo = .nop := by cases lo <;> first | rfl | cases h2
          subst e1
          exact po_none'
        · have e1 : isNop lo = false := by cases lo <;> first | rfl | cases h2
          rw [e1]
          exact po_some' (soundE lo g tk h2)
      · unfold chkO at h3
        split at h3
        · have e1 : hi = .nop := by cases hi <;> first | rfl | cases h3
          subst e1
          exact po_none'
        · have e1 : isNop hi = false := by cases hi <;> first | rfl | cases h3
          rw [e1]
          exact po_some' (soundE hi g tk h3)
    · cases h
  | .rev a, X, W, ex, g, tk, h => by
    unfold chkE at h
    split at h
    · exact pe_rev' (pe_pk (soundE a g tk h) h)
    · cases h
  | .call j es, X, W, ex, g, tk, h => by
    unfold chkE at h
    split at h
    · obtain ⟨h1, h2⟩ := ba h
      obtain ⟨a, b, f, fd, ps, c1, c2, c3, c4⟩ := fn_at g h1
      have hs := (soundEs es g tk h2)
      cases es with
      | nil => cases h2
      | cons e es =>
        have h3 := (ba h2).1
        exact pe_callE c4 g.room a c1 c2 c3 tk hs.1 b (star_of h3 _ _) (chkEs_back es (ba h2).2)
    · cases h
  | .cio j i es, X, W, ex, g, tk, h => by
    unfold chkE at h
    split at h
    · obtain ⟨h1, h⟩ := ba h
      obtain ⟨h2, h3⟩ := ba h
      obtain ⟨a, b, f, fd, ps, c1, c2, c3, c4⟩ := fn_at g h1
      exact pe_cioE c4 g.room a c1 c2 c3 tk (name_of h2) (soundEs es g tk h3).1 b rfl (chkEs_back es h3)
    · cases h
  | .craw j i, X, W, ex, g, tk, h => by
    unfold chkE at h
    split at h
    · obtain ⟨h1, h2⟩ := ba h
      obtain ⟨a, b, f, fd, ps, c1, c2, c3, c4⟩ := fn_at g h1
      exact pe_craw c4 g.room a c1 c2 c3 tk (name_of h2) b rfl rfl
    · cases h
  | .scr i n, X, W, ex, g, tk, h => by
    unfold chkE at h
    split at h
    · obtain ⟨h1, h2⟩ := ba h
      have e1 := of_decide_eq_true h2
      subst e1
      exact pe_scr (name_of h1) pe_int
    · cases h
  | .b1 b a, X, W, ex, g, tk, h => by
    unfold chkE at h
    split at h
    · obtain ⟨h1, hh⟩ := ba h
      clear h
      obtain ⟨h1, h4⟩ := ba h1
      obtain ⟨h2, h3⟩ := ba h1
      have e1 := of_decide_eq_true h2
      subst e1
      obtain ⟨g1, g2⟩ := glb_of h3
      exact pe_b1 g.calm (of_decide_eq_true h4) g1 (g.blt _ (blt_in b)) (pe_pk (soundE a g tk hh) hh) (star_of hh _ _)
    · cases h
  | .b2 b a c, X, W, ex, g, tk, h => by
    unfold chkE at h
    split at h
    · obtain ⟨h1, h⟩ := ba h
      obtain ⟨h5, h6⟩ := ba h
      obtain ⟨h1, h4⟩ := ba h1
      obtain ⟨h2, h3⟩ := ba h1
      have e1 := of_decide_eq_true h2
      subst e1
      obtain ⟨g1, g2⟩ := glb_of h3
      cases b <;> first | (cases h4; done) | skip
      · exact pe_min2 g.calm g1 (g.blt "min" (by decide)) (soundE a g tk h5) (soundE c g tk h6) (star_of h5 _ _) (star_of h6 _ _) (back_star h6 rfl)
      · exact pe_max2 g.calm g1 (g.blt "max" (by decide)) (soundE a g tk h5) (soundE c g tk h6) (star_of h5 _ _) (star_of h6 _ _) (back_star h6 rfl)
    · cases h
  | .isi a ts, X, W, ex, g, tk, h => by
    unfold chkE at h
    split at h
    · obtain ⟨h1, h5⟩ := ba h
      obtain ⟨h1, h4⟩ := ba h1
      obtain ⟨h2, h3⟩ := ba h1
      have e1 := of_decide_eq_true h2
      subst e1
      obtain ⟨g1, g2⟩ := glb_of h3
      have hm : X.mg "isinstance" = none := g.blt _ (by decide)
      unfold chkIsi at h4
      split at h4
      · obtain ⟨t1, t2⟩ := ba h4
        exact pe_isiT g1 hm (pe_pk (soundE a g tk h5) h5) (tys_ok g.blt t1) (of_decide_eq_true t2) (star_of h5 _ _) rfl
      · obtain ⟨t1, t2⟩ := ty_ok g.blt h4
        exact pe_isi1 g1 hm (pe_pk (soundE a g tk h5) h5) t1 (star_of h5 _ _) (t2 _) (by rw [t2]; rfl)
      · cases h4
    · cases h
  | .lc elt tg it c, X, W, ex, g, tk, h => by
    unfold chkE at h
    split at h
    · rename_i v t i ifs scope p
      have hE := (ba (ba (ba (ba h).2).2).2).1
      obtain ⟨B, pi, pg, pt, pe, fo, hm⟩ := lc_parts (W := W) g h (fun hi => soundI it g tk hi) (fun {X'} g' e1 e2 e3 => by
        rw [← e2]
        exact soundE elt g' takesF (by rw [e1, e3]; exact hE)) (fun {X' e} g' e1 e2 e3 hc => by
        rw [← e2]
        exact (soundT c g' takesF hc).1)
      refine pe_weak (pe_lc g.calm g.nd pi B pg pt pe fo) fun σ H Q hq => ?_
      rw [hm]
      exact lc_read hq
    · cases h
theorem soundEs : ∀ (m : Es) {X : Cx} {W : WX} {xs : List Expr}, Gd X C M xa k → Takes X W → chkEs M X.N X.env.scope xs m = true → PA X xs (tL X.K xa W (evA C m)) ∧ LenIs (evA C m) xs.length
  | .nil, X, W, xs, g, tk, h => by
    cases xs with
    | nil => exact ⟨pa_nil', fun ρ ds ρ' e => by cases e; rfl⟩
    | cons x r => cases h
  | .cons e es, X, W, xs, g, tk, h => by
    cases xs with
    | nil => cases h
    | cons x r =>
      obtain ⟨h1, h2⟩ := ba h
      obtain ⟨a, b⟩ := soundEs es g tk h2
      refine ⟨pa_cons' (soundE e g tk h1) a (star_of h1 _ _), fun ρ ds ρ' he => ?_⟩
      have he : (bindD (evE C e ρ) fun x ρ => (evA C es ρ).bind fun xs ρ => .ok (x :: xs) ρ) = .ok ds ρ' := he
      rw [bindD_dd] at he
      cases hd : dd (evE C e ρ) with
      | bad => rw [hd] at he; cases he
      | exc c x ρ1 => rw [hd] at he; cases he
      | ok d ρ1 =>
        rw [hd] at he
        have he : ((evA C es ρ1).bind fun xs ρ => .ok (d :: xs) ρ) = .ok ds ρ' := he
        cases hr : evA C es ρ1 with
        | bad => rw [hr] at he; cases he
        | exc c x ρ1 => rw [hr] at he; cases he
        | ok ys ρ2 =>
          rw [hr] at he
          cases he
          rw [List.length_cons, List.length_cons, b ρ1 ys _ hr]
theorem soundI : ∀ (m : It) {X : Cx} {W : WX} {tg ex : Expr}, Gd X C M xa k → Takes X W → chkI M X.N X.env.scope tg ex m = true → PI X tg ex (tI X.K xa W (evI C m)) ∧ ∀ x, foldedSetIterable ex X.env x = pure x
  | .rng es, X, W, tg, ex, g, tk, h => by
    have hm : X.mg "range" = none := g.blt _ (by decide)
    unfold chkI at h
    split at h
    · obtain ⟨h1, h2⟩ := ba h
      obtain ⟨h3, h4⟩ := ba h1
      have e1 := of_decide_eq_true h3
      subst e1
      obtain ⟨g1, g2⟩ := glb_of h4
      obtain ⟨a, b⟩ := soundEs es g tk h2
      cases es with
      | nil => cases h2
      | cons e es =>
        have s1 := star_of (ba h2).1 [] X.env
        exact ⟨pi_rngA g1 hm a b s1, fun x => rfl⟩
    · obtain ⟨h1, h2⟩ := ba h
      obtain ⟨h3, h4⟩ := ba h1
      have e1 := of_decide_eq_true h3
      subst e1
      obtain ⟨g1, g2⟩ := glb_of h4
      obtain ⟨a, b⟩ := soundEs es g tk h2
      cases es with
      | nil => cases h2
      | cons e1 es =>
        have k1 := (ba h2).1
        have k0 := (ba h2).2
        cases es with
        | nil => cases k0
        | cons e2 es =>
          have s2 := star_of (ba k0).1 [] X.env
          exact ⟨pi_rngB g1 hm a b (by rw [star_of k1, s2]; rfl) s2, fun x => rfl⟩
    · obtain ⟨h1, h2⟩ := ba h
      obtain ⟨h3, h4⟩ := ba h1
      have e1 := of_decide_eq_true h3
      subst e1
      obtain ⟨g1, g2⟩ := glb_of h4
      obtain ⟨a, b⟩ := soundEs es g tk h2
      cases es with
      | nil => cases h2
      | cons e1 es =>
        have k1 := (ba h2).1
        have k0 := (ba h2).2
        cases es with
        | nil => cases k0
        | cons e2 es =>
          have k2 := (ba k0).1
          have k3 := (ba k0).2
          cases es with
          | nil => cases k3
          | cons e3 es => exact ⟨pi_rngC g1 hm a b (star_of k1 _ _) (back_star k2 (back_star (ba k3).1 rfl)), fun x => rfl⟩
    · cases h
  | .of e, X, W, tg, ex, g, tk, h => ⟨pi_of (soundE e g tk h), fun x => fold_of h _ x⟩
  | .zip a b, X, W, tg, ex, g, tk, h => by
    have hm : X.mg "zip" = none := g.blt _ (by decide)
    unfold chkI at h
    split at h
    · obtain ⟨h1, h⟩ := ba h
      obtain ⟨h5, h6⟩ := ba h
      obtain ⟨h1, h4⟩ := ba h1
      obtain ⟨h2, h3⟩ := ba h1
      have e1 := of_decide_eq_true h2
      subst e1
      obtain ⟨g1, g2⟩ := glb_of h3
      cases tg <;> first | (cases h4; done) | skip
      exact ⟨pi_zip' g1 hm (soundE a g tk h5) (soundE b g tk h6) (star_of h5 _ _) (star_of h6 _ _) (back_star h6 rfl), fun x => rfl⟩
    · cases h
  | .enum a, X, W, tg, ex, g, tk, h => by
    have hm : X.mg "enumerate" = none := g.blt _ (by decide)
    unfold chkI at h
    split at h
    · obtain ⟨h1, h5⟩ := ba h
      obtain ⟨h1, h4⟩ := ba h1
      obtain ⟨h2, h3⟩ := ba h1
      have e1 := of_decide_eq_true h2
      subst e1
      obtain ⟨g1, g2⟩ := glb_of h3
      cases tg <;> first | (cases h4; done) | skip
      exact ⟨pi_enum' g1 hm (soundE a g tk h5) (star_of h5 [] _), fun x => rfl⟩
    · cases h
theorem soundT : ∀ (m : T) {X : Cx} {W : WX} {ex : Expr}, Gd X C M xa k → Takes X W → chkT M X.N X.env.scope ex m = true → PT X ex (tBo X.K xa W (evT C m)) ∧ ∀ op vs p, ex = .BoolOp op vs p → PW X ex (tBo X.K xa W (evT C m))
  | .e a, X, W, ex, g, tk, h => by
    unfold chkT at h
    split at h
    · cases h
    · cases h
    · cases h
    · rename_i n1 n2 n3
      refine ⟨?_, fun op vs p e => absurd e (n1 op vs p)⟩
      by_cases hc : ∃ l o r p, ex = .Compare l o r p
      · obtain ⟨l, o, r, p, rfl⟩ := hc
        cases a <;> first | (cases h; done) | skip
        · rename_i o a b
          unfold chkE at h
          split at h
          · rename_i e1
            cases e1
            obtain ⟨h1, hh⟩ := ba h
            obtain ⟨h2, h3⟩ := ba hh
            have e1 := of_decide_eq_true h1
            subst e1
            exact pt_cmpP (cmp_ok g.units o) (soundE a g tk h2) (pe_pk (soundE b g tk h3) h3) (mark_of h3 _)
          · cases h
        · rename_i o o' a b c
          unfold chkE at h
          split at h
          · rename_i e1
            cases e1
            obtain ⟨h0, h⟩ := ba h
            obtain ⟨h1, h2⟩ := ba h0
            obtain ⟨h3, h⟩ := ba h
            obtain ⟨h4, h5⟩ := ba h
            have e1 := of_decide_eq_true h1
            have e2 := of_decide_eq_true h2
            subst e1
            subst e2
            exact pt_chainP (cmp_ok g.units o) (cmp_ok g.units o') (soundE a g tk h3) (soundE b g tk h4) (soundE c g tk h5) (mark_of h5 _)
          · cases h
      · exact pt_val' (pe_pk (soundE a g tk h) h) (test_he n1 n2 n3 (fun l o r p e => hc ⟨l, o, r, p, e⟩) _)
  | .and a b, X, W, ex, g, tk, h => by
    unfold chkT at h
    split at h
    · obtain ⟨h1, h2⟩ := ba h
      have key := pw_and' (pos := by assumption) (soundT a g tk h1).1 (pw_and1 (soundT b g tk h2).1)
      exact ⟨key.pt, fun _ _ _ _ => key⟩
    · obtain ⟨h1, h2⟩ := ba h
      have key := pw_and' (soundT a g tk h1).1 ((soundT b g tk h2).2 _ _ _ rfl)
      exact ⟨key.pt, fun _ _ _ _ => key⟩
    · cases h
  | .or a b, X, W, ex, g, tk, h => by
    unfold chkT at h
    split at h
    · obtain ⟨h1, h2⟩ := ba h
      have key := pw_or' (pos := by assumption) (soundT a g tk h1).1 (pw_or1 (soundT b g tk h2).1)
      exact ⟨key.pt, fun _ _ _ _ => key⟩
    · obtain ⟨h1, h2⟩ := ba h
      have key := pw_or' (soundT a g tk h1).1 ((soundT b g tk h2).2 _ _ _ rfl)
      exact ⟨key.pt, fun _ _ _ _ => key⟩
    · cases h
  | .not a, X, W, ex, g, tk, h => by
    unfold chkT at h
    split at h
    · exact ⟨pt_not' (soundT a g tk h).1, fun _ _ _ e => nomatch e⟩
    · cases h
  | .yes, X, W, ex, g, tk, h => by cases h
end
end
end Pv

namespace Pv
open PySem L2 PyProof.Rows

def isStarE : Expr → Bool
  | .Starred _ _ => true
  | _ => false
def locNm (sc : Scope) (line : Nat) : Expr → Option Str
  | .Name id pos => if sc.names.lookup id == some .local && pos.line == line then some id else none
  | _ => none
def swNms (sc : Scope) (ts : List Expr) : List Str := ts.filterMap (locNm sc ((ts.head?.map (·.pos.line)).getD 0))
/-- what the text's own look says of stores that are exchanged -/
def swN (sc : Scope) (ts vs : List Expr) : Option (Option (List Str)) :=
  if (!(ts.length == 2 || ts.length == 3) || vs.length != ts.length || ScopeKind.function != ScopeKind.function) = true then some none
  else if vs.any isStarE = true then some none
  else if ((swNms sc ts).length != ts.length || (swNms sc ts).eraseDups.length != (swNms sc ts).length) = true then some none
  else if vs.all (foldedForSure 8) = true then some none
  else if vs.all (constantsAlone 8) = true then none
  else some (some (swNms sc ts))
def swM (sc : Scope) (ts vs : List Expr) : Sem (Option (List Str)) :=
  if (!(ts.length == 2 || ts.length == 3) || vs.length != ts.length || ScopeKind.function != ScopeKind.function) = true then pure none
  else if vs.any isStarE = true then pure none
  else if ((swNms sc ts).length != ts.length || (swNms sc ts).eraseDups.length != (swNms sc ts).length) = true then pure none
  else if vs.all (foldedForSure 8) = true then pure none
  else if vs.all (constantsAlone 8) = true then (do unsupported "assign.tuple-of-constant-expressions:order-of-the-stores"; pure (some (swNms sc ts)))
  else pure (some (swNms sc ts))
theorem swM_eq {env : PySem.Env} {ts vs : List Expr} {k k2 : Nat} {p p2 : Pos} (hk : env.scope.kind = .function) : swappedStores [.Tuple ts k p] (.Tuple vs k2 p2) env = swM env.scope ts vs := by
  have hb : env.blockKind = .function := by unfold Env.blockKind; rw [hk]; rfl
  unfold swappedStores
  rw [hb]
  rfl
theorem sw_eq {env : PySem.Env} {ts vs : List Expr} {k k2 : Nat} {p p2 : Pos} {o : Option (List Str)} (hk : env.scope.kind = .function) (h : swN env.scope ts vs = some o) : swappedStores [.Tuple ts k p] (.Tuple vs k2 p2) env = pure o := by
  rw [swM_eq hk]
  unfold swN at h
  unfold swM
  split at h
  · rename_i c1
    cases h
    rw [if_pos c1]
  · rename_i c1
    rw [if_neg c1]
    split at h
    · rename_i c2
      cases h
      rw [if_pos c2]
    · rename_i c2
      rw [if_neg c2]
      split at h
      · rename_i c3
        cases h
        rw [if_pos c3]
      · rename_i c3
        rw [if_neg c3]
        split at h
        · rename_i c4
          cases h
          rw [if_pos c4]
        · rename_i c4
          rw [if_neg c4]
          split at h
          · cases h
          · rename_i c5
            cases h
            rw [if_neg c5]
theorem sw_non {tg v : Expr} {env : PySem.Env} (h : ∀ vs k p, v ≠ .Tuple vs k p) : swappedStores [tg] v env = pure none := by
  cases tg <;> cases v <;> first | rfl | exact absurd rfl (h _ _ _)
theorem sws_tup {ts : List Expr} {k l : Nat} {p : Pos} {v : Expr} {env : PySem.Env} : swapsWithSole [.Tuple ts k p] v l env = pure false := by
  cases v <;> rfl
theorem sws_sub {o i : Expr} {p : Pos} {l : Nat} {v : Expr} {env : PySem.Env} : swapsWithSole [.Subscript o i p] v l env = pure false := by
  cases v <;> rfl
def isCompE : Expr → Bool
  | .ListComp _ _ _ _ => true
  | .SetComp _ _ _ _ => true
  | .DictComp _ _ _ _ _ => true
  | _ => false
theorem sw_nc {v : Expr} {t : Option Expr} {l : Nat} {env : PySem.Env} (h : isCompE v = false) : swapsWith v t l env = pure false := by
  cases v <;> first | rfl | cases h
def swB (sc : Scope) (x : Str) (px : Pos) : Expr → Bool
  | .ListComp _ _ scope pos => sc.names.lookup x == some .local && px.line == pos.line && !(scope.names.any fun (n, k) => n == x && (k == .local || k == .cell))
  | _ => false
theorem sw_lc {elt : Expr} {gs : List Comprehension} {scope : Scope} {pos px : Pos} {x : Str} {l : Nat} {env : PySem.Env} (hk : env.scope.kind = .function) : swapsWith (.ListComp elt gs scope pos) (some (.Name x px)) l env = pure (swB env.scope x px (.ListComp elt gs scope pos)) := by
  have hb : env.blockKind = .function := by unfold Env.blockKind; rw [hk]; rfl
  show pure (env.blockKind == .function && env.kindOf x == some .local && px.line == pos.line && !(scope.names.any fun (n, k) => n == x && (k == .local || k == .cell))) = _
  rw [hb]
  rfl
def parB (N : List Str) (sc : Scope) : List Expr → List Nat → Bool
  | [], [] => true
  | .Name x _ :: es, i :: is => decide (N[i]? = some x) && isLoc sc x && decide (i ∉ is) && parB N sc es is
  | _, _ => false
def nmsOf : List Expr → List Str
  | .Name x _ :: es => x :: nmsOf es
  | _ => []
def augOk (op : Operator) (o : BOp) : Bool := (decide (op = .Add) && decide (o = .add)) || (decide (op = .Sub) && decide (o = .sub))
section
variable (M : Nm) (N : List Str) (sc : Scope)
mutual
def chkS (st : Stmt) : S → Bool
  | .asg (.n i) e => (match st with
    | .Assign [.Name x p] v _ => chkNm N sc false (.Name x p) i && chkE M N sc v e
    | _ => false)
  | .asg (.t is) e => (match st with
    | .Assign [.Tuple ts k p] (.Tuple vs k2 p2) _ => chkTg N sc false (.Tuple ts k p) (.t is) && decide (swN sc ts vs = some none) && chkE M N sc (.Tuple vs k2 p2) e
    | .Assign [.Tuple ts k p] v _ => chkTg N sc false (.Tuple ts k p) (.t is) && !isTupE v && chkE M N sc v e
    | _ => false)
  | .par is es => (match st with
    | .Assign [.Tuple ts _ _] (.Tuple vs _ _) _ => (parB N sc ts is && decide (swN sc ts vs = some (some (nmsOf ts)))) && chkEs M N sc vs es
    | _ => false)
  | .set i x e => (match st with
    | .Assign [.Subscript (.Name y _) s _] v _ => nameB N sc i y && (chkE M N sc s x && (chkE M N sc v e && !isTupE v))
    | _ => false)
  | .aug i o e => (match st with
    | .AugAssign (.Name x p) op v _ => chkNm N sc false (.Name x p) i && augOk op o && chkE M N sc v e
    | _ => false)
  | .app i e => (match st with
    | .Expr (.Call (.Attribute (.Name x _) a apos) [v] [] cpos) _ => nameB N sc i x && (decide (a = ("append" : Str)) && (apos.endLine == cpos.line)) && chkE M N sc v e
    | _ => false)
  | .expr e => (match st with
    | .Expr v _ => !isCompE v && chkE M N sc v e
    | _ => false)
  | .ite c a b => (match st with
    | .If t xs ys _ => chkT M N sc t c && (chkSs xs a && chkSs ys b)
    | _ => false)
  | .whl c b => (match st with
    | .While t xs [] _ => chkT M N sc t c && chkSs xs b
    | _ => false)
  | .for_ t it b => (match st with
    | .For tg i xs [] _ => chkTg N sc false tg t && (chkI M N sc tg i it && chkSs xs b)
    | _ => false)
  | .ret e => (match st with
    | .Return (some v) _ => chkE M N sc v e
    | _ => false)
  | .retv i => (match st with
    | .Return (some (.Name x _)) _ => nameB N sc i x
    | _ => false)
  | .retN => (match st with
    | .Return none _ => true
    | _ => false)
  | .raise c => (match st with
    | .Raise (some (.Call (.Name x _) [] [] _)) none _ => isGlb sc x && decide (M.ex[c]? = some x)
    | _ => false)
  | .raisex _ _ => (match st with
    | .Raise _ _ _ => true
    | _ => false)
  | .pass => (match st with
    | .Pass _ => true
    | _ => false)
  | .brk => (match st with
    | .Break _ => true
    | _ => false)
  | .ct => (match st with
    | .Continue _ => true
    | _ => false)
def chkSs (sts : List Stmt) : Ss → Bool
  | .nil => (match sts with
    | [] => true
    | _ => false)
  | .cons s r => (match sts with
    | st :: rest => chkS st s && chkSs rest r
    | _ => false)
end
end
structure GdS (X : Cx) (C : Cfg) (M : Nm) (xa : Nat → Addr) (k : Nat) : Prop extends Gd X C M xa k where
  fnall : ∀ x, X.fn x = true
  pass : PassesOwn (model X.prog X.w) X.A X.env X.xe
section
variable {C : Cfg} {M : Nm} {xa : Nat → Addr} {k : Nat}
theorem asg1 {tg : Expr} {env : PySem.Env} (h : ∀ e p, tg ≠ .Starred e p) : (assignEach [tg] env).map (·.2) = [assign tg env] := by
  cases tg <;> first | rfl | exact absurd rfl (h _ _)
theorem aug_add {x y z : D} (h : augD .add x y = some z) : ∃ a b, x = .int a ∧ y = .int b ∧ z = .int ((fun i j => i + j) a b) := by
  cases x <;> cases y <;> first | (cases h; done) | skip
  cases h
  exact ⟨_, _, rfl, rfl, rfl⟩
theorem aug_sub {x y z : D} (h : augD .sub x y = some z) : ∃ a b, x = .int a ∧ y = .int b ∧ z = .int ((fun i j => i - j) a b) := by
  cases x <;> cases y <;> first | (cases h; done) | skip
  cases h
  exact ⟨_, _, rfl, rfl, rfl⟩
theorem parB_cons {N : List Str} {sc : Scope} {ts : List Expr} {i : Nat} {is : List Nat} (h : parB N sc ts (i :: is) = true) : ∃ x p es, ts = .Name x p :: es ∧ N[i]? = some x ∧ sc.names.lookup x = some .local ∧ i ∉ is ∧ parB N sc es is = true := by
  cases ts with
  | nil => cases h
  | cons e es =>
    cases e <;> first | (cases h; done) | skip
    rename_i x p
    obtain ⟨h1, h4⟩ := ba h
    obtain ⟨h1, h3⟩ := ba h1
    obtain ⟨h1, h2⟩ := ba h1
    exact ⟨x, p, es, rfl, of_decide_eq_true h1, of_decide_eq_true h2, of_decide_eq_true h3, h4⟩
theorem parB_nil {N : List Str} {sc : Scope} {ts : List Expr} (h : parB N sc ts [] = true) : ts = [] := by
  cases ts with
  | nil => rfl
  | cons e es => cases e <;> cases h
theorem parB_len {N : List Str} {sc : Scope} : ∀ {is : List Nat} {ts : List Expr}, parB N sc ts is = true → ts.length = is.length
  | [], ts, h => by rw [parB_nil h]; rfl
  | i :: is, ts, h => by
    obtain ⟨x, p, es, rfl, _, _, _, h5⟩ := parB_cons h
    rw [List.length_cons, List.length_cons, parB_len h5]
theorem swN_len {sc : Scope} {ts vs : List Expr} {l : List Str} (h : swN sc ts vs = some (some l)) : (ts.length = 2 ∨ ts.length = 3) ∧ vs.length = ts.length := by
  unfold swN at h
  split at h
  · cases h
  · rename_i c1
    have c1 := Bool.eq_false_iff.mpr c1
    obtain ⟨c1, _⟩ := Bool.or_eq_false_iff.mp c1
    obtain ⟨c1, c2⟩ := Bool.or_eq_false_iff.mp c1
    refine ⟨?_, by simpa using c2⟩
    have c3 : ¬ ts.length = 2 → ts.length = 3 := by simpa using c1
    omega
theorem par_sound {X : Cx} {W : WX} {ts vs : List Expr} {is : List Nat} {es : Es} {k1 k2 : Nat} {p1 p2 pos : Pos} (hc : X.calm = true) (nd : X.N.Nodup) (h1 : parB X.N X.env.scope ts is = true) (hs : swN X.env.scope ts vs = some (some (nmsOf ts))) (sw : swappedStores [.Tuple ts k1 p1] (.Tuple vs k2 p2) X.env = pure (some (nmsOf ts)))
    (pa : PA X vs (tL X.K xa W (evA C es))) (ln : LenIs (evA C es) vs.length) : PS X (.Assign [.Tuple ts k1 p1] (.Tuple vs k2 p2) pos) (tS X.K xa W (evS C (.par is es))) := by
  obtain ⟨hl, hv⟩ := swN_len hs
  have hl2 := parB_len h1
  match is, h1, hl2 with
  | [], h1, hl2 => rw [hl2] at hl; rcases hl with hl | hl <;> cases hl
  | [i], h1, hl2 => rw [hl2] at hl; rcases hl with hl | hl <;> cases hl
  | [i, j], h1, hl2 =>
    obtain ⟨x, px, es1, rfl, a1, a2, a3, h1⟩ := parB_cons h1
    obtain ⟨y, py, es2, rfl, b1, b2, b3, h1⟩ := parB_cons h1
    have e0 := parB_nil h1
    subst e0
    match vs, hv, pa, ln, sw with
    | [a, b], _, pa, ln, sw => exact ps_par2' ln (ps_par hc nd a1 b1 (by simpa using a3) a2 b2 pa sw)
  | [i, j, l], h1, hl2 =>
    obtain ⟨x, px, es1, rfl, a1, a2, a3, h1⟩ := parB_cons h1
    obtain ⟨y, py, es2, rfl, b1, b2, b3, h1⟩ := parB_cons h1
    obtain ⟨z, pz, es3, rfl, c1, c2, c3, h1⟩ := parB_cons h1
    have e0 := parB_nil h1
    subst e0
    have a4 : i ≠ j ∧ i ≠ l := by simpa using a3
    have b4 : j ≠ l := by simpa using b3
    match vs, hv, pa, ln, sw with
    | [a, b, c], _, pa, ln, sw => exact ps_par3' ln (ps_par3 hc nd a1 b1 c1 a4.1 a4.2 b4 a2 b2 c2 pa sw)
  | i :: j :: l :: m :: r, h1, hl2 =>
    rw [hl2] at hl
    simp only [List.length_cons] at hl
    omega
theorem sub_asg {o i : Expr} {p : Pos} {env : PySem.Env} {N : List Str} {sc : Scope} {m : E} (h : chkE M N sc i m = true) (v : Value) : assign (.Subscript o i p) env v = (do
    let ov ← holding [v] (eval o env)
    let iv ← holding [v, ov] (eval i env)
    standAt p
    holding [v, ov, iv] (setItem ov iv v)
    release [v, ov, iv] []) := by
  cases i <;> first | rfl | (rw [chk_slice] at h; cases h)
mutual
theorem soundS : ∀ (m : S) {X : Cx} {W : WX} {st : Stmt}, GdS X C M xa k → Takes X W → chkS M X.N X.env.scope st m = true → PS X st (tS X.K xa W (evS C m))
  | .asg (.n i) e, X, W, st, g, tk, h => by
    unfold chkS at h
    split at h
    · rename_i x p v pos
      obtain ⟨h1, h2⟩ := ba h
      have hE := soundE e g.toGd tk h2
      obtain ⟨pg, _⟩ := nm_ok g.nd (.inr g.fnall) h1
      have other : swapsWith v (some (.Name x p)) pos.line X.env = pure false → PS X (.Assign [.Name x p] v pos) (tS X.K xa W (evS C (.asg (.n i) e))) := fun hs =>
        ps_asgN (ps_asg hE pg hs (by cases v <;> rfl) rfl) fun σ H Q hq => hq
      cases hc : isCompE v with
      | false => exact other (sw_nc hc)
      | true =>
        cases v <;> first | (cases hc; done) | (cases e <;> cases h2; done) | skip
        rename_i elt gs scope p2
        cases hb : swB X.env.scope x p (.ListComp elt gs scope p2) with
        | false => exact other (by rw [sw_lc g.kind, hb])
        | true =>
          have hloc : X.env.scope.names.lookup x = some .local := by
            have hb' := (ba (ba hb).1).1
            exact eq_of_beq hb'
          have hN : X.N[i]? = some x := of_decide_eq_true (ba h1).1
          cases e <;> first | (cases h2; done) | skip
          rename_i el tg it c
          unfold chkE at h2
          split at h2
          · rename_i v t i' ifs scope' p3 heq
            cases heq
            have hE := (ba (ba (ba (ba h2).2).2).2).1
            obtain ⟨B, pi, pg', pt, pe, fo, hm⟩ := lc_parts (W := W) g.toGd h2 (fun hi => soundI it g.toGd tk hi) (fun {X'} g' e1 e2 e3 => by
              rw [← e2]
              exact soundE el g' takesF (by rw [e1, e3]; exact hE)) (fun {X' e} g' e1 e2 e3 hc => by
              rw [← e2]
              exact (soundT c g' takesF hc).1)
            have key := ps_setLc (py := p) (spos := pos) g.calm g.nd hN hloc (by rw [sw_lc g.kind, hb]) pi B pg' pt pe fo
            rw [hm] at key
            exact ps_asgN key fun σ H Q hq => lc_read hq
          · cases h2
    · cases h
  | .asg (.t is) e, X, W, st, g, tk, h => by
    unfold chkS at h
    split at h
    · obtain ⟨h1, h2⟩ := ba h
      obtain ⟨h1, h3⟩ := ba h1
      exact ps_asgT (soundE e g.toGd tk h2) (tg_ok g.calm g.nd (.inr g.fnall) h1) sws_tup (sw_eq g.kind (of_decide_eq_true h3)) rfl
    · obtain ⟨h1, h2⟩ := ba h
      obtain ⟨h1, h3⟩ := ba h1
      exact ps_asgT (soundE e g.toGd tk h2) (tg_ok g.calm g.nd (.inr g.fnall) h1) sws_tup (sw_non fun vs k p z => by rw [z] at h3; cases h3) rfl
    · cases h
  | .par is es, X, W, st, g, tk, h => by
    unfold chkS at h
    split at h
    · obtain ⟨h1, h2⟩ := ba h
      obtain ⟨h1, h3⟩ := ba h1
      have hs := of_decide_eq_true h3
      obtain ⟨pa, ln⟩ := soundEs es g.toGd tk h2
      exact par_sound g.calm g.nd h1 hs (sw_eq g.kind hs) pa ln
    · cases h
  | .set i x e, X, W, st, g, tk, h => by
    unfold chkS at h
    split at h
    · obtain ⟨h1, h⟩ := ba h
      obtain ⟨h2, h⟩ := ba h
      obtain ⟨h3, h4⟩ := ba h
      exact ps_set' (soundE e g.toGd tk h3) (pg_sub (name_of h1) (pe_toD (soundE x g.toGd tk h2)) set_list (sub_asg h2)) sws_sub (sw_non fun vs k p z => by rw [z] at h4; cases h4) rfl
    · cases h
  | .aug i o e, X, W, st, g, tk, h => by
    unfold chkS at h
    split at h
    · rename_i x p op v pos
      obtain ⟨h1, h3⟩ := ba h
      obtain ⟨h1, h2⟩ := ba h1
      have hE := pe_toD (soundE e g.toGd tk h3)
      obtain ⟨h4, h5⟩ := ba h1
      have hx : Loc X.env.scope x := by
        rcases Bool.or_eq_true_iff.mp h5 with h5 | h5
        · exact .inl (of_decide_eq_true h5)
        · exact .inr (of_decide_eq_true (ba h5).2)
      have hN := of_decide_eq_true h4
      unfold augOk at h2
      rcases Bool.or_eq_true_iff.mp h2 with h2 | h2
      · obtain ⟨e1, e2⟩ := ba h2
        have e1 := of_decide_eq_true e1
        have e2 := of_decide_eq_true e2
        subst e1
        subst e2
        exact ps_aug' (ps_aug g.nd hN hx hE ip_add (.inl (g.fnall x))) fun x y z hz => aug_add hz
      · obtain ⟨e1, e2⟩ := ba h2
        have e1 := of_decide_eq_true e1
        have e2 := of_decide_eq_true e2
        subst e1
        subst e2
        exact ps_aug' (ps_aug g.nd hN hx hE ip_sub (.inl (g.fnall x))) fun x y z hz => aug_sub hz
    · cases h
  | .app i e, X, W, st, g, tk, h => by
    unfold chkS at h
    split at h
    · obtain ⟨h1, h5⟩ := ba h
      clear h
      obtain ⟨h0, h2⟩ := ba h1
      clear h1
      obtain ⟨h2, h3⟩ := ba h2
      have e1 := of_decide_eq_true h2
      subst e1
      have hE := soundE e g.toGd tk h5
      have hs := star_of h5 [] X.env
      refine ps_app' (ps_expr (pe_bm PySem.F.plainAttrs_list PySem.F.slot_list_append PySem.F.type_list_append mt_append (name_of h0) (pa_cons (pe_toD hE) pa_nil hs) rfl ?_ h3 hs rfl))
      rw [hs]
      rfl
    · cases h
  | .expr e, X, W, st, g, tk, h => by
    unfold chkS at h
    split at h
    · rename_i v p
      obtain ⟨h1, h2⟩ := ba h
      exact ps_expr' (soundE e g.toGd tk h2) (sw_nc (by cases hc : isCompE v with | false => rfl | true => rw [hc] at h1; cases h1))
    · cases h
  | .ite c a b, X, W, st, g, tk, h => by
    unfold chkS at h
    split at h
    · obtain ⟨h1, h⟩ := ba h
      obtain ⟨h2, h3⟩ := ba h
      exact ps_ite' (soundT c g.toGd tk h1).1 (soundSs a g tk h2) (soundSs b g tk h3)
    · cases h
  | .whl c b, X, W, st, g, tk, h => by
    unfold chkS at h
    split at h
    · obtain ⟨h1, h2⟩ := ba h
      exact ps_whl' g.pass (soundT c g.toGd tk h1).1 (soundSs b g tk h2)
    · cases h
  | .for_ t it b, X, W, st, g, tk, h => by
    unfold chkS at h
    split at h
    · obtain ⟨h1, h⟩ := ba h
      obtain ⟨h2, h3⟩ := ba h
      obtain ⟨pi, fo⟩ := soundI it g.toGd tk h2
      exact ps_for' g.pass g.calm pi (tg_ok g.calm g.nd (.inr g.fnall) h1) (soundSs b g tk h3) fo
    · cases h
  | .ret e, X, W, st, g, tk, h => by
    unfold chkS at h
    split at h
    · exact ps_ret' (soundE e g.toGd tk h)
    · cases h
  | .retv i, X, W, st, g, tk, h => by
    unfold chkS at h
    split at h
    · exact ps_retv' (name_of h)
    · cases h
  | .retN, X, W, st, g, tk, h => by
    unfold chkS at h
    split at h
    · exact ps_retN'
    · cases h
  | .raise c, X, W, st, g, tk, h => by
    unfold chkS at h
    split at h
    · rename_i x p p2 p3
      obtain ⟨h1, h2⟩ := ba h
      obtain ⟨g1, g2⟩ := glb_of h1
      obtain ⟨e1, e2, e3, e4, e5⟩ := g.exs c x (of_decide_eq_true h2)
      exact ps_raise0 g.calm tk (pmk_own0 PySem.F.excBase_ValueError e3 e1 e2 (raises_own e4 e5) g1 g2)
    · cases h
  | .raisex c x, X, W, st, g, tk, h => ps_bad fun ρ => rfl
  | .pass, X, W, st, g, tk, h => by
    unfold chkS at h
    split at h
    · exact ps_pass'
    · cases h
  | .brk, X, W, st, g, tk, h => by
    unfold chkS at h
    split at h
    · exact ps_brk'
    · cases h
  | .ct, X, W, st, g, tk, h => by
    unfold chkS at h
    split at h
    · exact ps_ct'
    · cases h
theorem soundSs : ∀ (m : Ss) {X : Cx} {W : WX} {sts : List Stmt}, GdS X C M xa k → Takes X W → chkSs M X.N X.env.scope sts m = true → PSs X sts (tS X.K xa W (evSs C m))
  | .nil, X, W, sts, g, tk, h => by
    cases sts with
    | nil => exact pss_nil'
    | cons s r => cases h
  | .cons s r, X, W, sts, g, tk, h => by
    cases sts with
    | nil => cases h
    | cons st rest =>
      obtain ⟨h1, h2⟩ := ba h
      exact pss_cons' (soundS s g tk h1) (soundSs r g tk h2)
end
end
end Pv

namespace Pv
open PySem L2 PyProof.Rows
/-! ### a def's promise -/
theorem argR_len {K : PySem.W.Frag} {F H : Hp} : ∀ {vs : List V} {as : List Slot}, ArgR K F H vs as → vs.length = as.length
  | [], [], _ => rfl
  | [], _ :: _, h => h.elim
  | _ :: _, [], h => h.elim
  | v :: vs, .v d :: ss, h => congrArg Nat.succ (argR_len h.2)
  | v :: vs, .io d :: ss, h => congrArg Nat.succ (argR_len h.2)
  | v :: vs, .raw d :: ss, h => congrArg Nat.succ (argR_len h.2)
  | v :: vs, .own d :: ss, h => h.elim
  | v :: vs, .fz d :: ss, h => h.elim
def isVS : Slot → Bool
  | .v _ => true
  | _ => false
theorem argR_get {K : PySem.W.Frag} {F H : Hp} : ∀ {vs : List V} {as : List Slot} {i : Nat} {s : Slot}, ArgR K F H vs as → as[i]? = some s → ∃ v, vs[i]? = some v ∧ match s with
    | .v d => Rep K F v d
    | .io xs => ∃ p us, v = .ref p ∧ F p = none ∧ H p = some (.lst us) ∧ Reps K F us xs
    | .raw xs => ∃ p us, v = .ref p ∧ SqL K F p us ∧ Reps K F us xs
    | _ => False
  | [], [], i, s, _, h => by simp at h
  | [], _ :: _, _, _, h, _ => h.elim
  | _ :: _, [], _, _, h, _ => h.elim
  | v :: vs, .v d :: ss, 0, s, h, e => by cases e; exact ⟨v, rfl, h.1⟩
  | v :: vs, .io d :: ss, 0, s, h, e => by cases e; exact ⟨v, rfl, h.1⟩
  | v :: vs, .raw d :: ss, 0, s, h, e => by cases e; exact ⟨v, rfl, h.1⟩
  | v :: vs, .v d :: ss, i + 1, s, h, e => by obtain ⟨w, h1, h2⟩ := argR_get (i := i) h.2 (by simpa using e); exact ⟨w, by simpa using h1, h2⟩
  | v :: vs, .io d :: ss, i + 1, s, h, e => by obtain ⟨w, h1, h2⟩ := argR_get (i := i) h.2 (by simpa using e); exact ⟨w, by simpa using h1, h2⟩
  | v :: vs, .raw d :: ss, i + 1, s, h, e => by obtain ⟨w, h1, h2⟩ := argR_get (i := i) h.2 (by simpa using e); exact ⟨w, by simpa using h1, h2⟩
  | v :: vs, .own d :: ss, _, _, h, _ => h.elim
  | v :: vs, .fz d :: ss, _, _, h, _ => h.elim
theorem argOk_io : ∀ {as : List Slot} {i : Nat} {xs : List D}, argOk as = true → as[i]? = some (.io xs) → i = 0
  | [], _, _, _, e => by simp at e
  | s :: r, 0, _, _, _ => rfl
  | .v d :: r, i + 1, xs, h, e => by
    have e : r[i]? = some (.io xs) := by simpa using e
    have := List.all_eq_true.mp (show r.all _ = true from h) _ (List.mem_of_getElem? e)
    cases this
  | .io d :: r, i + 1, xs, h, e => by
    have e : r[i]? = some (.io xs) := by simpa using e
    have := List.all_eq_true.mp (show r.all _ = true from h) _ (List.mem_of_getElem? e)
    cases this
  | [.raw d], i + 1, xs, h, e => by simp at e
  | .raw d :: b :: r, i + 1, xs, h, e => by cases h
  | .own d :: r, i + 1, xs, h, e => by cases h
  | .fz d :: r, i + 1, xs, h, e => by cases h
theorem ioAddr_io {v : V} {vs : List V} {xs : List D} {as : List Slot} {p : Addr} (h : v = .ref p) : ioAddr (v :: vs) (.io xs :: as) = some p := by subst h; rfl
theorem ioAddr_some {vs : List V} {as : List Slot} {p : Addr} (h : ioAddr vs as = some p) : ∃ vr xs ar, vs = .ref p :: vr ∧ as = .io xs :: ar := by
  unfold ioAddr at h
  split at h
  · cases h; exact ⟨_, _, _, rfl, rfl⟩
  · cases h
theorem start_get {N : List Str} {as : List Slot} {n i : Nat} {s : Slot} (h : (as.map some ++ List.replicate n none)[i]? = some (some s)) : as[i]? = some s := by
  by_cases hi : i < as.length
  · rw [List.getElem?_append_left (by simpa using hi), List.getElem?_map] at h
    cases e : as[i]? with
    | none => rw [e] at h; cases h
    | some t => rw [e] at h; cases h; rfl
  · rw [List.getElem?_append_right (by simpa using Nat.le_of_not_lt hi)] at h
    rw [List.getElem?_replicate] at h
    split at h <;> cases h
/-- what is meant by the beginning of a def -/
theorem rel_start {K : PySem.W.Frag} {F H : Hp} {vs : List V} {as : List Slot} {N : List Str} {n : Nat} (ex : Ex F H) (ar : ArgR K F H vs as) (ok : argOk as = true) (hn : n = N.length - as.length) :
    Rel K ⟨F, H, fun a => ioAddr vs as = some a, ioAddr vs as⟩ F H (as.map some ++ List.replicate n none) (L2.start N vs) := by
  have hl := argR_len ar
  have io0 : ∀ {i : Nat} {s : Slot}, (as.map some ++ List.replicate n none)[i]? = some (some s) → s.isM = true → i = 0 := fun {i s} h hm => by
    have h := start_get (N := N) h
    cases s with
    | io xs => exact argOk_io ok h
    | own xs => obtain ⟨v, _, q⟩ := argR_get ar h; exact q.elim
    | v d => cases hm
    | fz xs => cases hm
    | raw xs => cases hm
  refine ⟨?_, Ex.refl F, ex, fun i s h => ?_, fun i j s t p hij h1 h2 m1 m2 _ => absurd ((io0 h1 m1).trans (io0 h2 m2).symm) hij, fun a o h _ => h, fun a h _ _ => h, fun p hp => ?_, fun p hp => hp⟩
  · unfold L2.start
    rw [List.length_append, List.length_append, List.length_map, List.length_map, List.length_replicate, List.length_replicate, hn, hl]
  · have h := start_get (N := N) h
    obtain ⟨v, hv, q⟩ := argR_get ar h
    refine ⟨v, ?_, ?_⟩
    · unfold L2.start
      have hi : i < vs.length := (List.getElem?_eq_some_iff.mp hv).1
      rw [List.getElem?_append_left (by simpa using hi), List.getElem?_map, hv]
      rfl
    · cases s with
      | v d => exact q
      | io xs =>
        obtain ⟨p, us, rfl, q1, q2, q3⟩ := q
        have i0 := argOk_io ok h
        subst i0
        have : ioAddr vs as = some p := by
          cases as with
          | nil => simp at h
          | cons a as =>
            cases vs with
            | nil => simp at hv
            | cons w vs =>
              simp at h hv
              subst h
              subst hv
              rfl
        exact ⟨p, us, rfl, q1, q2, q3, this, this⟩
      | raw xs => exact q
      | own xs => exact q.elim
      | fz xs => exact q.elim
  · obtain ⟨vr, xs, ar', rfl, rfl⟩ := ioAddr_some hp
    obtain ⟨⟨q, us, e, _, h2, _⟩, _⟩ := ar
    cases e
    rw [h2]
    exact fun z => nomatch z
section
variable {K : PySem.W.Frag} {F H F' H' : Hp} {vs : List V} {as : List Slot} {ρ : Env} {σ : L2.St} {v : V}
theorem frame_of (r : Rel K ⟨F, H, fun a => ioAddr vs as = some a, ioAddr vs as⟩ F' H' ρ σ) : Frame F H (ioAddr vs as) F' H' := ⟨fun a o h hn => r.frm a o h hn, fun a h1 h2 hn => r.old a h1 h2 hn⟩
theorem out_of {o : Option Slot} (r : Rel K ⟨F, H, fun a => ioAddr vs as = some a, ioAddr vs as⟩ F' H' ρ σ) (h : outOf as ρ = some o) : OutR K F' H' (ioAddr vs as) o := by
  unfold outOf at h
  split at h
  · have get : ∀ s, ρ.getD 0 none = some s → ρ[0]? = some (some s) := fun s e => by
      rw [List.getD_eq_getElem?_getD] at e
      cases hr : ρ[0]? with
      | none => rw [hr] at e; cases e
      | some t => rw [hr] at e; rw [show t = some s from e]
    split at h
    · rename_i xs hs
      cases h
      obtain ⟨w, _, p, us, _, q1, q2, q3, _, q5⟩ := r.slot 0 _ (get _ hs)
      exact ⟨p, us, q5, q1, q2, q3⟩
    · rename_i xs hs
      cases h
      obtain ⟨w, _, p, e, q1, q2⟩ := r.slot 0 _ (get _ hs)
      subst e
      exact ⟨p, q1, q2⟩
    · cases h
  · rename_i hn
    cases h
    show ioAddr vs as = none
    cases hi : ioAddr vs as with
    | none => rfl
    | some p =>
      obtain ⟨vr, xs, ar', _, e⟩ := ioAddr_some hi
      exact absurd e (hn xs ar')
theorem vrc_of {x : Val} (h : VR K ⟨F, H, fun a => ioAddr vs as = some a, ioAddr vs as⟩ F' H' ρ σ v x) : VRc K H F' H' (ioAddr vs as) v x := by
  cases x with
  | pv d => exact h
  | fr xs =>
    obtain ⟨p, us, e, h1, h2, h3, h4, _, h6, _⟩ := h
    exact ⟨p, us, e, h1, h2, h3, h4, h6⟩
end
/-- a def of the program and its form in the pure language -/
structure DefOk (K : PySem.W.Frag) (mg : Str → Option Value) (M : Nm) (PL : List Fn) (PN : Nat → List Str) (j : Nat) (x : Str) where
  F : Fn
  hF : PL[j]? = some F
  N : List Str
  ps : List Str
  hps : ps = PN j
  qual : Str
  params : Arguments
  body : List Stmt
  scope : Scope
  f : Addr
  fd : FuncData
  fun_ : FunD K x qual params body scope [] [] f fd
  mg_ : mg x = some (.ref f)
  binds : Binds K fd ps []
  bindA : ∀ (s : Shared) (us : List Value), us.length = ps.length → BindsTo s fd ⟨us, []⟩ (ps.zip us)
  sc : FnScope N ps scope
  nl : N.length = F.nl
  ar : ps.length = F.ar
  chk : chkSs M N scope body F.body = true
section
variable {P : Program} {w : World} {K : PySem.W.Frag} {mg : Str → Option Value} {base : Heap} {M : Nm} {PL : List Fn} {gl : Nat → Option D} {xa : Nat → Addr}
theorem spOf_len {call : Nat → List Slot → FR} {j : Nat} {vs : List V} {H : Hp} {Q : VK} {E : XK} (h : spOf K xa call j vs H Q E) : ∃ as, vs.length = as.length ∧ call j as ≠ .bad := by
  obtain ⟨F, as, _, ar, q⟩ := h
  exact ⟨as, argR_len ar, fun z => by rw [z] at q; exact q⟩
/-- THE WALK: every def of the program does what its pure form tells -/
theorem levels {PN : Nat → List Str} (dk : (j : Nat) → (x : Str) → M.fn[j]? = some x → DefOk K mg M PL PN j x)
    (hgl : ∀ (j : Nat) (x : Str) (d : D), M.gl[j]? = some x → gl j = some d → ∃ u v, mg x = some u ∧ RelV v u ∧ ∀ F, Rep K F v d)
    (hblt : ∀ x ∈ bltNms, mg x = none)
    (hex : ∀ (c : Nat) (x : Str), M.ex[c]? = some x → mg x = some (.ref (xa c)) ∧ PySem.W.keepIn K (.ref (xa c)) = true ∧ PySem.W.excIn K (xa c) He.veBase "ValueError.__new__" = true ∧ PySem.W.subIn K (.ref (xa c)) (.type "BaseException") = some true ∧ PySem.W.typeIn K (.ref (xa c)) = some (.type "type")) :
    ∀ (n j : Nat) (x : Str) (hx : M.fn[j]? = some x), FnOk P w K mg base (L2.CX P w) n (dk j x hx).f (dk j x hx).fd (dk j x hx).ps (spOf K xa (run PL gl n) j)
  | 0, j, x, hx => ⟨fun vs H Q E h => by obtain ⟨as, _, h⟩ := spOf_len h; exact absurd rfl h, fun A outer s H args us vs Q E _ _ _ _ h => by obtain ⟨as, _, h⟩ := spOf_len h; exact absurd rfl h⟩
  | n + 1, j, x, hx => by
    have ih := levels dk hgl hblt hex n
    generalize dk j x hx = D
    obtain ⟨F, hF, DN, Dps, eps, Dqual, Dparams, Dbody, Dscope, Df, Dfd, Dfun, Dmg, Dbinds, DbA, Dsc, Dnl, Dar, Dchk⟩ := D
    dsimp only
    have good : ∀ as, run PL gl (n + 1) j as ≠ .bad → as.length = F.ar ∧ argOk as = true ∧ run PL gl (n + 1) j as = finR as (evSs ⟨run PL gl n, gl⟩ F.body (as.map some ++ List.replicate (F.nl - F.ar) none)) := fun as h => by
      unfold run at h ⊢
      rw [hF] at h ⊢
      dsimp only at h ⊢
      split at h
      · rename_i hc
        exact ⟨hc.1, hc.2, if_pos hc⟩
      · exact absurd rfl h
    refine Dfun.ok Dsc (fun vs H Q E h => ?_) fun cdv A outer s H vs Q E hr hsp => ?_
    · obtain ⟨as, hl, h⟩ := spOf_len h
      rw [hl, (good as h).1, Dar]
    · obtain ⟨F0, as, ex, ar, q⟩ := hsp
      have hg := good as (fun z => by rw [z] at q; exact q)
      obtain ⟨g1, g2, g3⟩ := hg
      rw [g3] at q
      refine ⟨tS K xa (fun cls d _ H => E cls d H) (evSs ⟨run PL gl n, gl⟩ F.body), ?_, ?_⟩
      · refine soundSs (C := ⟨run PL gl n, gl⟩) (M := M) (xa := xa) (k := n) F.body (X := cxOf (L2.CX P w) P w K mg base DN Dqual Dscope Df cdv A outer s H E) ?_ ?_ Dchk
        · exact { calm := rfl, nd := Dsc.nd, kind := Dsc.kind, room := hr, fns := fun j x hx => ⟨(dk j x hx).f, (dk j x hx).fd, (dk j x hx).ps, (dk j x hx).mg_, (dk j x hx).fun_.kp, (dk j x hx).binds, ih j x hx⟩, gls := fun j x d h1 h2 => hgl j x d h1 h2, blt := hblt, exs := hex, fnall := fun _ => rfl, pass := passes_of rfl }
        · exact takes_of rfl rfl rfl rfl
      · refine ⟨_, F0, _, ?_, rel_start ex ar g2 (by rw [g1, Dnl]), ?_⟩
        · exact fun a h => h
        · generalize hR : evSs ⟨run PL gl n, gl⟩ F.body (as.map some ++ List.replicate (F.nl - F.ar) none) = r at q
          cases r with
          | bad => exact q.elim
          | brk ρ => exact q.elim
          | ct ρ => exact q.elim
          | nx ρ =>
            intro F' H' σ' ex' rel
            unfold finR at q
            cases ho : outOf as ρ with
            | none => simp only [ho] at q
            | some o =>
              simp only [ho] at q
              exact q F' H' .non ex' rel.sub (frame_of rel) (out_of rel ho) .non
          | ret x ρ =>
            intro F' H' σ' v ex' rel hv
            unfold finR at q
            cases ho : outOf as ρ with
            | none => simp only [ho] at q
            | some o =>
              simp only [ho] at q
              exact q F' H' v ex' rel.sub (frame_of rel) (out_of rel ho) (vrc_of hv)
          | exc c x ρ =>
            unfold finR at q
            cases ho : outOf as ρ with
            | none => simp only [ho] at q
            | some o =>
              simp only [ho] at q
              cases x with
              | some d => exact q.elim
              | none =>
                intro F' H' σ' ex' rel
                exact q F' H' ex' rel.sub (frame_of rel) (out_of rel ho)
end
end Pv

namespace Pv
open PySem L2 PyProof.Rows
/-! ### a law's end: what the head tells, read for the defs and the constants -/
def vOf : D → Value → V
  | .none, _ => .non
  | .bool b, _ => .bl b
  | .int i, _ => .int i
  | .str s, _ => .str s
  | _, .ref a => .ref a
  | _, _ => .non
mutual
def repB (K : PySem.W.Frag) (u : Value) : D → Bool
  | .none => (match u with
    | .none => true
    | _ => false)
  | .bool b => (match u with
    | .bool c => b == c
    | _ => false)
  | .int i => (match u with
    | .int j _ => decide (j = i)
    | _ => false)
  | .str s => (match u with
    | .str t _ => decide (t = s)
    | _ => false)
  | .tuple ds => (match u with
    | .ref a => (match K.lookup a with
      | some ⟨.type c, _, .seq its _, _⟩ => (decide (c = "tuple") && decide (its.size ≤ sizeLine)) && repsB K its.toList ds
      | _ => false)
    | _ => false)
  | .list _ => false
  | .dict _ => false
def repsB (K : PySem.W.Frag) (us : List Value) : List D → Bool
  | [] => (match us with
    | [] => true
    | _ => false)
  | d :: ds => (match us with
    | u :: r => repB K u d && repsB K r ds
    | [] => false)
end
section
variable {K : PySem.W.Frag}
mutual
theorem repB_ok : ∀ {d : D} {u : Value}, repB K u d = true → ∃ v, RelV v u ∧ ∀ F, Rep K F v d
  | .none, u, h => by
    unfold repB at h
    split at h
    · exact ⟨.non, rfl, fun F => .non⟩
    · cases h
  | .bool b, u, h => by
    unfold repB at h
    split at h
    · rename_i c
      have e : b = c := by simpa using h
      subst e
      exact ⟨.bl b, rfl, fun F => .bl b⟩
    · cases h
  | .int i, u, h => by
    unfold repB at h
    split at h
    · rename_i j t
      have e : j = i := of_decide_eq_true h
      subst e
      exact ⟨.int j, ⟨t, rfl⟩, fun F => .int j⟩
    · cases h
  | .str z, u, h => by
    unfold repB at h
    split at h
    · rename_i j t
      have e : j = z := of_decide_eq_true h
      subst e
      exact ⟨.str j, ⟨t, rfl⟩, fun F => .str j⟩
    · cases h
  | .tuple ds, u, h => by
    unfold repB at h
    split at h
    · rename_i a
      split at h
      · rename_i c od its n sl q
        obtain ⟨h1, h2⟩ := ba h
        obtain ⟨h3, h4⟩ := ba h1
        obtain ⟨vs, rv, rp⟩ := repsB_ok h2
        exact ⟨.ref a, rfl, fun F => .tup (.inr ⟨_, its, n, q, congrArg Value.type (of_decide_eq_true h3), rfl, of_decide_eq_true h4, rv⟩) (rp F)⟩
      · cases h
    · cases h
  | .list _, u, h => by cases h
  | .dict _, u, h => by cases h
theorem repsB_ok : ∀ {ds : List D} {us : List Value}, repsB K us ds = true → ∃ vs, Vals vs us ∧ ∀ F, Reps K F vs ds
  | [], us, h => by
    unfold repsB at h
    split at h
    · exact ⟨[], .nil, fun F => .nil⟩
    · cases h
  | d :: ds, us, h => by
    unfold repsB at h
    split at h
    · obtain ⟨h1, h2⟩ := ba h
      obtain ⟨v, r1, r2⟩ := repB_ok h1
      obtain ⟨vs, s1, s2⟩ := repsB_ok h2
      exact ⟨v :: vs, .cons r1 s1, fun F => .cons (r2 F) (s2 F)⟩
    · cases h
end
end
/-- a module's constant -/
def glB (p : Str × D) (K : PySem.W.Frag) : Bool := match PySem.W.nsIn K mainGlobals p.1 with
  | some (some u) => repB K u p.2
  | _ => false
theorem glB_ok {p : Str × D} {K : PySem.W.Frag} {h : Heap} {mg : Str → Option Value} (X : K.In h) (G : h.Ns mainGlobals mg) (c : glB p K = true) : ∃ u v, mg p.1 = some u ∧ RelV v u ∧ ∀ F, Rep K F v p.2 := by
  unfold glB at c
  split at c
  · rename_i u e
    obtain ⟨v, r, q⟩ := repB_ok c
    exact ⟨u, v, PySem.W.mg_of X G e, r, q⟩
  · cases c
/-- a def's datum: its name, its statement, its block's names, its parameters, its form -/
structure Dt where
  x : Str
  st : Stmt
  N : List Str
  ps : List Str
  f : Fn
def Dt.d (t : Dt) : He.DefD := ⟨(t.x, none), t.x, t.x, defArgs t.st, defBody t.st, defScope t.st, [], []⟩
def scB (N ps : List Str) (sc : Scope) : Bool := decide (sc.kind = .function) && (decide (sc.isCoroutine = false) && (decide (sc.isGenerator = false) && (decide N.Nodup && (decide (N.take ps.length = ps) && ((ps.all fun x => decide (sc.names.lookup x = some .local) || decide (sc.names.lookup x = some .cell)) && (sc.names.all fun y => decide (y.2 ≠ .free)))))))
theorem scB_ok {N ps : List Str} {sc : Scope} (h : scB N ps sc = true) : FnScope N ps sc := by
  obtain ⟨h1, h⟩ := ba h
  obtain ⟨h2, h⟩ := ba h
  obtain ⟨h3, h⟩ := ba h
  obtain ⟨h4, h⟩ := ba h
  obtain ⟨h5, h⟩ := ba h
  obtain ⟨h6, h7⟩ := ba h
  refine ⟨of_decide_eq_true h1, of_decide_eq_true h2, of_decide_eq_true h3, of_decide_eq_true h4, of_decide_eq_true h5, fun x hx => ?_, fun y hy => of_decide_eq_true (List.all_eq_true.mp h7 y hy)⟩
  rcases Bool.or_eq_true_iff.mp (List.all_eq_true.mp h6 x hx) with h | h
  · exact .inl (of_decide_eq_true h)
  · exact .inr (of_decide_eq_true h)
def Dt.ok (M : Nm) (t : Dt) : Bool := scB t.N t.ps (defScope t.st) && ((decide (t.N.length = t.f.nl) && decide (t.ps.length = t.f.ar)) && chkSs M t.N (defScope t.st) (defBody t.st) t.f.body)
def Dt.Bi (t : Dt) : Prop := ∀ (kV doc pm : Value) (an : Option Addr) (cdv ct : Value) (us : List Value), us.length = t.ps.length → bindArgs (PySem.W.fnOf t.x t.x (defArgs t.st) (defBody t.st) (defScope t.st) .none kV doc pm an cdv ct) ⟨us, []⟩ = pure (t.ps.zip us)
def AllBi : List Dt → Prop
  | [] => True
  | t :: r => t.Bi ∧ AllBi r
theorem AllBi.get : ∀ {l : List Dt} {t : Dt}, AllBi l → t ∈ l → t.Bi
  | _ :: _, t, h, m => by
    rcases List.mem_cons.mp m with e | m
    · subst e; exact h.1
    · exact AllBi.get h.2 m
section
variable (L : List Dt) (gls : List (Str × D)) (exs : List Str)
def nmOf : Nm := ⟨L.map (·.x), gls.map (·.1), exs⟩
def faOf : List He.Fa := L.map (fun t => .glo t.x) ++ (exs.map .glo ++ (exs.map .exc ++ bltNms.map .free))
def fnOf : List He.DefD := L.map Dt.d
def exOf (K : PySem.W.Frag) : Bool := gls.all fun p => glB p K
def glOf (j : Nat) : Option D := (gls[j]?).map (·.2)
def plOf : List Fn := L.map (·.f)
def hkOf (n : Nat) : PySem.W.Hook := He.hookX n (faOf L exs) (fnOf L) [] [] (exOf gls)
def obOf (n : Nat) (s : PySem.W.SharedT) : He.AlX := He.obsX n (faOf L exs) (fnOf L) [] [] (exOf gls) (HandSHeadRun.getT s)
theorem ob_eq (n : Nat) (s : PySem.W.SharedT) : obOf L gls exs n s = (hkOf L gls exs n).obs s.abs := He.obsX_eq (HandSHeadRun.getT_eq s)
end
section
variable {L : List Dt} {gls : List (Str × D)} {exs : List Str} {P : Program} {w : World} {K : PySem.W.Frag} {h : Heap} {mg : Str → Option Value}
theorem fa_glo {t : Dt} (m : t ∈ L) : He.Fa.glo t.x ∈ faOf L exs := List.mem_append_left _ (List.mem_map_of_mem m)
theorem fa_ex {x : Str} (m : x ∈ exs) : He.Fa.glo x ∈ faOf L exs ∧ He.Fa.exc x ∈ faOf L exs := ⟨List.mem_append_right _ (List.mem_append_left _ (List.mem_map_of_mem m)), List.mem_append_right _ (List.mem_append_right _ (List.mem_append_left _ (List.mem_map_of_mem m)))⟩
theorem fa_free {x : Str} (m : x ∈ bltNms) : He.Fa.free x ∈ faOf L exs := List.mem_append_right _ (List.mem_append_right _ (List.mem_append_right _ (List.mem_map_of_mem m)))
def pnOf (L : List Dt) (j : Nat) : List Str := ((L[j]?).map (·.ps)).getD []
theorem the_def (X : K.In h) (G : h.Ns mainGlobals mg) (c : He.SaysX (faOf L exs) (fnOf L) [] [] (exOf gls) w h K) (bi : AllBi L) (ok : L.all (Dt.ok (nmOf L gls exs)) = true) {j : Nat} {x : Str} (hx : (nmOf L gls exs).fn[j]? = some x) :
    Nonempty (DefOk K mg (nmOf L gls exs) (plOf L) (pnOf L) j x) := by
  have hx : (L.map (·.x))[j]? = some x := hx
  rw [List.getElem?_map] at hx
  cases e : L[j]? with
  | none => rw [e] at hx; cases hx
  | some t =>
    rw [e] at hx
    cases hx
    have m : t ∈ L := List.mem_of_getElem? e
    have ht := List.all_eq_true.mp ok t m
    obtain ⟨h1, h⟩ := ba ht
    obtain ⟨h2, h3⟩ := ba h
    obtain ⟨h4, h5⟩ := ba h2
    obtain ⟨fd, F⟩ := c.t.d.defs (d := t.d) (List.mem_map_of_mem m)
    have F' : FunD K t.x t.x (defArgs t.st) (defBody t.st) (defScope t.st) [] [] (He.fAd K (t.x, none)) fd := F
    have b := bi.get m
    refine ⟨⟨t.f, by unfold plOf; rw [List.getElem?_map, e]; rfl, t.N, t.ps, by unfold pnOf; rw [e]; rfl, t.x, _, _, _, _, fd, F', ?_, F'.bindsN b, F'.bindsA b, scB_ok h1, of_decide_eq_true h4, of_decide_eq_true h5, h3⟩⟩
    exact He.glo_ok X G (c.t.d.facts (fa_glo m))
/-- a law's walk: from what the pure run tells -/
theorem law_end {n k j : Nat} {fa : Addr} {sn : Str} {tl : Dt} (hj : L[j]? = some tl) (hps : tl.ps = [sn]) (X : K.In h) (G : h.Ns mainGlobals mg) (c : He.SaysX (faOf L exs) (fnOf L) [] [] (exOf gls) w h K) (bi : AllBi L) (ok : L.all (Dt.ok (nmOf L gls exs)) = true)
    (hfa : mg tl.x = some (.ref fa))
    (hrun : ∀ ns : List Int, ns.length ≤ n → run (plOf L) (glOf gls) k j [.raw (ns.map PyData.int)] = .ret (.pv (.bool true)) none) :
    ∃ (fd : FuncData) (sp : Sp), (∀ (s : Shared) (u : Value), BindsTo s fd ⟨[u], []⟩ [(sn, u)]) ∧
      (∀ (H : Hp) (a : Addr) (ns : List Int), ns.length ≤ n → Only H → SqL K H a (ns.map V.int) → sp [.ref a] H (fun v _ => v = .bl true) fun _ _ _ => False) ∧
      ∀ base : Heap, FnOk P w K mg base (L2.CX P w) k fa fd [sn] sp := by
  have hx : (nmOf L gls exs).fn[j]? = some tl.x := by
    show (L.map (·.x))[j]? = some tl.x
    rw [List.getElem?_map, hj]
    rfl
  let dk : (j : Nat) → (x : Str) → (nmOf L gls exs).fn[j]? = some x → DefOk K mg (nmOf L gls exs) (plOf L) (pnOf L) j x := fun j x hx => Classical.choice (the_def X G c bi ok hx)
  have lv := fun base => levels (P := P) (w := w) (K := K) (mg := mg) (base := base) (M := nmOf L gls exs) (PL := plOf L) (gl := glOf gls) (xa := fun i => He.ga K (exs.getD i Str.empty)) dk
    (fun i x d h1 h2 => by
      have h1 : (gls.map (·.1))[i]? = some x := h1
      have h2 : (gls[i]?).map (·.2) = some d := h2
      rw [List.getElem?_map] at h1
      cases e : gls[i]? with
      | none => rw [e] at h1; cases h1
      | some p =>
        rw [e] at h1 h2
        cases h1
        cases h2
        exact glB_ok X G (List.all_eq_true.mp c.more p (List.mem_of_getElem? e)))
    (fun x hx => He.free_ok X G (c.t.d.facts (fa_free hx)))
    (fun i x h1 => by
      have h1 : exs[i]? = some x := h1
      have m : x ∈ exs := List.mem_of_getElem? h1
      have e : exs.getD i Str.empty = x := by rw [List.getD_eq_getElem?_getD, h1]; rfl
      obtain ⟨q1, q2, q3, q4⟩ := He.exc_ok (c.t.d.facts (fa_ex (L := L) m).2)
      show mg x = some (.ref (He.ga K (exs.getD i Str.empty))) ∧ _
      rw [e]
      exact ⟨He.glo_ok X G (c.t.d.facts (fa_ex (L := L) m).1), q2, q1, q3, q4⟩)
    k j tl.x hx
  have e1 : (dk j tl.x hx).ps = [sn] := by rw [(dk j tl.x hx).hps]; unfold pnOf; rw [hj]; exact hps
  have e2 : (dk j tl.x hx).f = fa := by
    have e := (dk j tl.x hx).mg_.symm.trans hfa
    cases e
    rfl
  refine ⟨(dk j tl.x hx).fd, spOf K (fun i => He.ga K (exs.getD i Str.empty)) (run (plOf L) (glOf gls) k) j, fun s u => ?_, fun H a ns hn _ hS => ?_, fun base => ?_⟩
  rotate_left 2
  · have := lv base
    rw [e1, e2] at this
    exact this
  · have b := (dk j tl.x hx).bindA s [u] (by rw [e1]; rfl)
    rw [e1] at b
    exact b
  · have rp : ∀ ns : List Int, Reps K H (ns.map V.int) (ns.map PyData.int) := fun ns => by
      induction ns with
      | nil => exact .nil
      | cons i r ih => exact .cons (.int i) ih
    refine ⟨H, [.raw (ns.map PyData.int)], Ex.refl H, ⟨⟨a, _, rfl, hS, rp ns⟩, trivial⟩, ?_⟩
    rw [hrun ns hn]
    exact fun F' H' v _ _ _ _ hv => Rep.bool_inv hv
/-- the whole walk of a law -/
theorem law_walk {l : PySem.W.OpenLaw} {n k j m : Nat} {q : Program} {loose : List Str} {XP : (Str → Option Value) → Heap → Prop} {d : DefRec} {tl : Dt} {sn : Str} {L : List Dt} {gls : List (Str × D)} {exs : List Str}
    (hn : l.most = some n) (hz : n ≤ sizeLine) (hdf : d.params.defaults = []) (hr : Room k callerA) (hj : L[j]? = some tl) (hps : tl.ps = [sn]) (bi : AllBi L) (ok : L.all (Dt.ok (nmOf L gls exs)) = true) (hnm : d.name = tl.x)
    (hrun : ∀ ns : List Int, ns.length ≤ n → run (plOf L) (glOf gls) k j [.raw (ns.map PyData.int)] = .ret (.pv (.bool true)) none) :
    PySem.W.WalkO q loose XP (hkOf L gls exs m).says l.row.toRowW d [] (fun f vs => PySem.call f vs) := by
  refine Att.attach_call hn hdf ?_
  intro w t0 t1 mg mb fa o pm cd doc a us ns G Y e1 e2 e3 hmg e4 e5 e6 e7
  obtain ⟨K, X, c⟩ := Y
  rw [hnm] at hmg
  obtain ⟨fd, sp, h1, h2, h3⟩ := law_end (P := l.prog) (w := w) (n := n) (k := k) (sn := sn) hj hps X G.T.g c bi ok hmg hrun
  refine law_call X G.T.g G.T.b G.T.builtins G.T.nolimit e7 e4 e5 (Nat.le_trans e6 hz) hr (fun base _ _ => h3 base) h1 (fun H hO hS => h2 H a ns e6 hO hS) ?_
  rintro H e s' ⟨_, _, _, _, _, _, _, _, _, _, _, _, z⟩
  exact z
end
end Pv

namespace Pv
open PySem
/-! ### reckoning with the pure run -/
section
variable {C : Cfg} {ρ : Env}
@[simp] theorem e_nop : evE C .nop ρ = .ok (.pv .none) ρ := rfl
@[simp] theorem e_v {i : Nat} : evE C (.v i) ρ = readV ρ i := rfl
@[simp] theorem e_k {d : D} : evE C (.k d) ρ = .ok (.pv d) ρ := rfl
@[simp] theorem e_g {j : Nat} : evE C (.g j) ρ = R.ofO ((C.gl j).map .pv) ρ := rfl
@[simp] theorem e_bin {o : BOp} {a b : E} : evE C (.bin o a b) ρ = bindD (evE C a ρ) fun x ρ => bindD (evE C b ρ) fun y ρ => R.ofO ((binD o x y).map frV) ρ := rfl
@[simp] theorem e_neg {a : E} : evE C (.neg a) ρ = bindD (evE C a ρ) fun x ρ => R.ofO ((negD x).map .pv) ρ := rfl
@[simp] theorem e_not {a : E} : evE C (.not a) ρ = bindD (evE C a ρ) fun x ρ => R.ofO ((notD x).map .pv) ρ := rfl
@[simp] theorem e_and {a b : E} : evE C (.and a b) ρ = bindD (evE C a ρ) fun x ρ => andD x (evE C b ρ) ρ := rfl
@[simp] theorem e_or {a b : E} : evE C (.or a b) ρ = bindD (evE C a ρ) fun x ρ => orD x (evE C b ρ) ρ := rfl
@[simp] theorem e_cmp {o : COp} {a b : E} : evE C (.cmp o a b) ρ = bindD (evE C a ρ) fun x ρ => (pk (isV b) (fun ρ => evE C b ρ) ρ).bind fun y ρ => R.ofO ((cmpD o x y).map fun b => .pv (.bool b)) ρ := rfl
@[simp] theorem e_chain {o p : COp} {a b c : E} : evE C (.chain o p a b c) ρ = bindD (evE C a ρ) fun x ρ => bindD (evE C b ρ) fun y ρ => chainD (cmpD o x y) (bindD (evE C c ρ) fun z ρ => R.ofO ((cmpD p y z).map fun b => .pv (.bool b)) ρ) ρ := rfl
@[simp] theorem e_ife {c : T} {a b : E} : evE C (.ife c a b) ρ = (evT C c ρ).bind fun t ρ => iteR t (evE C a ρ) (evE C b ρ) := rfl
@[simp] theorem e_tup {es : Es} : evE C (.tup es) ρ = (evA C es ρ).bind fun ds ρ => tupV ds ρ := rfl
@[simp] theorem e_lst {es : Es} : evE C (.lst es) ρ = (evA C es ρ).bind fun ds ρ => lstV ds ρ := rfl
@[simp] theorem e_ix {a i : E} : evE C (.ix a i) ρ = bindD (evE C a ρ) fun x ρ => bindD (evE C i ρ) fun y ρ => R.ofO ((ixD x y).map .pv) ρ := rfl
@[simp] theorem e_ixv {j : Nat} {i : E} : evE C (.ixv j i) ρ = (lookV ρ j).bind fun _ ρ => bindD (evE C i ρ) fun y ρ => (lookV ρ j).bind fun x ρ => R.ofO ((ixD x y).map .pv) ρ := rfl
@[simp] theorem e_sl {a lo hi : E} : evE C (.sl a lo hi) ρ = bindD (evE C a ρ) fun x ρ => (partR (isNop lo) (evE C lo ρ)).bind fun l ρ => (partR (isNop hi) (evE C hi ρ)).bind fun h ρ => R.ofO ((slD x l h).map frV) ρ := rfl
@[simp] theorem e_slv {j : Nat} {lo hi : E} : evE C (.slv j lo hi) ρ = (lookV ρ j).bind fun _ ρ => (partR (isNop lo) (evE C lo ρ)).bind fun l ρ => (partR (isNop hi) (evE C hi ρ)).bind fun h ρ => (lookV ρ j).bind fun x ρ => R.ofO ((slD x l h).map frV) ρ := rfl
@[simp] theorem e_rev {a : E} : evE C (.rev a) ρ = (pk (isV a) (fun ρ => evE C a ρ) ρ).bind fun x ρ => R.ofO ((revD x).map frV) ρ := rfl
@[simp] theorem e_call {j : Nat} {es : Es} : evE C (.call j es) ρ = (evA C es ρ).bind fun ds ρ => backR none ρ (C.call j (ds.map .v)) := rfl
theorem e_cio {j i : Nat} {es : Es} : evE C (.cio j i es) ρ = cioGo (C.call j) i (fun ρ => evA C es ρ) ρ := rfl
@[simp] theorem e_craw {j i : Nat} : evE C (.craw j i) ρ = crawGo (C.call j) i ρ := rfl
@[simp] theorem e_scr {i : Nat} {n : Int} : evE C (.scr i n) ρ = scrV ρ i n := rfl
@[simp] theorem e_b1 {b : Blt} {a : E} : evE C (.b1 b a) ρ = (pk (isV a) (fun ρ => evE C a ρ) ρ).bind fun x ρ => R.ofO ((bltD b [x]).map (bltV b)) ρ := rfl
@[simp] theorem e_b2 {b : Blt} {a c : E} : evE C (.b2 b a c) ρ = bindD (evE C a ρ) fun x ρ => bindD (evE C c ρ) fun y ρ => R.ofO ((bltD b [x, y]).map .pv) ρ := rfl
@[simp] theorem e_isi {a : E} {ts : List Ty} : evE C (.isi a ts) ρ = (pk (isV a) (fun ρ => evE C a ρ) ρ).bind fun x ρ => .ok (.pv (.bool (ts.any fun t => t.is x))) ρ := rfl
theorem e_lc {elt : E} {tg : Tg} {it : It} {c : T} : evE C (.lc elt tg it c) ρ = (evI C it ρ).bind fun xs ρ => lcEnd (lcGo (lcTurn tg fun ρ => (evT C c ρ).bind fun t ρ => iteR t (bindD (evE C elt ρ) fun y ρ => .ok (some y) ρ) (.ok none ρ)) xs ρ) := rfl
@[simp] theorem t_e {a : E} : evT C (.e a) ρ = (pk (isV a) (fun ρ => evE C a ρ) ρ).bind fun x ρ => R.ofO (truB x) ρ := rfl
@[simp] theorem t_and {a b : T} : evT C (.and a b) ρ = (evT C a ρ).bind fun x ρ => iteR x (evT C b ρ) (.ok false ρ) := rfl
@[simp] theorem t_or {a b : T} : evT C (.or a b) ρ = (evT C a ρ).bind fun x ρ => iteR x (.ok true ρ) (evT C b ρ) := rfl
@[simp] theorem t_not {a : T} : evT C (.not a) ρ = (evT C a ρ).bind fun x ρ => .ok (!x) ρ := rfl
@[simp] theorem t_yes : evT C .yes ρ = .ok true ρ := rfl
@[simp] theorem a_nil : evA C .nil ρ = .ok [] ρ := rfl
@[simp] theorem a_cons {e : E} {es : Es} : evA C (.cons e es) ρ = bindD (evE C e ρ) fun x ρ => (evA C es ρ).bind fun xs ρ => .ok (x :: xs) ρ := rfl
theorem i_rng {es : Es} : evI C (.rng es) ρ = (evA C es ρ).bind fun ds ρ => R.ofO ((rngOf ds).map fun p => rangeD p.1 p.2.1 p.2.2) ρ := rfl
theorem i_rngA {es : Es} {ds : List D} {ρ' : Env} {lo c : Int} {m : Nat} (h : evA C es ρ = .ok ds ρ') (h2 : rngOf ds = some (lo, m, c)) : evI C (.rng es) ρ = .ok (rangeD lo m c) ρ' := by
  rw [i_rng, h, R.bind_ok, h2]
  rfl
@[simp] theorem i_of {e : E} : evI C (.of e) ρ = bindD (evE C e ρ) fun x ρ => R.ofO (walkD x) ρ := rfl
@[simp] theorem i_zip {a b : E} : evI C (.zip a b) ρ = bindD (evE C a ρ) fun x ρ => bindD (evE C b ρ) fun y ρ => R.ofO (zipO x y) ρ := rfl
@[simp] theorem i_enum {a : E} : evI C (.enum a) ρ = bindD (evE C a ρ) fun x ρ => R.ofO (enumO x) ρ := rfl
@[simp] theorem s_asg {t : Tg} {e : E} : evS C (.asg t e) ρ = (evE C e ρ).toS fun x ρ => asgV ρ t x := rfl
@[simp] theorem s_par {is : List Nat} {es : Es} : evS C (.par is es) ρ = (evA C es ρ).toS fun ds ρ => toNx (putAll ρ is ds) := rfl
@[simp] theorem s_set {i : Nat} {x e : E} : evS C (.set i x e) ρ = (bindD (evE C e ρ) fun d ρ => (lookV ρ i).bind fun _ ρ => bindD (evE C x ρ) fun j ρ => .ok (d, j) ρ).toS fun p ρ => putX ρ i p.2 p.1 := rfl
@[simp] theorem s_aug {i : Nat} {o : BOp} {e : E} : evS C (.aug i o e) ρ = ((lookV ρ i).bind fun x ρ => bindD (evE C e ρ) fun y ρ => R.ofO (augD o x y) ρ).toS fun z ρ => toNx (putD ρ i z) := rfl
@[simp] theorem s_app {i : Nat} {e : E} : evS C (.app i e) ρ = (R.ofO (ioArg ρ i) ρ).toS fun _ ρ => (dd (evE C e ρ)).toS fun y ρ => addX ρ i y := rfl
@[simp] theorem s_expr {e : E} : evS C (.expr e) ρ = (evE C e ρ).toS fun _ ρ => .nx ρ := rfl
@[simp] theorem s_ite {c : T} {a b : Ss} : evS C (.ite c a b) ρ = (evT C c ρ).toS fun t ρ => iteS t (evSs C a ρ) (evSs C b ρ) := rfl
theorem s_whl {c : T} {b : Ss} : evS C (.whl c b) ρ = Pv.whl (fun ρ => evT C c ρ) (fun ρ => evSs C b ρ) ρ := rfl
theorem s_for {t : Tg} {it : It} {b : Ss} : evS C (.for_ t it b) ρ = (evI C it ρ).toS fun xs ρ => forGo (fun x ρ => (putT ρ t x).toS fun _ ρ => evSs C b ρ) xs ρ := rfl
@[simp] theorem s_ret {e : E} : evS C (.ret e) ρ = (evE C e ρ).toS fun x ρ => .ret x ρ := rfl
@[simp] theorem s_retv {i : Nat} : evS C (.retv i) ρ = retV ρ i := rfl
@[simp] theorem s_retN : evS C .retN ρ = .ret (.pv .none) ρ := rfl
@[simp] theorem s_raise {c : Nat} : evS C (.raise c) ρ = .exc c none ρ := rfl
@[simp] theorem s_pass : evS C .pass ρ = .nx ρ := rfl
@[simp] theorem s_brk : evS C .brk ρ = .brk ρ := rfl
@[simp] theorem s_ct : evS C .ct ρ = .ct ρ := rfl
@[simp] theorem ss_nil : evSs C .nil ρ = .nx ρ := rfl
@[simp] theorem ss_cons {s : S} {r : Ss} : evSs C (.cons s r) ρ = (evS C s ρ).bind fun ρ => evSs C r ρ := rfl
end
@[simp] theorem readV_eq (ρ : Env) (i : Nat) : readV ρ i = (match ρ[i]? with
  | some (some (.raw _)) => .bad
  | some (some s) => .ok (.pv s.dat) (ρ.set i (some s.frozen))
  | _ => .bad) := rfl
@[simp] theorem lookV_eq (ρ : Env) (i : Nat) : lookV ρ i = (match ρ[i]? with
  | some (some (.raw _)) => .bad
  | some (some s) => .ok s.dat ρ
  | _ => .bad) := rfl
@[simp] theorem pk_n (ev : Env → R Val) (ρ : Env) : pk none ev ρ = dd (ev ρ) := rfl
@[simp] theorem pk_s (i : Nat) (ev : Env → R Val) (ρ : Env) : pk (some i) ev ρ = lookV ρ i := rfl
@[simp] theorem dd_ok (x : Val) (ρ : Env) : dd (.ok x ρ) = .ok x.dat ρ := rfl
@[simp] theorem dd_exc (c : Nat) (x : Option D) (ρ : Env) : dd (.exc c x ρ) = .exc c x ρ := rfl
@[simp] theorem dd_bad : dd .bad = .bad := rfl
@[simp] theorem andD_t (k : R Val) (ρ : Env) : andD (.bool true) k ρ = k := rfl
@[simp] theorem andD_f (k : R Val) (ρ : Env) : andD (.bool false) k ρ = .ok (.pv (.bool false)) ρ := rfl
@[simp] theorem orD_t (k : R Val) (ρ : Env) : orD (.bool true) k ρ = .ok (.pv (.bool true)) ρ := rfl
@[simp] theorem orD_f (k : R Val) (ρ : Env) : orD (.bool false) k ρ = k := rfl
@[simp] theorem chainD_t (k : R Val) (ρ : Env) : chainD (some true) k ρ = k := rfl
@[simp] theorem chainD_f (k : R Val) (ρ : Env) : chainD (some false) k ρ = .ok (.pv (.bool false)) ρ := rfl
@[simp] theorem frV_i (i : Int) : frV (.int i) = .pv (.int i) := rfl
@[simp] theorem frV_t (xs : List D) : frV (.tuple xs) = .pv (.tuple xs) := rfl
@[simp] theorem frV_l (xs : List D) : frV (.list xs) = .fr xs := rfl
@[simp] theorem frV_s (x : Str) : frV (.str x) = .pv (.str x) := rfl
@[simp] theorem sl_v (d : D) : (Slot.v d).dat = d := rfl
@[simp] theorem sl_own (d : List D) : (Slot.own d).dat = .list d := rfl
@[simp] theorem sl_io (d : List D) : (Slot.io d).dat = .list d := rfl
@[simp] theorem sl_fz (d : List D) : (Slot.fz d).dat = .list d := rfl
@[simp] theorem sf_v (d : D) : (Slot.v d).frozen = .v d := rfl
@[simp] theorem sf_own (d : List D) : (Slot.own d).frozen = .v (.list d) := rfl
@[simp] theorem sf_io (d : List D) : (Slot.io d).frozen = .fz d := rfl
@[simp] theorem sfr_v (d : D) : (Slot.v d).free = true := rfl
@[simp] theorem sfr_own (d : List D) : (Slot.own d).free = true := rfl
@[simp] theorem isV_v (i : Nat) : isV (.v i) = some i := rfl
@[simp] theorem isV_k (d : D) : isV (.k d) = none := rfl
@[simp] theorem isV_g (d : Nat) : isV (.g d) = none := rfl
@[simp] theorem isV_bin (o : BOp) (a b : E) : isV (.bin o a b) = none := rfl
@[simp] theorem isV_neg (a : E) : isV (.neg a) = none := rfl
@[simp] theorem isV_not (a : E) : isV (.not a) = none := rfl
@[simp] theorem isV_and (a b : E) : isV (.and a b) = none := rfl
@[simp] theorem isV_or (a b : E) : isV (.or a b) = none := rfl
@[simp] theorem isV_cmp (o : COp) (a b : E) : isV (.cmp o a b) = none := rfl
@[simp] theorem isV_chain (o p : COp) (a b c : E) : isV (.chain o p a b c) = none := rfl
@[simp] theorem isV_ife (c : T) (a b : E) : isV (.ife c a b) = none := rfl
@[simp] theorem isV_tup (es : Es) : isV (.tup es) = none := rfl
@[simp] theorem isV_lst (es : Es) : isV (.lst es) = none := rfl
@[simp] theorem isV_ix (a b : E) : isV (.ix a b) = none := rfl
@[simp] theorem isV_ixv (a : Nat) (b : E) : isV (.ixv a b) = none := rfl
@[simp] theorem isV_sl (a b c : E) : isV (.sl a b c) = none := rfl
@[simp] theorem isV_slv (a : Nat) (b c : E) : isV (.slv a b c) = none := rfl
@[simp] theorem isV_rev (a : E) : isV (.rev a) = none := rfl
@[simp] theorem isV_call (j : Nat) (es : Es) : isV (.call j es) = none := rfl
@[simp] theorem isV_cio (j i : Nat) (es : Es) : isV (.cio j i es) = none := rfl
@[simp] theorem isV_craw (j i : Nat) : isV (.craw j i) = none := rfl
@[simp] theorem isV_scr (j : Nat) (i : Int) : isV (.scr j i) = none := rfl
@[simp] theorem isV_b1 (b : Blt) (a : E) : isV (.b1 b a) = none := rfl
@[simp] theorem isV_b2 (b : Blt) (a c : E) : isV (.b2 b a c) = none := rfl
@[simp] theorem isV_isi (a : E) (ts : List Ty) : isV (.isi a ts) = none := rfl
@[simp] theorem isV_lc (a : E) (t : Tg) (i : It) (c : T) : isV (.lc a t i c) = none := rfl
@[simp] theorem b_add (i j : Int) : binD .add (.int i) (.int j) = some (.int (i + j)) := rfl
@[simp] theorem b_sub (i j : Int) : binD .sub (.int i) (.int j) = some (.int (i - j)) := rfl
theorem b_mul {i j : Int} (h1 : i.natAbs < BIG) (h2 : j.natAbs < BIG) : binD .mul (.int i) (.int j) = some (.int (i * j)) := if_pos ⟨h1, h2⟩
theorem b_mod {i j : Int} (h : 0 < j) : binD .mod (.int i) (.int j) = some (.int (i % j)) := if_pos h
theorem b_fdiv {i j : Int} (h : 0 < j) (h2 : j.natAbs < DIVB) : binD .fdiv (.int i) (.int j) = some (.int (i / j)) := if_pos ⟨h, h2⟩
theorem lt_BIG {n : Nat} (h : n < 2 ^ 250) : n < BIG := by
  rw [BIG_eq]
  exact Nat.lt_of_lt_of_le h (Nat.pow_le_pow_right (by decide) (by decide))
theorem lt_DIVB {n : Nat} (h : n < 2 ^ 250) : n < DIVB := by
  rw [DIVB_eq]
  exact Nat.lt_of_lt_of_le h (Nat.pow_le_pow_right (by decide) (by decide))
@[simp] theorem c_lt (i j : Int) : cmpD .lt (.int i) (.int j) = some (decide (i < j)) := rfl
@[simp] theorem c_le (i j : Int) : cmpD .le (.int i) (.int j) = some (decide (i ≤ j)) := rfl
@[simp] theorem c_gt (i j : Int) : cmpD .gt (.int i) (.int j) = some (decide (j < i)) := rfl
@[simp] theorem c_ge (i j : Int) : cmpD .ge (.int i) (.int j) = some (decide (j ≤ i)) := rfl
@[simp] theorem tr_b (b : Bool) : truB (.bool b) = some b := rfl
@[simp] theorem tr_i (i : Int) : truB (.int i) = some (i != 0) := rfl
@[simp] theorem putD_eq (ρ : Env) (i : Nat) (d : D) : putD ρ i d = putV ρ i (.pv d) := rfl
@[simp] theorem putV_pv (ρ : Env) (i : Nat) (d : D) : putV ρ i (.pv d) = if freeAt ρ i = true then .ok () (ρ.set i (some (.v d))) else .bad := rfl
@[simp] theorem putV_fr (ρ : Env) (i : Nat) (d : List D) : putV ρ i (.fr d) = if freeAt ρ i = true then .ok () (ρ.set i (some (.own d))) else .bad := rfl
def freeO : Option Slot → Bool
  | some s => s.free
  | none => true
@[simp] theorem freeO_n : freeO none = true := rfl
@[simp] theorem freeO_v (d : D) : freeO (some (.v d)) = true := rfl
@[simp] theorem freeO_own (d : List D) : freeO (some (.own d)) = true := rfl
@[simp] theorem freeO_z (z : Option D) : freeO (z.map Slot.v) = true := by cases z <;> rfl
@[simp] theorem freeAt_eq (ρ : Env) (i : Nat) : freeAt ρ i = (match ρ[i]? with
  | some o => freeO o
  | none => false) := by
  unfold freeAt freeO
  rcases ρ[i]? with _ | _ | s <;> rfl
@[simp] theorem asgV_n (ρ : Env) (i : Nat) (x : Val) : asgV ρ (.n i) x = toNx (putV ρ i x) := rfl
@[simp] theorem asgV_t (ρ : Env) (i : List Nat) (x : Val) : asgV ρ (.t i) x = toNx (putT ρ (.t i) x.dat) := rfl
@[simp] theorem toNx_ok (u : Unit) (ρ : Env) : toNx (.ok u ρ) = .nx ρ := rfl
@[simp] theorem putT_n (ρ : Env) (i : Nat) (d : D) : putT ρ (.n i) d = putD ρ i d := rfl
@[simp] theorem putT_t (ρ : Env) (is : List Nat) (ds : List D) : putT ρ (.t is) (.tuple ds) = if ds.length = is.length then putAll ρ is ds else .bad := rfl
@[simp] theorem putAll_nil (ρ : Env) : putAll ρ [] [] = .ok () ρ := rfl
@[simp] theorem putAll_cons (ρ : Env) (i : Nat) (is : List Nat) (d : D) (ds : List D) : putAll ρ (i :: is) (d :: ds) = (putD ρ i d).bind fun _ ρ => putAll ρ is ds := rfl
@[simp] theorem x_l (xs : List D) (i : Int) : ixD (.list xs) (.int i) = L2.atI xs i := rfl
@[simp] theorem x_t (xs : List D) (i : Int) : ixD (.tuple xs) (.int i) = L2.atI xs i := rfl
@[simp] theorem bl_lenl (xs : List D) : bltD .len [.list xs] = some (.int xs.length) := rfl
@[simp] theorem bl_lent (xs : List D) : bltD .len [.tuple xs] = some (.int xs.length) := rfl
@[simp] theorem bl_abs (i : Int) : bltD .abs [.int i] = some (.int (if i < 0 then -i else i)) := rfl
@[simp] theorem bl_int (i : Int) : bltD .int [.int i] = some (.int i) := rfl
@[simp] theorem bl_tl (xs : List D) : bltD .tuple [.list xs] = some (.tuple xs) := rfl
@[simp] theorem bl_tt (xs : List D) : bltD .tuple [.tuple xs] = some (.tuple xs) := rfl
@[simp] theorem bl_all (xs : List D) : bltD .all [.list xs] = (boolsOf xs).map fun bs => .bool (bs.all id) := rfl
@[simp] theorem bl_any (xs : List D) : bltD .any [.list xs] = (boolsOf xs).map fun bs => .bool (bs.any id) := rfl
@[simp] theorem bo_nil : boolsOf [] = some [] := rfl
@[simp] theorem bo_cons (b : Bool) (r : List D) : boolsOf (.bool b :: r) = (boolsOf r).map (b :: ·) := rfl
@[simp] theorem bv_len (d : D) : bltV .len d = .pv d := rfl
@[simp] theorem bv_abs (d : D) : bltV .abs d = .pv d := rfl
@[simp] theorem bv_int (d : D) : bltV .int d = .pv d := rfl
@[simp] theorem bv_tup (d : D) : bltV .tuple d = .pv d := rfl
@[simp] theorem bv_all (d : D) : bltV .all d = .pv d := rfl
@[simp] theorem bv_any (d : D) : bltV .any d = .pv d := rfl
@[simp] theorem n_i (i : Int) : negD (.int i) = some (.int (-i)) := rfl
@[simp] theorem n_b (b : Bool) : notD (.bool b) = some (.bool (!b)) := rfl
@[simp] theorem wk_l (xs : List D) : walkD (.list xs) = some xs := rfl
@[simp] theorem wk_t (xs : List D) : walkD (.tuple xs) = some xs := rfl
@[simp] theorem backR_n (ρ : Env) (x : Val) (o : Option Slot) : backR none ρ (.ret x o) = .ok x ρ := rfl
@[simp] theorem backR_nx (ρ : Env) (c : Nat) (x : Option D) (o : Option Slot) : backR none ρ (.exc c x o) = .exc c x ρ := rfl
@[simp] theorem tupV_eq (ds : List D) (ρ : Env) : tupV ds ρ = if ds.length ≤ LIM then .ok (.pv (.tuple ds)) ρ else .bad := rfl
@[simp] theorem lstV_eq (ds : List D) (ρ : Env) : lstV ds ρ = if ds.length ≤ LIM then .ok (.fr ds) ρ else .bad := rfl
@[simp] theorem lcEnd_ok (ys : List D) (ρ : Env) : lcEnd (.ok ys ρ) = lstV ys ρ := rfl
theorem run_succ {P : List Fn} {gl : Nat → Option D} {n j : Nat} {as : List Slot} {f : Fn} (h : P[j]? = some f) : run P gl (n + 1) j as = if as.length = f.ar ∧ argOk as = true then finR as (evSs ⟨run P gl n, gl⟩ f.body (as.map some ++ List.replicate (f.nl - f.ar) none)) else .bad := by
  conv => lhs; unfold run
  rw [h]
@[simp] theorem finR_nx (as : List Slot) (ρ : Env) : finR as (.nx ρ) = (match outOf as ρ with
  | some o => .ret (.pv .none) o
  | none => .bad) := rfl
@[simp] theorem finR_ret (as : List Slot) (x : Val) (ρ : Env) : finR as (.ret x ρ) = (match outOf as ρ with
  | some o => .ret x o
  | none => .bad) := rfl
@[simp] theorem finR_exc (as : List Slot) (c : Nat) (x : Option D) (ρ : Env) : finR as (.exc c x ρ) = (match outOf as ρ with
  | some o => .exc c x o
  | none => .bad) := rfl
@[simp] theorem outOf_v (d : D) (as : List Slot) (ρ : Env) : outOf (.v d :: as) ρ = some none := rfl
@[simp] theorem outOf_raw (d : List D) (as : List Slot) (ρ : Env) : outOf (.raw d :: as) ρ = some none := rfl
@[simp] theorem outOf_io (d : List D) (as : List Slot) (ρ : Env) : outOf (.io d :: as) ρ = (match ρ.getD 0 none with
  | some (.io xs) => some (some (.io xs))
  | some (.fz xs) => some (some (.fz xs))
  | _ => none) := rfl
@[simp] theorem ao_nil : argOk [] = true := rfl
@[simp] theorem ao_v (d : D) (r : List Slot) : argOk (.v d :: r) = r.all fun s => match s with
    | .v _ => true
    | _ => false := rfl
@[simp] theorem ao_io (d : List D) (r : List Slot) : argOk (.io d :: r) = r.all fun s => match s with
    | .v _ => true
    | _ => false := rfl
@[simp] theorem ao_raw (d : List D) : argOk [.raw d] = true := rfl
@[simp] theorem retV_eq (ρ : Env) (i : Nat) : retV ρ i = (match ρ[i]? with
  | some (some (.own xs)) => .ret (.fr xs) (ρ.set i none)
  | some (some (.raw _)) => .bad
  | some (some s) => .ret (.pv s.dat) (ρ.set i (some s.frozen))
  | _ => .bad) := rfl
@[simp] theorem putX_eq (ρ : Env) (i : Nat) (j : Int) (d : D) : putX ρ i (.int j) d = (match ρ[i]? with
  | some (some (.own xs)) => (match setAt? xs j d with
    | some ys => .nx (ρ.set i (some (.own ys)))
    | none => .bad)
  | some (some (.io xs)) => (match setAt? xs j d with
    | some ys => .nx (ρ.set i (some (.io ys)))
    | none => .bad)
  | _ => .bad) := by
  unfold putX
  rcases ρ[i]? with _ | _ | s
  · rfl
  · rfl
  · cases s <;> rfl
@[simp] theorem ioArg_eq (ρ : Env) (i : Nat) : ioArg ρ i = (match ρ[i]? with
  | some (some (.own xs)) => some xs
  | some (some (.io xs)) => some xs
  | _ => none) := rfl
theorem at_nat {xs : List D} {i : Int} (h0 : 0 ≤ i) (h : i < xs.length) : L2.atI xs i = xs[i.toNat]? := by
  unfold L2.atI L2.ixN
  grind
theorem set_nat {xs : List D} {i : Int} {d : D} (h0 : 0 ≤ i) (h : i < xs.length) : setAt? xs i d = some (xs.set i.toNat d) := by
  unfold setAt? L2.ixN
  grind
theorem shp_i (i : Int) : shp (.int i) = true := rfl
theorem shp_b (i : Bool) : shp (.bool i) = true := rfl
theorem shp_n : shp .none = true := rfl
theorem shp_t2 (a b : Int) : shp (.tuple [.int a, .int b]) = true := rfl
theorem shp_t4 (a b c d : Int) : shp (.tuple [.int a, .int b, .int c, .int d]) = true := rfl
theorem cmp_eq {a b : D} (h : shp a = true) (h2 : shp b = true) : cmpD .eq a b = some (PyData.eqv a b) := by simp [cmpD, h, h2]
theorem cmp_ne {a b : D} (h : shp a = true) (h2 : shp b = true) : cmpD .ne a b = some (!PyData.eqv a b) := by simp [cmpD, h, h2]
@[simp] theorem c_eqi (i j : Int) : cmpD .eq (.int i) (.int j) = some (decide (i = j)) := by
  have e : cmpD .eq (.int i) (.int j) = some (PyData.eqv (.int i) (.int j)) := cmp_eq rfl rfl
  rw [e]
  show some (i == j) = _
  by_cases h : i = j <;> simp [h]
@[simp] theorem c_nei (i j : Int) : cmpD .ne (.int i) (.int j) = some (!decide (i = j)) := by
  have e : cmpD .ne (.int i) (.int j) = some (!PyData.eqv (.int i) (.int j)) := cmp_ne rfl rfl
  rw [e]
  show some (!(i == j)) = _
  by_cases h : i = j <;> simp [h]
@[simp] theorem c_eqb (i j : Bool) : cmpD .eq (.bool i) (.bool j) = some (i == j) := cmp_eq rfl rfl
@[simp] theorem c_neb (i j : Bool) : cmpD .ne (.bool i) (.bool j) = some (!(i == j)) := cmp_ne rfl rfl
theorem eqv2 (a b c d : Int) : PyData.eqv (.tuple [.int a, .int b]) (.tuple [.int c, .int d]) = (a == c && (b == d && true)) := rfl
theorem eqv4 (a b c d a' b' c' d' : Int) : PyData.eqv (.tuple [.int a, .int b, .int c, .int d]) (.tuple [.int a', .int b', .int c', .int d']) = (a == a' && (b == b' && (c == c' && (d == d' && true)))) := rfl
@[simp] theorem c_eq2 (a b c d : Int) : cmpD .eq (.tuple [.int a, .int b]) (.tuple [.int c, .int d]) = some (decide (a = c) && decide (b = d)) := by
  have e : cmpD .eq (.tuple [.int a, .int b]) (.tuple [.int c, .int d]) = some (PyData.eqv (.tuple [.int a, .int b]) (.tuple [.int c, .int d])) := cmp_eq rfl rfl
  rw [e, eqv2]
  by_cases h1 : a = c <;> by_cases h2 : b = d <;> simp [h1, h2]
@[simp] theorem c_ne2 (a b c d : Int) : cmpD .ne (.tuple [.int a, .int b]) (.tuple [.int c, .int d]) = some (!(decide (a = c) && decide (b = d))) := by
  have e : cmpD .ne (.tuple [.int a, .int b]) (.tuple [.int c, .int d]) = some (!PyData.eqv (.tuple [.int a, .int b]) (.tuple [.int c, .int d])) := cmp_ne rfl rfl
  rw [e, eqv2]
  by_cases h1 : a = c <;> by_cases h2 : b = d <;> simp [h1, h2]
theorem c_ne4 (a b c d : Int) : cmpD .ne (.tuple [.int a, .int b, .int c, .int d]) (.tuple [.int a, .int b, .int c, .int d]) = some false := by
  have e : cmpD .ne (.tuple [.int a, .int b, .int c, .int d]) (.tuple [.int a, .int b, .int c, .int d]) = some (!PyData.eqv (.tuple [.int a, .int b, .int c, .int d]) (.tuple [.int a, .int b, .int c, .int d])) := cmp_ne rfl rfl
  rw [e, eqv4]
  simp
end Pv

namespace Pv
open PySem
/-! ### the drawing of the figures -/
def drawHead : S := (.ite (.and (.e (.cmp .eq (.ixv 0 (.k (.int 2))) (.k (.int 0)))) (.e (.cmp .lt (.ixv 0 (.k (.int 1))) (.b1 .len (.ixv 0 (.k (.int 0)))))))
 (.cons (.asg (.n 3) (.ix (.ixv 0 (.k (.int 0))) (.ixv 0 (.k (.int 1)))))
 (.cons (.set 0 (.k (.int 1)) (.bin .add (.ixv 0 (.k (.int 1))) (.k (.int 1))))
 (.cons (.set 0 (.k (.int 3)) (.bin .mod (.b1 .int (.bin .add (.bin .add (.bin .mul (.ixv 0 (.k (.int 3))) (.k (.int 48271))) (.v 3)) (.k (.int 31)))) (.k (.int 2147483647))))
 (.cons (.ite (.e (.cmp .ge (.v 3) (.bin .pow (.k (.int 10)) (.k (.int 18)))))
 (.cons (.set 0 (.k (.int 2)) (.v 3))
 .nil)
 .nil)
 .nil))))
 .nil)
def drawTail : Ss := (.cons (.ite (.e (.cmp .gt (.ixv 0 (.k (.int 2))) (.k (.int 0))))
 (.cons (.asg (.n 4) (.bin .mod (.b1 .int (.ixv 0 (.k (.int 2)))) (.v 1)))
 (.cons (.set 0 (.k (.int 2)) (.bin .fdiv (.ixv 0 (.k (.int 2))) (.v 1)))
 (.cons (.retv 4)
 .nil)))
 .nil)
 (.cons (.set 0 (.k (.int 4)) (.bin .add (.ixv 0 (.k (.int 4))) (.k (.int 1))))
 (.cons (.asg (.n 2) (.bin .mod (.b1 .int (.bin .mul (.b1 .int (.bin .add (.ixv 0 (.k (.int 3))) (.bin .mul (.k (.int 6151)) (.ixv 0 (.k (.int 4)))))) (.k (.int 40692)))) (.k (.int 2147483399))))
 (.cons (.asg (.n 2) (.bin .mod (.b1 .int (.bin .mul (.v 2) (.bin .add (.bin .fdiv (.v 2) (.k (.int 1223))) (.k (.int 52027))))) (.k (.int 2147483629))))
 (.cons (.asg (.n 2) (.bin .mod (.b1 .int (.bin .mul (.v 2) (.bin .add (.bin .fdiv (.v 2) (.k (.int 2671))) (.k (.int 69621))))) (.k (.int 2147483647))))
 (.cons (.ret (.bin .mod (.b1 .int (.bin .fdiv (.v 2) (.k (.int 32)))) (.v 1)))
 .nil))))))
def fDraw : Fn := ⟨2, 5, .cons drawHead drawTail⟩
def lowC : T := (.e (.cmp .gt (.v 3) (.k (.int 0))))
def lowB : Ss := (.cons (.par [3, 2] (.cons (.bin .mod (.b1 .int (.v 2)) (.v 3)) (.cons (.v 3) .nil))) .nil)
def lowLoop : S := .whl lowC lowB
def fLow : Fn := ⟨2, 4, (.cons (.par [3, 2] (.cons (.b1 .abs (.v 0)) (.cons (.b1 .abs (.v 1)) .nil)))
 (.cons lowLoop
 (.cons (.asg (.n 2) (.ife (.e (.cmp .gt (.v 1) (.k (.int 0)))) (.v 2) (.bin .sub (.k (.int 0)) (.v 2))))
 (.cons (.ret (.tup (.cons (.bin .fdiv (.v 0) (.v 2)) (.cons (.bin .fdiv (.v 1) (.v 2)) .nil))))
 .nil))))⟩
def comC : T := (.e (.cmp .gt (.v 1) (.k (.int 0))))
def comB : Ss := (.cons (.par [0, 1] (.cons (.v 1) (.cons (.bin .mod (.v 0) (.v 1)) .nil))) .nil)
def comLoop : S := .whl comC comB
def fCommon : Fn := ⟨2, 2, (.cons (.par [0, 1] (.cons (.b1 .abs (.v 0)) (.cons (.b1 .abs (.v 1)) .nil)))
 (.cons comLoop
 (.cons (.retv 0)
 .nil)))⟩
def handLc : E := (.lc (.b1 .abs (.b1 .int (.v 2))) (.n 2) (.of (.scr 0 63)) .yes)
def fHand : Fn := ⟨1, 3, (.cons (.asg (.n 1) handLc)
 (.cons (.ret (.lst (.cons (.v 1) (.cons (.k (.int 0)) (.cons (.k (.int 0)) (.cons (.bin .add (.k (.int 97)) (.bin .mul (.k (.int 5)) (.b1 .len (.v 1)))) (.cons (.k (.int 0)) .nil)))))))
 .nil))⟩
/-- the hand: the cells, the place, the figures left, the state, the count -/
def HandOk (n : Nat) (xs : List D) : Prop := ∃ (cs : List Int) (i b s c : Int), xs = [.list (cs.map PyData.int), .int i, .int b, .int s, .int c] ∧ (∀ x ∈ cs, 0 ≤ x) ∧ 0 ≤ i ∧ 0 ≤ b ∧ 0 ≤ s ∧ s < 2147483648 ∧ 0 ≤ c ∧ c ≤ n
theorem HandOk.mono {n m : Nat} {xs : List D} (h : HandOk n xs) (hm : n ≤ m) : HandOk m xs := by
  obtain ⟨cs, i, b, s, c, e, h1, h2, h3, h4, h5, h6, h7⟩ := h
  exact ⟨cs, i, b, s, c, e, h1, h2, h3, h4, h5, h6, by omega⟩
theorem at0 {a b c d e : D} : L2.atI [a, b, c, d, e] 0 = some a := rfl
theorem at1 {a b c d e : D} : L2.atI [a, b, c, d, e] 1 = some b := rfl
theorem at2 {a b c d e : D} : L2.atI [a, b, c, d, e] 2 = some c := rfl
theorem at3 {a b c d e : D} : L2.atI [a, b, c, d, e] 3 = some d := rfl
theorem at4 {a b c d e : D} : L2.atI [a, b, c, d, e] 4 = some e := rfl
theorem st1 {a b c d e x : D} : setAt? [a, b, c, d, e] 1 x = some [a, x, c, d, e] := rfl
theorem st2 {a b c d e x : D} : setAt? [a, b, c, d, e] 2 x = some [a, b, x, d, e] := rfl
theorem st3 {a b c d e x : D} : setAt? [a, b, c, d, e] 3 x = some [a, b, c, x, e] := rfl
theorem st4 {a b c d e x : D} : setAt? [a, b, c, d, e] 4 x = some [a, b, c, d, x] := rfl
theorem big_lit {n : Nat} (h : n < 2 ^ 250) : n < BIG := lt_BIG h
theorem mulS {i j : Int} (h1 : i.natAbs < 2 ^ 250) (h2 : j.natAbs < 2 ^ 250) : binD .mul (.int i) (.int j) = some (.int (i * j)) := b_mul (lt_BIG h1) (lt_BIG h2)
theorem divS {i j : Int} (h1 : 0 < j) (h2 : j.natAbs < 2 ^ 250) : binD .fdiv (.int i) (.int j) = some (.int (i / j)) := b_fdiv h1 (lt_DIVB h2)
theorem mod_lt {x m : Int} (h : 0 < m) : 0 ≤ x % m ∧ x % m < m := ⟨Int.emod_nonneg _ (by omega), Int.emod_lt_of_pos _ h⟩
section
variable {P : List Fn} {gl : Nat → Option D} {j : Nat}
theorem draw_tail {C : Cfg} {cs : D} {i b s c many : Int} {z : Option Slot} {h0 : List D} {as : List Slot} (hm : 0 < many) (hm2 : many < 1000000000) (hb : 0 ≤ b) (hs : 0 ≤ s) (hs2 : s < 2147483648) (hc : 0 ≤ c) (hc2 : c < 1000000000) :
    ∃ r b' c' : Int, finR (.io h0 :: as) (evSs C drawTail [some (.io [cs, .int i, .int b, .int s, .int c]), some (.v (.int many)), none, z, none]) = .ret (.pv (.int r)) (some (.io [cs, .int i, .int b', .int s, .int c'])) ∧ 0 ≤ r ∧ r < many ∧ 0 ≤ b' ∧ 0 ≤ c' ∧ c' ≤ c + 1 := by
  have hd : many.natAbs < 2 ^ 250 := by omega
  by_cases h : 0 < b
  · refine ⟨b % many, b / many, c, ?_, (mod_lt hm).1, (mod_lt hm).2, Int.ediv_nonneg hb (by omega), hc, by omega⟩
    · simp [drawTail, at2, h, b_mod hm, divS hm hd, st2]
  · have m1 : binD .mul (.int 6151) (.int (c + 1)) = some (.int (6151 * (c + 1))) := mulS (by decide) (by omega)
    have m2 : binD .mul (.int (s + 6151 * (c + 1))) (.int 40692) = some (.int ((s + 6151 * (c + 1)) * 40692)) := mulS (by omega) (by decide)
    have q1 := mod_lt (x := (s + 6151 * (c + 1)) * 40692) (m := 2147483399) (by decide)
    generalize hn1 : (s + 6151 * (c + 1)) * 40692 % 2147483399 = n1 at q1
    have d1 : binD .fdiv (.int n1) (.int 1223) = some (.int (n1 / 1223)) := divS (by decide) (by decide)
    have m3 : binD .mul (.int n1) (.int (n1 / 1223 + 52027)) = some (.int (n1 * (n1 / 1223 + 52027))) := mulS (by omega) (by omega)
    have q2 := mod_lt (x := n1 * (n1 / 1223 + 52027)) (m := 2147483629) (by decide)
    generalize hn2 : n1 * (n1 / 1223 + 52027) % 2147483629 = n2 at q2
    have d2 : binD .fdiv (.int n2) (.int 2671) = some (.int (n2 / 2671)) := divS (by decide) (by decide)
    have m4 : binD .mul (.int n2) (.int (n2 / 2671 + 69621)) = some (.int (n2 * (n2 / 2671 + 69621))) := mulS (by omega) (by omega)
    have q3 := mod_lt (x := n2 * (n2 / 2671 + 69621)) (m := 2147483647) (by decide)
    generalize hn3 : n2 * (n2 / 2671 + 69621) % 2147483647 = n3 at q3
    have d3 : binD .fdiv (.int n3) (.int 32) = some (.int (n3 / 32)) := divS (by decide) (by decide)
    have o1 : ∀ x : Int, binD .mod (.int x) (.int 2147483399) = some (.int (x % 2147483399)) := fun x => b_mod (by decide)
    have o2 : ∀ x : Int, binD .mod (.int x) (.int 2147483629) = some (.int (x % 2147483629)) := fun x => b_mod (by decide)
    have o3 : ∀ x : Int, binD .mod (.int x) (.int 2147483647) = some (.int (x % 2147483647)) := fun x => b_mod (by decide)
    refine ⟨n3 / 32 % many, b, c + 1, ?_, (mod_lt hm).1, (mod_lt hm).2, hb, by omega, by omega⟩
    · simp [drawTail, at2, at3, at4, h, b_mod hm, st4, m1, m2, hn1, o1, d1, m3, hn2, o2, d2, m4, hn3, o3, d3]
theorem draw_ok {n m : Nat} {many : Int} {xs : List D} (hP : P[j]? = some fDraw) (H : HandOk m xs) (hm : 0 < many) (hm2 : many < 1000000000) (hc2 : m < 1000000000) :
    ∃ (r : Int) (ys : List D), run P gl (n + 1) j [.io xs, .v (.int many)] = .ret (.pv (.int r)) (some (.io ys)) ∧ HandOk (m + 1) ys ∧ 0 ≤ r ∧ r < many := by
  obtain ⟨cs, i, b, s, c, rfl, h1, h2, h3, h4, h5, h6, h7⟩ := H
  have done : ∀ (i' b' s' : Int) (z : Option Slot) (ρ : Env), 0 ≤ i' → 0 ≤ b' → 0 ≤ s' → s' < 2147483648 → evS ⟨run P gl n, gl⟩ drawHead [some (.io [.list (cs.map PyData.int), .int i, .int b, .int s, .int c]), some (.v (.int many)), none, none, none] = .nx [some (.io [.list (cs.map PyData.int), .int i', .int b', .int s', .int c]), some (.v (.int many)), none, z, none] →
      ∃ (r : Int) (ys : List D), run P gl (n + 1) j [.io [.list (cs.map PyData.int), .int i, .int b, .int s, .int c], .v (.int many)] = .ret (.pv (.int r)) (some (.io ys)) ∧ HandOk (m + 1) ys ∧ 0 ≤ r ∧ r < many := by
    intro i' b' s' z _ k1 k2 k3 k4 e
    obtain ⟨r, b2, c2, q, q1, q2, q3, q4, q5⟩ := draw_tail (C := ⟨run P gl n, gl⟩) (cs := .list (cs.map PyData.int)) (i := i') (b := b') (s := s') (c := c) (many := many) (z := z) (h0 := [.list (cs.map PyData.int), .int i, .int b, .int s, .int c]) (as := [.v (.int many)]) hm hm2 k2 k3 k4 h6 (by omega)
    refine ⟨r, _, ?_, ⟨cs, i', b2, s', c2, rfl, h1, k1, q3, k3, k4, q4, by omega⟩, q1, q2⟩
    rw [run_succ hP, if_pos ⟨rfl, rfl⟩, ← q]
    show finR _ (evSs _ (.cons drawHead drawTail) [some (.io [.list (cs.map PyData.int), .int i, .int b, .int s, .int c]), some (.v (.int many)), none, none, none]) = _
    rw [ss_cons, e]
    rfl
  by_cases c1 : b = 0 ∧ i < cs.length
  · obtain ⟨e1, c2⟩ := c1
    subst e1
    have ea : L2.atI (cs.map PyData.int) i = some (.int (cs[i.toNat]'(by omega))) := by
      rw [at_nat h2 (by simpa using c2), List.getElem?_map, List.getElem?_eq_getElem (by omega)]
      rfl
    have hx : 0 ≤ cs[i.toNat]'(by omega) := h1 _ (List.getElem_mem _)
    generalize cs[i.toNat]'(by omega) = x at ea hx
    have m1 : binD .mul (.int s) (.int 48271) = some (.int (s * 48271)) := mulS (by omega) (by decide)
    have q1 := mod_lt (x := s * 48271 + x + 31) (m := 2147483647) (by decide)
    have o1 : binD .mod (.int (s * 48271 + x + 31)) (.int 2147483647) = some (.int ((s * 48271 + x + 31) % 2147483647)) := b_mod (by decide)
    have pw : binD .pow (.int 10) (.int 18) = some (.int 1000000000000000000) := by simp [binD]
    by_cases c3 : 1000000000000000000 ≤ x
    · refine done (i + 1) x _ (some (.v (.int x))) [] (by omega) hx q1.1 (by omega) ?_
      simp [drawHead, at0, at1, at2, at3, st1, st2, st3, ea, m1, o1, pw, c2, c3]
    · refine done (i + 1) 0 _ (some (.v (.int x))) [] (by omega) (by omega) q1.1 (by omega) ?_
      simp [drawHead, at0, at1, at2, at3, st1, st2, st3, ea, m1, o1, pw, c2, c3]
  · refine done i b s none [] h2 h3 h4 h5 ?_
    by_cases c2 : b = 0
    · have : ¬ i < cs.length := fun z => c1 ⟨c2, z⟩
      simp [drawHead, at0, at1, at2, c2, this]
    · simp [drawHead, at0, at1, at2, c2]
end
end Pv

namespace Pv
open PySem
/-! ### loops and comprehensions -/
theorem forGo_inv {f : D → Env → SR} (I : Nat → Env → Prop) {ds : List D} {ρ : Env} (h0 : I 0 ρ) (step : ∀ i d ρ, ds[i]? = some d → I i ρ → ∃ ρ', f d ρ = .nx ρ' ∧ I (i + 1) ρ') : ∃ ρ', forGo f ds ρ = .nx ρ' ∧ I ds.length ρ' := by
  induction ds generalizing I ρ with
  | nil => exact ⟨ρ, rfl, h0⟩
  | cons x xs ih =>
    obtain ⟨ρ1, e, h1⟩ := step 0 x ρ rfl h0
    obtain ⟨ρ2, e2, h2⟩ := ih (fun i ρ => I (i + 1) ρ) h1 fun i d ρ hd hi => step (i + 1) d ρ (by simpa using hd) hi
    refine ⟨ρ2, ?_, h2⟩
    unfold forGo
    rw [e]
    exact e2
theorem set_back {ρ : Env} {i : Nat} (hi : i < ρ.length) (x : Option Slot) : (ρ.set i x).set i (ρ.getD i none) = ρ := by
  rw [List.set_set]
  apply List.ext_getElem?
  intro j
  by_cases h : i = j
  · subst h
    rw [List.getElem?_set_self hi, List.getD_eq_getElem?_getD, List.getElem?_eq_getElem hi]
    rfl
  · rw [List.getElem?_set_ne h]
theorem lcTurn_n {i : Nat} {ev : Env → R (Option D)} {ρ : Env} {x : D} {o : Option D} (hi : i < ρ.length) (hp : plainAt ρ [i] = true) (h : ev (ρ.set i (some (.v x))) = .ok o (ρ.set i (some (.v x)))) : lcTurn (.n i) ev x ρ = .ok o ρ := by
  unfold lcTurn
  rw [if_pos (show plainAt ρ (Tg.n i).slots = true from hp)]
  have e1 : putT (wipeE ρ (Tg.n i).slots) (.n i) x = .ok () (ρ.set i (some (.v x))) := by
    show putV (ρ.set i none) i (.pv x) = _
    unfold putV
    rw [if_pos]
    · rw [List.set_set]
    · unfold freeAt
      rw [List.getElem?_set_self hi]
  rw [e1]
  show (ev (ρ.set i (some (.v x)))).bind _ = _
  rw [h]
  show R.ok o (backE ρ (ρ.set i (some (.v x))) [i]) = _
  congr 1
  exact set_back hi _
theorem lcGo_n {i : Nat} {ev : Env → R (Option D)} {ρ : Env} {g : D → D} (hi : i < ρ.length) (hp : plainAt ρ [i] = true) : ∀ {xs : List D}, (∀ x ∈ xs, ev (ρ.set i (some (.v x))) = .ok (some (g x)) (ρ.set i (some (.v x)))) → lcGo (lcTurn (.n i) ev) xs ρ = .ok (xs.map g) ρ
  | [], _ => rfl
  | x :: xs, h => by
    unfold lcGo
    rw [lcTurn_n hi hp (h x List.mem_cons_self)]
    show (lcGo _ xs ρ).bind _ = _
    rw [lcGo_n hi hp fun y hy => h y (List.mem_cons_of_mem _ hy)]
    rfl
theorem lcTurn_2 {i j : Nat} {ev : Env → R (Option D)} {ρ : Env} {x y : D} {o : Option D} (hi : i < ρ.length) (hj : j < ρ.length) (hij : i ≠ j) (hp : plainAt ρ [i, j] = true) (h : ev ((ρ.set i (some (.v x))).set j (some (.v y))) = .ok o ((ρ.set i (some (.v x))).set j (some (.v y)))) : lcTurn (.t [i, j]) ev (.tuple [x, y]) ρ = .ok o ρ := by
  unfold lcTurn
  rw [if_pos (show plainAt ρ (Tg.t [i, j]).slots = true from hp)]
  have e1 : putT (wipeE ρ (Tg.t [i, j]).slots) (.t [i, j]) (.tuple [x, y]) = .ok () ((ρ.set i (some (.v x))).set j (some (.v y))) := by
    show (if ([x, y] : List D).length = [i, j].length then putAll ((ρ.set j none).set i none) [i, j] [x, y] else .bad) = _
    rw [if_pos (show ([x, y] : List D).length = [i, j].length from rfl)]
    have f1 : freeAt ((ρ.set j none).set i none) i = true := by
      unfold freeAt
      rw [List.getElem?_set_self (by simpa using hi)]
    have f2 : freeAt (((ρ.set j none).set i none).set i (some (.v x))) j = true := by
      unfold freeAt
      rw [List.getElem?_set_ne hij, List.getElem?_set_ne hij, List.getElem?_set_self hj]
    rw [putAll_cons, putD_eq, putV_pv, if_pos f1]
    show putAll _ [j] [y] = _
    rw [putAll_cons, putD_eq, putV_pv, if_pos f2]
    show R.ok () _ = _
    congr 1
    rw [List.set_set, List.set_comm _ _ hij.symm, List.set_set]
  rw [e1]
  show (ev ((ρ.set i (some (.v x))).set j (some (.v y)))).bind _ = _
  rw [h]
  show R.ok o (backE ρ ((ρ.set i (some (.v x))).set j (some (.v y))) [i, j]) = _
  congr 1
  show ((((ρ.set i (some (.v x))).set j (some (.v y))).set j (ρ.getD j none)).set i (ρ.getD i none)) = ρ
  rw [List.set_set, List.set_comm _ _ hij.symm, List.set_set]
  rw [List.set_comm _ _ hij]
  apply List.ext_getElem?
  intro k
  by_cases h1 : i = k
  · subst h1
    rw [List.getElem?_set_self (by simpa using hi), List.getD_eq_getElem?_getD, List.getElem?_eq_getElem hi]
    rfl
  · rw [List.getElem?_set_ne h1]
    by_cases h2 : j = k
    · subst h2
      rw [List.getElem?_set_self hj, List.getD_eq_getElem?_getD, List.getElem?_eq_getElem hj]
      rfl
    · rw [List.getElem?_set_ne h2]
theorem rngOf1 {j : Int} (h0 : -(2 ^ 62) ≤ j) (h1 : j < 2 ^ 62) : rngOf [.int j] = some (0, j.toNat, 1) := if_pos ⟨h0, h1⟩
theorem rngOfA {k : Int} (hk : k.natAbs ≤ 1000000) : rngOf [.int (k.natAbs : Int)] = some (0, k.natAbs, 1) := by
  have := rngOf1 (j := (k.natAbs : Int)) (by omega) (by omega)
  rw [this]
  rfl
theorem cio_own {call : List Slot → FR} {i : Nat} {args : Env → R (List D)} {ρ ρ' : Env} {xs xs' ys : List D} {ds : List D} {x : Val} (h0 : ρ[i]? = some (some (.own xs))) (h1 : args ρ = .ok ds ρ') (h2 : ρ'[i]? = some (some (.own xs'))) (hc : call (.io xs' :: ds.map .v) = .ret x (some (.io ys))) : cioGo call i args ρ = .ok x (ρ'.set i (some (.own ys))) := by
  unfold cioGo ioArg
  simp [h0, h1, h2, hc, backR, backS]
theorem cio_io {call : List Slot → FR} {i : Nat} {args : Env → R (List D)} {ρ ρ' : Env} {xs xs' ys : List D} {ds : List D} {x : Val} (h0 : ρ[i]? = some (some (.io xs))) (h1 : args ρ = .ok ds ρ') (h2 : ρ'[i]? = some (some (.io xs'))) (hc : call (.io xs' :: ds.map .v) = .ret x (some (.io ys))) : cioGo call i args ρ = .ok x (ρ'.set i (some (.io ys))) := by
  unfold cioGo ioArg
  simp [h0, h1, h2, hc, backR, backS]
theorem ecio_own {C : Cfg} {j i : Nat} {es : Es} {ρ ρ' : Env} {xs xs' ys : List D} {ds : List D} {x : Val} (h0 : ρ[i]? = some (some (.own xs))) (h1 : evA C es ρ = .ok ds ρ') (h2 : ρ'[i]? = some (some (.own xs'))) (hc : C.call j (.io xs' :: ds.map .v) = .ret x (some (.io ys))) : evE C (.cio j i es) ρ = .ok x (ρ'.set i (some (.own ys))) := by
  rw [e_cio]
  exact cio_own h0 h1 h2 hc
theorem ecio_io {C : Cfg} {j i : Nat} {es : Es} {ρ ρ' : Env} {xs xs' ys : List D} {ds : List D} {x : Val} (h0 : ρ[i]? = some (some (.io xs))) (h1 : evA C es ρ = .ok ds ρ') (h2 : ρ'[i]? = some (some (.io xs'))) (hc : C.call j (.io xs' :: ds.map .v) = .ret x (some (.io ys))) : evE C (.cio j i es) ρ = .ok x (ρ'.set i (some (.io ys))) := by
  rw [e_cio]
  exact cio_io h0 h1 h2 hc
theorem s_whl_step {C : Cfg} {c : T} {b : Ss} {ρ : Env} : evS C (.whl c b) ρ = (match evT C c ρ with
    | .ok true ρ => (match evSs C b ρ with
      | .nx ρ => evS C (.whl c b) ρ
      | .ct ρ => evS C (.whl c b) ρ
      | .brk ρ => .nx ρ
      | r => r)
    | .ok false ρ => .nx ρ
    | .exc c x ρ => .exc c x ρ
    | .bad => .bad) := whl_step _ _ _
theorem whl_f {C : Cfg} {c : T} {b : Ss} {ρ ρ' : Env} (h : evT C c ρ = .ok false ρ') : evS C (.whl c b) ρ = .nx ρ' := by rw [s_whl_step, h]
theorem whl_t {C : Cfg} {c : T} {b : Ss} {ρ ρ1 ρ2 : Env} (h : evT C c ρ = .ok true ρ1) (h2 : evSs C b ρ1 = .nx ρ2) : evS C (.whl c b) ρ = evS C (.whl c b) ρ2 := by
  rw [s_whl_step, h]
  simp only [h2]
section
variable {P : List Fn} {gl : Nat → Option D} {j n : Nat}
/-! ### the hand -/
theorem hand_ok {ns : List Int} (hP : P[j]? = some fHand) : ∃ xs, run P gl (n + 1) j [.raw (ns.map PyData.int)] = .ret (.fr xs) none ∧ HandOk 0 xs := by
  have hl : (cut (ns.map PyData.int) none (some 63)) = (cut ns none (some 63)).map PyData.int := by
    unfold cut
    rw [List.length_map, List.map_take, List.map_drop]
  have hlen : (cut ns none (some 63)).length ≤ 63 := by
    unfold cut
    rw [List.length_take, List.length_drop]
    have : HT.sIx ns.length ns.length (some 63) ≤ 63 := by
      simp [HT.sIx]
      omega
    omega
  generalize cut ns none (some 63) = cs at hl hlen
  have lc : ∀ C : Cfg, evE C handLc [some (.raw (ns.map PyData.int)), none, none] = .ok (.fr ((cs.map fun i => if i < 0 then -i else i).map PyData.int)) [some (.raw (ns.map PyData.int)), none, none] := fun C => by
    unfold handLc
    rw [e_lc]
    have e1 : evI C (.of (.scr 0 63)) [some (.raw (ns.map PyData.int)), none, none] = .ok (cs.map PyData.int) [some (.raw (ns.map PyData.int)), none, none] := by simp [scrV, hl]
    rw [e1]
    show lcEnd (lcGo _ _ _) = _
    rw [lcGo_n (g := fun d => match d with | .int i => .int (if i < 0 then -i else i) | d => d) (by simp) rfl ?_]
    · have h6 : cs.length ≤ LIM := Nat.le_trans hlen (by decide)
      simp [h6]
    · intro x hx
      obtain ⟨i, _, rfl⟩ := List.mem_map.mp hx
      simp
  have m1 : binD .mul (.int 5) (.int (cs.length : Int)) = some (.int (5 * (cs.length : Int))) := mulS (by decide) (by omega)
  refine ⟨[.list ((cs.map fun i => if i < 0 then -i else i).map PyData.int), .int 0, .int 0, .int (97 + 5 * cs.length), .int 0], ?_, ⟨_, 0, 0, _, 0, rfl, ?_, by omega, by omega, by omega, by omega, by omega, by omega⟩⟩
  · rw [run_succ hP, if_pos ⟨rfl, rfl⟩]
    have h5 : (5 : Nat) ≤ LIM := by decide
    simp [fHand, lc, m1, h5]
  · intro x hx
    obtain ⟨i, _, rfl⟩ := List.mem_map.mp hx
    split <;> omega
/-! ### the greatest common part -/
theorem gcd_pos {a b : Nat} (h : 0 < b) : 0 < Nat.gcd a b := Nat.gcd_pos_of_pos_right _ h
theorem low_loop {C : Cfg} {t u : Option Slot} : ∀ (m a b : Nat), a ≤ m → evS C lowLoop [t, u, some (.v (.int b)), some (.v (.int a))] = .nx [t, u, some (.v (.int (Nat.gcd a b))), some (.v (.int 0))]
  | 0, a, b, h => by
    have e : a = 0 := by omega
    subst e
    rw [Nat.gcd_zero_left]
    exact whl_f (by simp [lowC])
  | m + 1, a, b, h => by
    by_cases h0 : a = 0
    · subst h0
      rw [Nat.gcd_zero_left]
      exact whl_f (by simp [lowC])
    · have hp : (0 : Int) < a := by omega
      have ih := low_loop (C := C) (t := t) (u := u) m (b % a) a (by have := Nat.mod_lt b (show 0 < a by omega); omega)
      rw [Nat.gcd_rec a b, ← ih]
      exact whl_t (ρ1 := [t, u, some (.v (.int b)), some (.v (.int a))]) (by simp [lowC]; omega) (by simp [lowB, b_mod hp])
theorem common_loop {C : Cfg} : ∀ (m a b : Nat), a ≤ m → evS C comLoop [some (.v (.int b)), some (.v (.int a))] = .nx [some (.v (.int (Nat.gcd a b))), some (.v (.int 0))]
  | 0, a, b, h => by
    have e : a = 0 := by omega
    subst e
    rw [Nat.gcd_zero_left]
    exact whl_f (by simp [comC])
  | m + 1, a, b, h => by
    by_cases h0 : a = 0
    · subst h0
      rw [Nat.gcd_zero_left]
      exact whl_f (by simp [comC])
    · have hp : (0 : Int) < a := by omega
      have ih := common_loop (C := C) m (b % a) a (by have := Nat.mod_lt b (show 0 < a by omega); omega)
      rw [Nat.gcd_rec a b, ← ih]
      exact whl_t (ρ1 := [some (.v (.int b)), some (.v (.int a))]) (by simp [comC]; omega) (by simp [comB, b_mod hp])
theorem abs_nat (i : Int) : (if i < 0 then -i else i) = (i.natAbs : Int) := by split <;> omega
theorem common_ok {a b : Int} (hP : P[j]? = some fCommon) : run P gl (n + 1) j [.v (.int a), .v (.int b)] = .ret (.pv (.int (Int.gcd a b))) none := by
  rw [run_succ hP, if_pos ⟨rfl, rfl⟩]
  have e := common_loop (C := ⟨run P gl n, gl⟩) b.natAbs b.natAbs a.natAbs (Nat.le_refl _)
  simp [fCommon, abs_nat, e, Int.gcd, Nat.gcd_comm]
/-- lowest terms, the bottom above 0 -/
theorem low_pos {t b : Int} (hP : P[j]? = some fLow) (hb : 0 < b) (hb2 : b < 2 ^ 250) : run P gl (n + 1) j [.v (.int t), .v (.int b)] = .ret (.pv (.tuple [.int (t / Int.gcd t b), .int (b / Int.gcd t b)])) none := by
  have hg : 0 < Int.gcd t b := Int.gcd_pos_of_ne_zero_right _ (by omega)
  have hle : (Int.gcd t b : Int) ≤ b := Int.le_of_dvd hb (Int.gcd_dvd_right ..)
  rw [run_succ hP, if_pos ⟨rfl, rfl⟩]
  have e := low_loop (C := ⟨run P gl n, gl⟩) (t := some (.v (.int t))) (u := some (.v (.int b))) t.natAbs t.natAbs b.natAbs (Nat.le_refl _)
  have e2 : ((t.natAbs.gcd b.natAbs : Nat) : Int) = (Int.gcd t b : Int) := rfl
  rw [e2] at e
  have d1 : ∀ x, binD .fdiv (.int x) (.int (Int.gcd t b)) = some (.int (x / Int.gcd t b)) := fun x => divS (by omega) (by omega)
  have h2 : (2 : Nat) ≤ LIM := by decide
  simp [fLow, abs_nat, e, hb, d1, h2]
/-- the bottom below 0 -/
theorem low_neg {t b : Int} (hP : P[j]? = some fLow) (hb : b < 0) (hg : Int.gcd t b = 1) : run P gl (n + 1) j [.v (.int t), .v (.int b)] = .ret (.pv (.tuple [.int (-t), .int (-b)])) none := by
  rw [run_succ hP, if_pos ⟨rfl, rfl⟩]
  have e := low_loop (C := ⟨run P gl n, gl⟩) (t := some (.v (.int t))) (u := some (.v (.int b))) t.natAbs t.natAbs b.natAbs (Nat.le_refl _)
  have e2 : ((t.natAbs.gcd b.natAbs : Nat) : Int) = 1 := by
    show (Int.gcd t b : Int) = 1
    rw [hg]
    rfl
  rw [e2] at e
  have d1 : ∀ x, binD .fdiv (.int x) (.int (-1)) = some (.int (-x)) := fun x => by
    have : x.fdiv (-1) = -x := by simp [Int.fdiv_neg]
    simp [binD, this]
  have h2 : (2 : Nat) ≤ LIM := by decide
  have hb' : ¬ 0 < b := by omega
  simp [fLow, abs_nat, e, hb', d1, h2]
end
end Pv

namespace Pv
open PySem
/-! ### told and due are alike -/
def isLc (j : Nat) : E := (.lc (.call j (.cons (.v 3) (.cons (.v 4) .nil))) (.t [3, 4]) (.zip (.v 0) (.v 1)) .yes)
def fIs (j : Nat) : Fn := ⟨2, 5, (.cons (.ite (.e (.isi (.v 1) [.tup, .lst]))
 (.cons (.ite (.or (.e (.cmp .ne (.isi (.v 0) [.tup]) (.isi (.v 1) [.tup]))) (.not (.e (.isi (.v 0) [.tup, .lst]))))
 (.cons (.ret (.k (.bool false)))
 .nil)
 .nil)
 (.cons (.ret (.and (.cmp .eq (.b1 .len (.v 0)) (.b1 .len (.v 1))) (.b1 .all (isLc j))))
 .nil))
 .nil)
 (.cons (.ite (.e (.isi (.v 1) [.dic]))
 (.cons (.ite (.or (.not (.e (.isi (.v 0) [.dic]))) (.e (.cmp .ne (.b1 .len (.v 0)) (.b1 .len (.v 1)))))
 (.cons (.ret (.k (.bool false)))
 .nil)
 .nil)
 (.cons (.ret (.b1 .all (.lc (.and (.cmp .isin (.v 2) (.v 0)) (.call j (.cons (.ixv 0 (.v 2)) (.cons (.ixv 1 (.v 2)) .nil)))) (.n 2) (.of (.v 1)) .yes)))
 .nil))
 .nil)
 (.cons (.ite (.or (.e (.isi (.v 1) [.str])) (.e (.cmp .is (.v 1) (.k .none))))
 (.cons (.ret (.and (.cmp .eq (.isi (.v 0) [.str]) (.isi (.v 1) [.str])) (.cmp .eq (.v 0) (.v 1))))
 .nil)
 .nil)
 (.cons (.ret (.and (.isi (.v 0) [.int]) (.and (.cmp .eq (.isi (.v 0) [.bool]) (.isi (.v 1) [.bool])) (.cmp .eq (.v 0) (.v 1)))))
 .nil))))⟩
@[simp] theorem c_isn_i (i : Int) : cmpD .is (.int i) .none = some false := rfl
@[simp] theorem c_isn_t (i : List D) : cmpD .is (.tuple i) .none = some false := rfl
@[simp] theorem c_isn_n : cmpD .is .none .none = some true := rfl
@[simp] theorem ty_ii (i : Int) : Ty.is .int (.int i) = true := rfl
@[simp] theorem ty_bi (i : Int) : Ty.is .bool (.int i) = false := rfl
@[simp] theorem ty_si (i : Int) : Ty.is .str (.int i) = false := rfl
@[simp] theorem ty_ti (i : Int) : Ty.is .tup (.int i) = false := rfl
@[simp] theorem ty_li (i : Int) : Ty.is .lst (.int i) = false := rfl
@[simp] theorem ty_di (i : Int) : Ty.is .dic (.int i) = false := rfl
@[simp] theorem ty_tt (i : List D) : Ty.is .tup (.tuple i) = true := rfl
@[simp] theorem ty_it (i : List D) : Ty.is .int (.tuple i) = false := rfl
@[simp] theorem ty_bt (i : List D) : Ty.is .bool (.tuple i) = false := rfl
@[simp] theorem ty_lt (i : List D) : Ty.is .lst (.tuple i) = false := rfl
@[simp] theorem ty_dt (i : List D) : Ty.is .dic (.tuple i) = false := rfl
@[simp] theorem ty_st (i : List D) : Ty.is .str (.tuple i) = false := rfl
section
variable {P : List Fn} {gl : Nat → Option D} {j n : Nat}
theorem is_int (hP : P[j]? = some (fIs j)) (i : Int) : run P gl (n + 1) j [.v (.int i), .v (.int i)] = .ret (.pv (.bool true)) none := by
  rw [run_succ hP, if_pos ⟨rfl, rfl⟩]
  simp [fIs]
/-- told is due: every item of a tuple is alike, so the tuple is -/
theorem is_tup {m : Nat} (hP : P[j]? = some (fIs j)) (ds : List D) (hl : ds.length ≤ LIM) (h : ∀ d ∈ ds, run P gl m j [.v d, .v d] = .ret (.pv (.bool true)) none) : run P gl (m + 1) j [.v (.tuple ds), .v (.tuple ds)] = .ret (.pv (.bool true)) none := by
  rw [run_succ hP, if_pos ⟨rfl, rfl⟩]
  have z : zipD ds ds = ds.map fun d => .tuple [d, d] := by
    clear h hl
    induction ds with
    | nil => rfl
    | cons d r ih => simp [zipD, ih]
  have lc : evE ⟨run P gl m, gl⟩ (isLc j) [some (.v (.tuple ds)), some (.v (.tuple ds)), none, none, none] = .ok (.fr (ds.map fun _ => .bool true)) [some (.v (.tuple ds)), some (.v (.tuple ds)), none, none, none] := by
    unfold isLc
    rw [e_lc]
    have e1 : evI ⟨run P gl m, gl⟩ (.zip (.v 0) (.v 1)) [some (.v (.tuple ds)), some (.v (.tuple ds)), none, none, none] = .ok (ds.map fun d => .tuple [d, d]) [some (.v (.tuple ds)), some (.v (.tuple ds)), none, none, none] := by simp [zipO, z]
    rw [e1]
    show lcEnd (lcGo _ _ _) = _
    have e2 : ∀ xs : List D, (∀ d ∈ xs, run P gl m j [.v d, .v d] = .ret (.pv (.bool true)) none) → lcGo (lcTurn (.t [3, 4]) fun ρ => (evT ⟨run P gl m, gl⟩ .yes ρ).bind fun t ρ => iteR t (bindD (evE ⟨run P gl m, gl⟩ (.call j (.cons (.v 3) (.cons (.v 4) .nil))) ρ) fun y ρ => .ok (some y) ρ) (.ok none ρ)) (xs.map fun d => .tuple [d, d]) [some (.v (.tuple ds)), some (.v (.tuple ds)), none, none, none] = .ok (xs.map fun _ => .bool true) [some (.v (.tuple ds)), some (.v (.tuple ds)), none, none, none] := by
      intro xs
      induction xs with
      | nil => intro _; rfl
      | cons x xs ih =>
        intro hx
        rw [List.map_cons]
        unfold lcGo
        rw [lcTurn_2 (o := some (.bool true)) (by simp) (by simp) (by decide) rfl (by simp [hx x List.mem_cons_self])]
        show (lcGo _ _ _).bind _ = _
        rw [ih fun d hd => hx d (List.mem_cons_of_mem _ hd)]
        rfl
    rw [e2 ds h]
    simp [hl]
  have bo : ∀ xs : List D, boolsOf (xs.map fun _ => PyData.bool true) = some (xs.map fun _ => true) := fun xs => by
    induction xs with
    | nil => rfl
    | cons x r ih => simp [ih]
  have iv : isV (isLc j) = none := rfl
  simp [fIs, lc, bo, iv]
end
end Pv
namespace Lw
open Pv PySem
def tp (i : Nat) : Stmt := PySem.Challenge.pw_ratiohouse_k38_whole_maps_one_after_anot.main.body.getD i (.Pass ⟨0, 0, 0, 0⟩)
/-- 0 is_integer: 0=thing -/
def f_is_integer : Fn := ⟨1, 1, (.cons (.ret (.and (.isi (.v 0) [.int]) (.not (.isi (.v 0) [.bool]))))
 .nil)⟩
def d_is_integer : Dt := ⟨"is_integer", tp 2, ["thing"], ["thing"], f_is_integer⟩
theorem b_is_integer : d_is_integer.Bi := fun _ _ _ _ _ _ us hl => match us, hl with | [_], _ => rfl
/-- 1 is_within: 0=thing 1=low 2=high -/
def f_is_within : Fn := ⟨3, 3, (.cons (.ret (.and (.call 0 (.cons (.v 0) .nil)) (.chain .le .le (.v 1) (.v 0) (.v 2))))
 .nil)⟩
def d_is_within : Dt := ⟨"is_within", tp 3, ["thing", "low", "high"], ["thing", "low", "high"], f_is_within⟩
theorem b_is_within : d_is_within.Bi := fun _ _ _ _ _ _ us hl => match us, hl with | [_, _, _], _ => rfl
/-- 2 is_sized: 0=thing 1=low 2=high -/
def f_is_sized : Fn := ⟨3, 3, (.cons (.ret (.and (.isi (.v 0) [.tup]) (.chain .le .le (.v 1) (.b1 .len (.v 0)) (.v 2))))
 .nil)⟩
def d_is_sized : Dt := ⟨"is_sized", tp 4, ["thing", "low", "high"], ["thing", "low", "high"], f_is_sized⟩
theorem b_is_sized : d_is_sized.Bi := fun _ _ _ _ _ _ us hl => match us, hl with | [_, _, _], _ => rfl
/-- 3 common: 0=one 1=other -/
def f_common_b1 : Ss := (.cons (.par [0, 1] (.cons (.v 1) (.cons (.bin .mod (.v 0) (.v 1)) .nil)))
 .nil)
def f_common_l1 : S := (.whl (.e (.cmp .gt (.v 1) (.k (.int 0)))) f_common_b1)
def f_common : Fn := ⟨2, 2, (.cons (.par [0, 1] (.cons (.b1 .abs (.v 0)) (.cons (.b1 .abs (.v 1)) .nil)))
 (.cons f_common_l1
 (.cons (.retv 0)
 .nil)))⟩
def d_common : Dt := ⟨"common", tp 5, ["one", "other"], ["one", "other"], f_common⟩
theorem b_common : d_common.Bi := fun _ _ _ _ _ _ us hl => match us, hl with | [_, _], _ => rfl
/-- 4 is_ratio: 0=thing 1=one -/
def f_is_ratio : Fn := ⟨1, 2, (.cons (.ite (.or (.not (.e (.call 2 (.cons (.v 0) (.cons (.k (.int 2)) (.cons (.k (.int 2)) .nil)))))) (.not (.e (.b1 .all (.lc (.call 0 (.cons (.v 1) .nil)) (.n 1) (.of (.v 0)) .yes)))))
 (.cons (.ret (.k (.bool false)))
 .nil)
 .nil)
 (.cons (.ite (.or (.e (.cmp .ge (.b1 .abs (.ixv 0 (.k (.int 0)))) (.g 0))) (.not (.e (.chain .lt .lt (.k (.int 0)) (.ixv 0 (.k (.int 1))) (.g 0)))))
 (.cons (.ret (.k (.bool false)))
 .nil)
 .nil)
 (.cons (.ret (.cmp .eq (.call 3 (.cons (.ixv 0 (.k (.int 0))) (.cons (.ixv 0 (.k (.int 1))) .nil))) (.k (.int 1))))
 .nil)))⟩
def d_is_ratio : Dt := ⟨"is_ratio", tp 6, ["thing", "one"], ["thing"], f_is_ratio⟩
theorem b_is_ratio : d_is_ratio.Bi := fun _ _ _ _ _ _ us hl => match us, hl with | [_], _ => rfl
/-- 5 is_whole: 0=thing 1=part -/
def f_is_whole : Fn := ⟨1, 2, (.cons (.ite (.or (.not (.e (.call 2 (.cons (.v 0) (.cons (.k (.int 4)) (.cons (.k (.int 4)) .nil)))))) (.not (.e (.b1 .all (.lc (.call 1 (.cons (.v 1) (.cons (.bin .sub (.k (.int 0)) (.g 1)) (.cons (.g 1) .nil)))) (.n 1) (.of (.v 0)) .yes)))))
 (.cons (.ret (.k (.bool false)))
 .nil)
 .nil)
 (.cons (.ret (.cmp .eq (.bin .sub (.bin .mul (.ixv 0 (.k (.int 0))) (.ixv 0 (.k (.int 3)))) (.bin .mul (.ixv 0 (.k (.int 1))) (.ixv 0 (.k (.int 2))))) (.k (.int 1))))
 .nil))⟩
def d_is_whole : Dt := ⟨"is_whole", tp 18, ["thing", "part"], ["thing"], f_is_whole⟩
theorem b_is_whole : d_is_whole.Bi := fun _ _ _ _ _ _ us hl => match us, hl with | [_], _ => rfl
/-- 6 check_whole: 0=thing -/
def f_check_whole : Fn := ⟨1, 1, (.cons (.ite (.not (.e (.call 5 (.cons (.v 0) .nil))))
 (.cons (.raise 1)
 .nil)
 .nil)
 .nil)⟩
def d_check_whole : Dt := ⟨"check_whole", tp 19, ["thing"], ["thing"], f_check_whole⟩
theorem b_check_whole : d_check_whole.Bi := fun _ _ _ _ _ _ us hl => match us, hl with | [_], _ => rfl
/-- 7 check_both: 0=one 1=other -/
def f_check_both : Fn := ⟨2, 2, (.cons (.expr (.call 6 (.cons (.v 0) .nil)))
 (.cons (.expr (.call 6 (.cons (.v 1) .nil)))
 .nil))⟩
def d_check_both : Dt := ⟨"check_both", tp 20, ["one", "other"], ["one", "other"], f_check_both⟩
theorem b_check_both : d_check_both.Bi := fun _ _ _ _ _ _ us hl => match us, hl with | [_, _], _ => rfl
/-- 8 joined: 0=one 1=other 2=a 3=b 4=c 5=d 6=e 7=f 8=g 9=h -/
def f_joined : Fn := ⟨2, 10, (.cons (.asg (.t [2, 3, 4, 5]) (.v 0))
 (.cons (.asg (.t [6, 7, 8, 9]) (.v 1))
 (.cons (.ret (.tup (.cons (.bin .add (.bin .mul (.v 2) (.v 6)) (.bin .mul (.v 3) (.v 8))) (.cons (.bin .add (.bin .mul (.v 2) (.v 7)) (.bin .mul (.v 3) (.v 9))) (.cons (.bin .add (.bin .mul (.v 4) (.v 6)) (.bin .mul (.v 5) (.v 8))) (.cons (.bin .add (.bin .mul (.v 4) (.v 7)) (.bin .mul (.v 5) (.v 9))) .nil))))))
 .nil)))⟩
def d_joined : Dt := ⟨"joined", tp 21, ["one", "other", "a", "b", "c", "d", "e", "f", "g", "h"], ["one", "other"], f_joined⟩
theorem b_joined : d_joined.Bi := fun _ _ _ _ _ _ us hl => match us, hl with | [_, _], _ => rfl
/-- 9 turned_back: 0=four 1=a 2=b 3=c 4=d -/
def f_turned_back : Fn := ⟨1, 5, (.cons (.asg (.t [1, 2, 3, 4]) (.v 0))
 (.cons (.ret (.tup (.cons (.v 4) (.cons (.bin .sub (.k (.int 0)) (.v 2)) (.cons (.bin .sub (.k (.int 0)) (.v 3)) (.cons (.v 1) .nil))))))
 .nil))⟩
def d_turned_back : Dt := ⟨"turned_back", tp 22, ["four", "a", "b", "c", "d"], ["four"], f_turned_back⟩
theorem b_turned_back : d_turned_back.Bi := fun _ _ _ _ _ _ us hl => match us, hl with | [_], _ => rfl
/-- 10 held_small: 0=four 1=part -/
def f_held_small : Fn := ⟨1, 2, (.cons (.ite (.e (.b1 .any (.lc (.cmp .gt (.b1 .abs (.v 1)) (.g 1)) (.n 1) (.of (.v 0)) .yes)))
 (.cons (.raise 4)
 .nil)
 .nil)
 (.cons (.retv 0)
 .nil))⟩
def d_held_small : Dt := ⟨"held_small", tp 23, ["four", "part"], ["four"], f_held_small⟩
theorem b_held_small : d_held_small.Bi := fun _ _ _ _ _ _ us hl => match us, hl with | [_], _ => rfl
/-- 11 after: 0=one 1=other -/
def f_after : Fn := ⟨2, 2, (.cons (.expr (.call 7 (.cons (.v 0) (.cons (.v 1) .nil))))
 (.cons (.ret (.call 10 (.cons (.call 8 (.cons (.v 0) (.cons (.v 1) .nil))) .nil)))
 .nil))⟩
def d_after : Dt := ⟨"after", tp 24, ["one", "other"], ["one", "other"], f_after⟩
theorem b_after : d_after.Bi := fun _ _ _ _ _ _ us hl => match us, hl with | [_, _], _ => rfl
/-- 12 back_map: 0=four -/
def f_back_map : Fn := ⟨1, 1, (.cons (.expr (.call 6 (.cons (.v 0) .nil)))
 (.cons (.ret (.call 9 (.cons (.v 0) .nil)))
 .nil))⟩
def d_back_map : Dt := ⟨"back_map", tp 25, ["four"], ["four"], f_back_map⟩
theorem b_back_map : d_back_map.Bi := fun _ _ _ _ _ _ us hl => match us, hl with | [_], _ => rfl
/-- 13 is_place: 0=thing 1=part -/
def f_is_place : Fn := ⟨1, 2, (.cons (.ite (.e (.call 4 (.cons (.v 0) .nil)))
 (.cons (.ret (.k (.bool true)))
 .nil)
 .nil)
 (.cons (.ret (.and (.call 2 (.cons (.v 0) (.cons (.k (.int 2)) (.cons (.k (.int 2)) .nil)))) (.and (.b1 .all (.lc (.call 0 (.cons (.v 1) .nil)) (.n 1) (.of (.v 0)) .yes)) (.cmp .eq (.v 0) (.g 4)))))
 .nil))⟩
def d_is_place : Dt := ⟨"is_place", tp 26, ["thing", "part"], ["thing"], f_is_place⟩
theorem b_is_place : d_is_place.Bi := fun _ _ _ _ _ _ us hl => match us, hl with | [_], _ => rfl
/-- 14 raw_led: 0=four 1=place 2=a 3=b 4=c 5=d 6=top 7=bottom -/
def f_raw_led : Fn := ⟨2, 8, (.cons (.asg (.t [2, 3, 4, 5]) (.v 0))
 (.cons (.par [6, 7] (.cons (.bin .add (.bin .mul (.v 2) (.ixv 1 (.k (.int 0)))) (.bin .mul (.v 3) (.ixv 1 (.k (.int 1))))) (.cons (.bin .add (.bin .mul (.v 4) (.ixv 1 (.k (.int 0)))) (.bin .mul (.v 5) (.ixv 1 (.k (.int 1))))) .nil)))
 (.cons (.ite (.e (.cmp .eq (.v 7) (.k (.int 0))))
 (.cons (.ret (.g 4))
 .nil)
 .nil)
 (.cons (.ret (.ife (.e (.cmp .gt (.v 7) (.k (.int 0)))) (.tup (.cons (.v 6) (.cons (.v 7) .nil))) (.tup (.cons (.bin .sub (.k (.int 0)) (.v 6)) (.cons (.bin .sub (.k (.int 0)) (.v 7)) .nil)))))
 .nil))))⟩
def d_raw_led : Dt := ⟨"raw_led", tp 27, ["four", "place", "a", "b", "c", "d", "top", "bottom"], ["four", "place"], f_raw_led⟩
theorem b_raw_led : d_raw_led.Bi := fun _ _ _ _ _ _ us hl => match us, hl with | [_, _], _ => rfl
/-- 15 led: 0=four 1=place -/
def f_led : Fn := ⟨2, 2, (.cons (.expr (.call 6 (.cons (.v 0) .nil)))
 (.cons (.ite (.not (.e (.call 13 (.cons (.v 1) .nil))))
 (.cons (.raise 3)
 .nil)
 .nil)
 (.cons (.ret (.call 14 (.cons (.v 0) (.cons (.v 1) .nil))))
 .nil)))⟩
def d_led : Dt := ⟨"led", tp 28, ["four", "place"], ["four", "place"], f_led⟩
theorem b_led : d_led.Bi := fun _ _ _ _ _ _ us hl => match us, hl with | [_, _], _ => rfl
/-- 16 power_of: 0=four 1=k 2=turn 3=found 4=base -/
def f_power_of_b1 : Ss := (.cons (.asg (.n 3) (.call 8 (.cons (.v 3) (.cons (.v 4) .nil))))
 .nil)
def f_power_of_l1 : S := (.for_ (.n 2) (.rng (.cons (.b1 .abs (.v 1)) .nil)) f_power_of_b1)
def f_power_of : Fn := ⟨2, 5, (.cons (.expr (.call 6 (.cons (.v 0) .nil)))
 (.cons (.ite (.not (.e (.call 1 (.cons (.v 1) (.cons (.bin .sub (.k (.int 0)) (.g 2)) (.cons (.g 2) .nil))))))
 (.cons (.raise 2)
 .nil)
 .nil)
 (.cons (.par [3, 4] (.cons (.g 3) (.cons (.ife (.e (.cmp .gt (.v 1) (.k (.int 0)))) (.v 0) (.call 9 (.cons (.v 0) .nil))) .nil)))
 (.cons f_power_of_l1
 (.cons (.ret (.call 10 (.cons (.v 3) .nil)))
 .nil)))))⟩
def d_power_of : Dt := ⟨"power_of", tp 29, ["four", "k", "turn", "found", "base"], ["four", "k"], f_power_of⟩
theorem b_power_of : d_power_of.Bi := fun _ _ _ _ _ _ us hl => match us, hl with | [_, _], _ => rfl
/-- 17 _law_hand: 0=script 1=cells 2=cell -/
def f__law_hand : Fn := ⟨1, 3, (.cons (.asg (.n 1) (.lc (.b1 .abs (.b1 .int (.v 2))) (.n 2) (.of (.scr 0 63)) .yes))
 (.cons (.ret (.lst (.cons (.v 1) (.cons (.k (.int 0)) (.cons (.k (.int 0)) (.cons (.bin .add (.k (.int 97)) (.bin .mul (.k (.int 5)) (.b1 .len (.v 1)))) (.cons (.k (.int 0)) .nil)))))))
 .nil))⟩
def d__law_hand : Dt := ⟨"_law_hand", tp 31, ["script", "cells", "cell"], ["script"], f__law_hand⟩
theorem b__law_hand : d__law_hand.Bi := fun _ _ _ _ _ _ us hl => match us, hl with | [_], _ => rfl
/-- 18 _law_draw: 0=hand 1=many 2=number 3=cell 4=figure -/
def f__law_draw : Fn := ⟨2, 5, (.cons (.ite (.and (.e (.cmp .eq (.ixv 0 (.k (.int 2))) (.k (.int 0)))) (.e (.cmp .lt (.ixv 0 (.k (.int 1))) (.b1 .len (.ixv 0 (.k (.int 0)))))))
 (.cons (.asg (.n 3) (.ix (.ixv 0 (.k (.int 0))) (.ixv 0 (.k (.int 1)))))
 (.cons (.set 0 (.k (.int 1)) (.bin .add (.ixv 0 (.k (.int 1))) (.k (.int 1))))
 (.cons (.set 0 (.k (.int 3)) (.bin .mod (.b1 .int (.bin .add (.bin .add (.bin .mul (.ixv 0 (.k (.int 3))) (.k (.int 48271))) (.v 3)) (.k (.int 31)))) (.k (.int 2147483647))))
 (.cons (.ite (.e (.cmp .ge (.v 3) (.bin .pow (.k (.int 10)) (.k (.int 18)))))
 (.cons (.set 0 (.k (.int 2)) (.v 3))
 .nil)
 .nil)
 .nil))))
 .nil)
 (.cons (.ite (.e (.cmp .gt (.ixv 0 (.k (.int 2))) (.k (.int 0))))
 (.cons (.asg (.n 4) (.bin .mod (.b1 .int (.ixv 0 (.k (.int 2)))) (.v 1)))
 (.cons (.set 0 (.k (.int 2)) (.bin .fdiv (.ixv 0 (.k (.int 2))) (.v 1)))
 (.cons (.retv 4)
 .nil)))
 .nil)
 (.cons (.set 0 (.k (.int 4)) (.bin .add (.ixv 0 (.k (.int 4))) (.k (.int 1))))
 (.cons (.asg (.n 2) (.bin .mod (.b1 .int (.bin .mul (.b1 .int (.bin .add (.ixv 0 (.k (.int 3))) (.bin .mul (.k (.int 6151)) (.ixv 0 (.k (.int 4)))))) (.k (.int 40692)))) (.k (.int 2147483399))))
 (.cons (.asg (.n 2) (.bin .mod (.b1 .int (.bin .mul (.v 2) (.bin .add (.bin .fdiv (.v 2) (.k (.int 1223))) (.k (.int 52027))))) (.k (.int 2147483629))))
 (.cons (.asg (.n 2) (.bin .mod (.b1 .int (.bin .mul (.v 2) (.bin .add (.bin .fdiv (.v 2) (.k (.int 2671))) (.k (.int 69621))))) (.k (.int 2147483647))))
 (.cons (.ret (.bin .mod (.b1 .int (.bin .fdiv (.v 2) (.k (.int 32)))) (.v 1)))
 .nil)))))))⟩
def d__law_draw : Dt := ⟨"_law_draw", tp 32, ["hand", "many", "number", "cell", "figure"], ["hand", "many"], f__law_draw⟩
theorem b__law_draw : d__law_draw.Bi := fun _ _ _ _ _ _ us hl => match us, hl with | [_, _], _ => rfl
/-- 19 _law_some: 0=hand 1=things -/
def f__law_some : Fn := ⟨2, 2, (.cons (.ret (.ixv 1 (.cio 18 0 (.cons (.b1 .len (.v 1)) .nil))))
 .nil)⟩
def d__law_some : Dt := ⟨"_law_some", tp 33, ["hand", "things"], ["hand", "things"], f__law_some⟩
theorem b__law_some : d__law_some.Bi := fun _ _ _ _ _ _ us hl => match us, hl with | [_, _], _ => rfl
/-- 20 _law_low: 0=top 1=bottom 2=other 3=one -/
def f__law_low_b1 : Ss := (.cons (.par [3, 2] (.cons (.bin .mod (.b1 .int (.v 2)) (.v 3)) (.cons (.v 3) .nil)))
 .nil)
def f__law_low_l1 : S := (.whl (.e (.cmp .gt (.v 3) (.k (.int 0)))) f__law_low_b1)
def f__law_low : Fn := ⟨2, 4, (.cons (.par [3, 2] (.cons (.b1 .abs (.v 0)) (.cons (.b1 .abs (.v 1)) .nil)))
 (.cons f__law_low_l1
 (.cons (.asg (.n 2) (.ife (.e (.cmp .gt (.v 1) (.k (.int 0)))) (.v 2) (.bin .sub (.k (.int 0)) (.v 2))))
 (.cons (.ret (.tup (.cons (.bin .fdiv (.v 0) (.v 2)) (.cons (.bin .fdiv (.v 1) (.v 2)) .nil))))
 .nil))))⟩
def d__law_low : Dt := ⟨"_law_low", tp 34, ["top", "bottom", "other", "one"], ["top", "bottom"], f__law_low⟩
theorem b__law_low : d__law_low.Bi := fun _ _ _ _ _ _ us hl => match us, hl with | [_, _], _ => rfl
/-- 21 _law_after: 0=one 1=other 2=a 3=b 4=c 5=d 6=p 7=q 8=r 9=s -/
def f__law_after : Fn := ⟨2, 10, (.cons (.asg (.t [2, 3, 4, 5]) (.v 0))
 (.cons (.asg (.t [6, 7, 8, 9]) (.v 1))
 (.cons (.ret (.tup (.cons (.bin .add (.bin .mul (.v 2) (.v 6)) (.bin .mul (.v 3) (.v 8))) (.cons (.bin .add (.bin .mul (.v 2) (.v 7)) (.bin .mul (.v 3) (.v 9))) (.cons (.bin .add (.bin .mul (.v 4) (.v 6)) (.bin .mul (.v 5) (.v 8))) (.cons (.bin .add (.bin .mul (.v 4) (.v 7)) (.bin .mul (.v 5) (.v 9))) .nil))))))
 .nil)))⟩
def d__law_after : Dt := ⟨"_law_after", tp 35, ["one", "other", "a", "b", "c", "d", "p", "q", "r", "s"], ["one", "other"], f__law_after⟩
theorem b__law_after : d__law_after.Bi := fun _ _ _ _ _ _ us hl => match us, hl with | [_, _], _ => rfl
/-- 22 _law_back: 0=four -/
def f__law_back : Fn := ⟨1, 1, (.cons (.ret (.tup (.cons (.ixv 0 (.k (.int 3))) (.cons (.bin .sub (.k (.int 0)) (.ixv 0 (.k (.int 1)))) (.cons (.bin .sub (.k (.int 0)) (.ixv 0 (.k (.int 2)))) (.cons (.ixv 0 (.k (.int 0))) .nil))))))
 .nil)⟩
def d__law_back : Dt := ⟨"_law_back", tp 36, ["four"], ["four"], f__law_back⟩
theorem b__law_back : d__law_back.Bi := fun _ _ _ _ _ _ us hl => match us, hl with | [_], _ => rfl
/-- 23 _law_made: 0=hand 1=steps 2=found 3=turn 4=step 5=part -/
def f__law_made_b1 : Ss := (.cons (.asg (.n 4) (.cio 19 0 (.cons (.lst (.cons (.tup (.cons (.k (.int 1)) (.cons (.k (.int 1)) (.cons (.k (.int 0)) (.cons (.k (.int 1)) .nil))))) (.cons (.tup (.cons (.k (.int 1)) (.cons (.k (.int 0)) (.cons (.k (.int 1)) (.cons (.k (.int 1)) .nil))))) (.cons (.tup (.cons (.k (.int 1)) (.cons (.neg (.k (.int 1))) (.cons (.k (.int 0)) (.cons (.k (.int 1)) .nil))))) (.cons (.tup (.cons (.k (.int 0)) (.cons (.neg (.k (.int 1))) (.cons (.k (.int 1)) (.cons (.k (.int 0)) .nil))))) (.cons (.tup (.cons (.k (.int 1)) (.cons (.k (.int 0)) (.cons (.neg (.k (.int 2))) (.cons (.k (.int 1)) .nil))))) .nil)))))) .nil)))
 (.cons (.asg (.n 2) (.call 21 (.cons (.v 2) (.cons (.v 4) .nil))))
 .nil))
def f__law_made_l1 : S := (.for_ (.n 3) (.rng (.cons (.cio 18 0 (.cons (.bin .add (.v 1) (.k (.int 1))) .nil)) .nil)) f__law_made_b1)
def f__law_made : Fn := ⟨2, 6, (.cons (.asg (.n 2) (.tup (.cons (.k (.int 1)) (.cons (.k (.int 0)) (.cons (.k (.int 0)) (.cons (.k (.int 1)) .nil))))))
 (.cons f__law_made_l1
 (.cons (.ret (.ife (.e (.cmp .gt (.cio 18 0 (.cons (.k (.int 3)) .nil)) (.k (.int 0)))) (.v 2) (.b1 .tuple (.lc (.bin .sub (.k (.int 0)) (.v 5)) (.n 5) (.of (.v 2)) .yes))))
 .nil)))⟩
def d__law_made : Dt := ⟨"_law_made", tp 37, ["hand", "steps", "found", "turn", "step", "part"], ["hand", "steps"], f__law_made⟩
theorem b__law_made : d__law_made.Bi := fun _ _ _ _ _ _ us hl => match us, hl with | [_, _], _ => rfl
/-- 24 _law_led: 0=four 1=place 2=a 3=b 4=c 5=d 6=top 7=bottom -/
def f__law_led : Fn := ⟨2, 8, (.cons (.asg (.t [2, 3, 4, 5]) (.v 0))
 (.cons (.par [6, 7] (.cons (.bin .add (.bin .mul (.v 2) (.ixv 1 (.k (.int 0)))) (.bin .mul (.v 3) (.ixv 1 (.k (.int 1))))) (.cons (.bin .add (.bin .mul (.v 4) (.ixv 1 (.k (.int 0)))) (.bin .mul (.v 5) (.ixv 1 (.k (.int 1))))) .nil)))
 (.cons (.ret (.ife (.e (.cmp .eq (.v 7) (.k (.int 0)))) (.tup (.cons (.k (.int 1)) (.cons (.k (.int 0)) .nil))) (.call 20 (.cons (.v 6) (.cons (.v 7) .nil)))))
 .nil)))⟩
def d__law_led : Dt := ⟨"_law_led", tp 38, ["four", "place", "a", "b", "c", "d", "top", "bottom"], ["four", "place"], f__law_led⟩
theorem b__law_led : d__law_led.Bi := fun _ _ _ _ _ _ us hl => match us, hl with | [_, _], _ => rfl
/-- 25 _law_power: 0=four 1=k 2=turn 3=found 4=step -/
def f__law_power_b1 : Ss := (.cons (.asg (.n 3) (.call 21 (.cons (.v 3) (.cons (.v 4) .nil))))
 .nil)
def f__law_power_l1 : S := (.for_ (.n 2) (.rng (.cons (.b1 .abs (.v 1)) .nil)) f__law_power_b1)
def f__law_power : Fn := ⟨2, 5, (.cons (.par [3, 4] (.cons (.tup (.cons (.k (.int 1)) (.cons (.k (.int 0)) (.cons (.k (.int 0)) (.cons (.k (.int 1)) .nil))))) (.cons (.ife (.e (.cmp .gt (.v 1) (.k (.int 0)))) (.v 0) (.call 22 (.cons (.v 0) .nil))) .nil)))
 (.cons f__law_power_l1
 (.cons (.retv 3)
 .nil)))⟩
def d__law_power : Dt := ⟨"_law_power", tp 39, ["four", "k", "turn", "found", "step"], ["four", "k"], f__law_power⟩
theorem b__law_power : d__law_power.Bi := fun _ _ _ _ _ _ us hl => match us, hl with | [_, _], _ => rfl
/-- 26 _law_is: 0=told 1=due 2=key 3=one 4=two -/
def f__law_is : Fn := ⟨2, 5, (.cons (.ite (.e (.isi (.v 1) [.tup, .lst]))
 (.cons (.ite (.or (.e (.cmp .ne (.isi (.v 0) [.tup]) (.isi (.v 1) [.tup]))) (.not (.e (.isi (.v 0) [.tup, .lst]))))
 (.cons (.ret (.k (.bool false)))
 .nil)
 .nil)
 (.cons (.ret (.and (.cmp .eq (.b1 .len (.v 0)) (.b1 .len (.v 1))) (.b1 .all (.lc (.call 26 (.cons (.v 3) (.cons (.v 4) .nil))) (.t [3, 4]) (.zip (.v 0) (.v 1)) .yes))))
 .nil))
 .nil)
 (.cons (.ite (.e (.isi (.v 1) [.dic]))
 (.cons (.ite (.or (.not (.e (.isi (.v 0) [.dic]))) (.e (.cmp .ne (.b1 .len (.v 0)) (.b1 .len (.v 1)))))
 (.cons (.ret (.k (.bool false)))
 .nil)
 .nil)
 (.cons (.ret (.b1 .all (.lc (.and (.cmp .isin (.v 2) (.v 0)) (.call 26 (.cons (.ixv 0 (.v 2)) (.cons (.ixv 1 (.v 2)) .nil)))) (.n 2) (.of (.v 1)) .yes)))
 .nil))
 .nil)
 (.cons (.ite (.or (.e (.isi (.v 1) [.str])) (.e (.cmp .is (.v 1) (.k .none))))
 (.cons (.ret (.and (.cmp .eq (.isi (.v 0) [.str]) (.isi (.v 1) [.str])) (.cmp .eq (.v 0) (.v 1))))
 .nil)
 .nil)
 (.cons (.ret (.and (.isi (.v 0) [.int]) (.and (.cmp .eq (.isi (.v 0) [.bool]) (.isi (.v 1) [.bool])) (.cmp .eq (.v 0) (.v 1)))))
 .nil))))⟩
def d__law_is : Dt := ⟨"_law_is", tp 40, ["told", "due", "key", "one", "two"], ["told", "due"], f__law_is⟩
theorem b__law_is : d__law_is.Bi := fun _ _ _ _ _ _ us hl => match us, hl with | [_, _], _ => rfl
/-- 27 law: 0=script 1=hand 2=turn 3=drawn 4=place 5=small 6=total 7=square 8=one 9=other 10=there 11=j 12=k -/
def f_law_b1 : Ss := (.cons (.asg (.n 10) (.call 15 (.cons (.v 8) (.cons (.v 4) .nil))))
 (.cons (.ite (.or (.not (.e (.call 26 (.cons (.v 10) (.cons (.call 24 (.cons (.v 8) (.cons (.v 4) .nil))) .nil))))) (.e (.cmp .ne (.call 15 (.cons (.call 12 (.cons (.v 8) .nil)) (.cons (.v 10) .nil))) (.v 4))))
 (.cons (.ret (.k (.bool false)))
 .nil)
 .nil)
 (.cons (.ite (.e (.cmp .ne (.call 15 (.cons (.v 8) (.cons (.call 15 (.cons (.v 9) (.cons (.v 4) .nil))) .nil))) (.call 15 (.cons (.call 11 (.cons (.v 8) (.cons (.v 9) .nil))) (.cons (.v 4) .nil)))))
 (.cons (.ret (.k (.bool false)))
 .nil)
 .nil)
 .nil)))
def f_law_l1 : S := (.for_ (.n 4) (.of (.lst (.cons (.tup (.cons (.k (.int 1)) (.cons (.k (.int 0)) .nil))) (.cons (.tup (.cons (.k (.int 0)) (.cons (.k (.int 1)) .nil))) (.cons (.tup (.cons (.k (.int 1)) (.cons (.k (.int 1)) .nil))) (.cons (.v 3) (.cons (.call 24 (.cons (.v 8) (.cons (.tup (.cons (.k (.int 1)) (.cons (.k (.int 0)) .nil))) .nil))) .nil))))))) f_law_b1)
def f_law_b2 : Ss := (.cons (.par [8, 9] (.cons (.cio 23 1 (.cons (.k (.int 9)) .nil)) (.cons (.cio 23 1 (.cons (.k (.int 9)) .nil)) .nil)))
 (.cons (.ite (.or (.not (.e (.call 26 (.cons (.call 11 (.cons (.v 8) (.cons (.v 9) .nil))) (.cons (.call 21 (.cons (.v 8) (.cons (.v 9) .nil))) .nil))))) (.not (.e (.call 26 (.cons (.call 12 (.cons (.v 8) .nil)) (.cons (.call 22 (.cons (.v 8) .nil)) .nil))))))
 (.cons (.ret (.k (.bool false)))
 .nil)
 .nil)
 (.cons (.ite (.e (.cmp .ne (.call 11 (.cons (.v 8) (.cons (.call 12 (.cons (.v 8) .nil)) .nil))) (.tup (.cons (.k (.int 1)) (.cons (.k (.int 0)) (.cons (.k (.int 0)) (.cons (.k (.int 1)) .nil)))))))
 (.cons (.ret (.k (.bool false)))
 .nil)
 .nil)
 (.cons (.asg (.n 3) (.call 20 (.cons (.bin .sub (.cio 18 1 (.cons (.k (.int 41)) .nil)) (.k (.int 20))) (.cons (.bin .add (.k (.int 1)) (.cio 18 1 (.cons (.k (.int 9)) .nil))) .nil))))
 (.cons f_law_l1
 (.cons (.par [11, 12] (.cons (.bin .sub (.cio 18 1 (.cons (.k (.int 7)) .nil)) (.k (.int 3))) (.cons (.bin .sub (.cio 18 1 (.cons (.k (.int 7)) .nil)) (.k (.int 3))) .nil)))
 (.cons (.asg (.n 5) (.cio 23 1 (.cons (.k (.int 4)) .nil)))
 (.cons (.ite (.not (.e (.call 26 (.cons (.call 16 (.cons (.v 5) (.cons (.v 12) .nil))) (.cons (.call 25 (.cons (.v 5) (.cons (.v 12) .nil))) .nil)))))
 (.cons (.ret (.k (.bool false)))
 .nil)
 .nil)
 (.cons (.ite (.e (.cmp .ne (.call 11 (.cons (.call 16 (.cons (.v 5) (.cons (.v 11) .nil))) (.cons (.call 16 (.cons (.v 5) (.cons (.v 12) .nil))) .nil))) (.call 16 (.cons (.v 5) (.cons (.bin .add (.v 11) (.v 12)) .nil)))))
 (.cons (.ret (.k (.bool false)))
 .nil)
 .nil)
 (.cons (.asg (.n 6) (.bin .add (.ixv 5 (.k (.int 0))) (.ixv 5 (.k (.int 3)))))
 (.cons (.asg (.n 7) (.call 16 (.cons (.v 5) (.cons (.k (.int 2)) .nil))))
 (.cons (.ite (.e (.cmp .ne (.bin .add (.ixv 7 (.k (.int 0))) (.ixv 7 (.k (.int 3)))) (.bin .sub (.bin .mul (.v 6) (.v 6)) (.k (.int 2)))))
 (.cons (.ret (.k (.bool false)))
 .nil)
 .nil)
 .nil))))))))))))
def f_law_l2 : S := (.for_ (.n 2) (.rng (.cons (.k (.int 8)) .nil)) f_law_b2)
def f_law : Fn := ⟨1, 13, (.cons (.asg (.n 1) (.craw 17 0))
 (.cons f_law_l2
 (.cons (.ret (.k (.bool true)))
 .nil)))⟩
def d_law : Dt := ⟨"law", tp 41, ["script", "hand", "turn", "drawn", "place", "small", "total", "square", "one", "other", "there", "j", "k"], ["script"], f_law⟩
theorem b_law : d_law.Bi := fun _ _ _ _ _ _ us hl => match us, hl with | [_], _ => rfl
def L : List Dt := [d_is_integer, d_is_within, d_is_sized, d_common, d_is_ratio, d_is_whole, d_check_whole, d_check_both, d_joined, d_turned_back, d_held_small, d_after, d_back_map, d_is_place, d_raw_led, d_led, d_power_of, d__law_hand, d__law_draw, d__law_some, d__law_low, d__law_after, d__law_back, d__law_made, d__law_led, d__law_power, d__law_is, d_law]
def PL : List Fn := [f_is_integer, f_is_within, f_is_sized, f_common, f_is_ratio, f_is_whole, f_check_whole, f_check_both, f_joined, f_turned_back, f_held_small, f_after, f_back_map, f_is_place, f_raw_led, f_led, f_power_of, f__law_hand, f__law_draw, f__law_some, f__law_low, f__law_after, f__law_back, f__law_made, f__law_led, f__law_power, f__law_is, f_law]
def gls : List (Str × PyData) := [("MOST_DIGITS", (.int 10000000000000000000000000000000000000000)), ("MOST", (.int 999999999999)), ("MOST_POWER", (.int 40)), ("SAME_MAP", (.tuple [(.int 1), (.int 0), (.int 0), (.int 1)])), ("END", (.tuple [(.int 1), (.int 0)]))]
def exs : List Str := ["RatioError", "NoMap", "NoNumber", "NoRatio", "TooGreat"]
end Lw
namespace Lw
open Pv PySem
abbrev Pg : List Fn := plOf L
abbrev Gg : Nat → Option PyData := glOf gls
theorem g0 : Gg 0 = some (.int 10000000000000000000000000000000000000000) := rfl
theorem g1 : Gg 1 = some (.int 999999999999) := rfl
theorem g2 : Gg 2 = some (.int 40) := rfl
theorem g3 : Gg 3 = some (.tuple [.int 1, .int 0, .int 0, .int 1]) := rfl
theorem g4 : Gg 4 = some (.tuple [.int 1, .int 0]) := rfl
theorem lim2 : (2 : Nat) ≤ LIM := by decide
theorem lim4 : (4 : Nat) ≤ LIM := by decide
theorem lim5 : (5 : Nat) ≤ LIM := by decide
structure Mt where
  a : Int
  b : Int
  c : Int
  d : Int
def T4 (m : Mt) : PyData := .tuple [.int m.a, .int m.b, .int m.c, .int m.d]
def T2 (p : Int × Int) : PyData := .tuple [.int p.1, .int p.2]
def mul (x y : Mt) : Mt := ⟨x.a * y.a + x.b * y.c, x.a * y.b + x.b * y.d, x.c * y.a + x.d * y.c, x.c * y.b + x.d * y.d⟩
def inv (x : Mt) : Mt := ⟨x.d, 0 - x.b, 0 - x.c, x.a⟩
def idm : Mt := ⟨1, 0, 0, 1⟩
def det (x : Mt) : Int := x.a * x.d - x.b * x.c
/-- the entries are at most k -/
def Sm (k : Nat) (x : Mt) : Prop := x.a.natAbs ≤ k ∧ x.b.natAbs ≤ k ∧ x.c.natAbs ≤ k ∧ x.d.natAbs ≤ k
variable {n : Nat}
theorem l_int (i : Int) : run Pg Gg (n + 1) 0 [.v (.int i)] = .ret (.pv (.bool true)) none := by
  rw [run_succ (f := f_is_integer) rfl, if_pos ⟨rfl, rfl⟩]
  simp [f_is_integer]
theorem l_within (i lo hi : Int) (h1 : lo ≤ i) (h2 : i ≤ hi) : run Pg Gg (n + 2) 1 [.v (.int i), .v (.int lo), .v (.int hi)] = .ret (.pv (.bool true)) none := by
  rw [run_succ (f := f_is_within) rfl, if_pos ⟨rfl, rfl⟩]
  simp [f_is_within, l_int, h1, h2]
theorem l_sized (ds : List PyData) (k : Int) (h1 : (ds.length : Int) = k) : run Pg Gg (n + 1) 2 [.v (.tuple ds), .v (.int k), .v (.int k)] = .ret (.pv (.bool true)) none := by
  rw [run_succ (f := f_is_sized) rfl, if_pos ⟨rfl, rfl⟩]
  subst h1
  simp [f_is_sized]
theorem l_common (a b : Int) : run Pg Gg (n + 1) 3 [.v (.int a), .v (.int b)] = .ret (.pv (.int (Int.gcd a b))) none := common_ok rfl
theorem l_ratio {p q : Int} (h1 : p.natAbs < 10 ^ 40) (h2 : 0 < q) (h3 : q < 10 ^ 40) (hg : Int.gcd p q = 1) : run Pg Gg (n + 2) 4 [.v (.tuple [.int p, .int q])] = .ret (.pv (.bool true)) none := by
  rw [run_succ (f := f_is_ratio) rfl, if_pos ⟨rfl, rfl⟩]
  have lc : evE ⟨run Pg Gg (n + 1), Gg⟩ (.lc (.call 0 (.cons (.v 1) .nil)) (.n 1) (.of (.v 0)) .yes) [some (.v (.tuple [.int p, .int q])), none] = .ok (.fr [.bool true, .bool true]) [some (.v (.tuple [.int p, .int q])), none] := by
    rw [e_lc]
    have e1 : evI ⟨run Pg Gg (n + 1), Gg⟩ (.of (.v 0)) [some (.v (.tuple [.int p, .int q])), none] = .ok [.int p, .int q] [some (.v (.tuple [.int p, .int q])), none] := by simp
    rw [e1, R.bind_ok]
    rw [lcGo_n (g := fun _ => .bool true) (by simp) rfl (by simp [l_int])]
    simp [lim2]
  have a1 : ¬ (10000000000000000000000000000000000000000 : Int) ≤ (p.natAbs : Int) := by omega
  have a2 : q < 10000000000000000000000000000000000000000 := by omega
  have i0 : L2.atI [PyData.int p, PyData.int q] 0 = some (.int p) := rfl
  have i1 : L2.atI [PyData.int p, PyData.int q] 1 = some (.int q) := rfl
  simp [f_is_ratio, l_sized, lc, g0, i0, i1, abs_nat, a1, a2, h2, l_common, hg]
theorem l_end : run Pg Gg (n + 2) 4 [.v (.tuple [.int 1, .int 0])] = .ret (.pv (.bool false)) none := by
  rw [run_succ (f := f_is_ratio) rfl, if_pos ⟨rfl, rfl⟩]
  have lc : evE ⟨run Pg Gg (n + 1), Gg⟩ (.lc (.call 0 (.cons (.v 1) .nil)) (.n 1) (.of (.v 0)) .yes) [some (.v (.tuple [.int 1, .int 0])), none] = .ok (.fr [.bool true, .bool true]) [some (.v (.tuple [.int 1, .int 0])), none] := by
    rw [e_lc]
    have e1 : evI ⟨run Pg Gg (n + 1), Gg⟩ (.of (.v 0)) [some (.v (.tuple [.int 1, .int 0])), none] = .ok [.int 1, .int 0] [some (.v (.tuple [.int 1, .int 0])), none] := by simp
    rw [e1, R.bind_ok]
    rw [lcGo_n (g := fun _ => .bool true) (by simp) rfl (by simp [l_int])]
    simp [lim2]
  have i0 : L2.atI [PyData.int 1, PyData.int 0] 0 = some (.int 1) := rfl
  have i1 : L2.atI [PyData.int 1, PyData.int 0] 1 = some (.int 0) := rfl
  simp [f_is_ratio, l_sized, lc, g0, i0, i1]
theorem ix0 {a b c d : PyData} : L2.atI [a, b, c, d] 0 = some a := rfl
theorem ix1 {a b c d : PyData} : L2.atI [a, b, c, d] 1 = some b := rfl
theorem ix2 {a b c d : PyData} : L2.atI [a, b, c, d] 2 = some c := rfl
theorem ix3 {a b c d : PyData} : L2.atI [a, b, c, d] 3 = some d := rfl
theorem jx0 {a b : PyData} : L2.atI [a, b] 0 = some a := rfl
theorem jx1 {a b : PyData} : L2.atI [a, b] 1 = some b := rfl
theorem l_whole {m : Mt} (h : Sm 999999999999 m) (hd : det m = 1) : run Pg Gg (n + 3) 5 [.v (T4 m)] = .ret (.pv (.bool true)) none := by
  obtain ⟨a, b, c, d⟩ := m
  obtain ⟨h1, h2, h3, h4⟩ := h
  have hd : a * d - b * c = 1 := hd
  dsimp only at h1 h2 h3 h4
  rw [run_succ (f := f_is_whole) rfl, if_pos ⟨rfl, rfl⟩]
  have lc : evE ⟨run Pg Gg (n + 2), Gg⟩ (.lc (.call 1 (.cons (.v 1) (.cons (.bin .sub (.k (.int 0)) (.g 1)) (.cons (.g 1) .nil)))) (.n 1) (.of (.v 0)) .yes) [some (.v (.tuple [.int a, .int b, .int c, .int d])), none] = .ok (.fr [.bool true, .bool true, .bool true, .bool true]) [some (.v (.tuple [.int a, .int b, .int c, .int d])), none] := by
    rw [e_lc]
    have e1 : evI ⟨run Pg Gg (n + 2), Gg⟩ (.of (.v 0)) [some (.v (.tuple [.int a, .int b, .int c, .int d])), none] = .ok [.int a, .int b, .int c, .int d] [some (.v (.tuple [.int a, .int b, .int c, .int d])), none] := by simp
    rw [e1, R.bind_ok]
    rw [lcGo_n (g := fun _ => .bool true) (by simp) rfl ?_]
    · simp [lim4]
    · intro x hx
      have w : ∀ i : Int, i.natAbs ≤ 999999999999 → run Pg Gg (n + 2) 1 [.v (.int i), .v (.int (-999999999999)), .v (.int 999999999999)] = .ret (.pv (.bool true)) none := fun i hi => l_within i _ _ (by omega) (by omega)
      simp at hx
      rcases hx with rfl | rfl | rfl | rfl <;> simp [g1, w, h1, h2, h3, h4]
  have m1 : binD .mul (.int a) (.int d) = some (.int (a * d)) := mulS (by omega) (by omega)
  have m2 : binD .mul (.int b) (.int c) = some (.int (b * c)) := mulS (by omega) (by omega)
  simp [f_is_whole, T4, l_sized, lc, ix0, ix1, ix2, ix3, m1, m2, hd]
theorem l_check {m : Mt} (h : Sm 999999999999 m) (hd : det m = 1) : run Pg Gg (n + 4) 6 [.v (T4 m)] = .ret (.pv .none) none := by
  rw [run_succ (f := f_check_whole) rfl, if_pos ⟨rfl, rfl⟩]
  simp [f_check_whole, l_whole h hd]
theorem l_both {x y : Mt} (h : Sm 999999999999 x) (hd : det x = 1) (h2 : Sm 999999999999 y) (hd2 : det y = 1) : run Pg Gg (n + 5) 7 [.v (T4 x), .v (T4 y)] = .ret (.pv .none) none := by
  rw [run_succ (f := f_check_both) rfl, if_pos ⟨rfl, rfl⟩]
  simp [f_check_both, l_check h hd, l_check h2 hd2]
/-- entries that may be multiplied -/
abbrev Bg (x : Mt) : Prop := Sm (10 ^ 40) x
theorem mulB {a b : Int} (h : a.natAbs ≤ 10 ^ 40) (h2 : b.natAbs ≤ 10 ^ 40) : binD .mul (.int a) (.int b) = some (.int (a * b)) := mulS (by omega) (by omega)
theorem l_joined {x y : Mt} (hx : Bg x) (hy : Bg y) : run Pg Gg (n + 1) 8 [.v (T4 x), .v (T4 y)] = .ret (.pv (T4 (mul x y))) none := by
  obtain ⟨a, b, c, d⟩ := x
  obtain ⟨e, f, g, k⟩ := y
  obtain ⟨h1, h2, h3, h4⟩ := hx
  obtain ⟨h5, h6, h7, h8⟩ := hy
  dsimp only at *
  rw [run_succ (f := f_joined) rfl, if_pos ⟨rfl, rfl⟩]
  simp [f_joined, T4, mul, lim4, mulB h1 h5, mulB h1 h6, mulB h2 h7, mulB h2 h8, mulB h3 h5, mulB h3 h6, mulB h4 h7, mulB h4 h8]
theorem l_jafter {x y : Mt} (hx : Bg x) (hy : Bg y) : run Pg Gg (n + 1) 21 [.v (T4 x), .v (T4 y)] = .ret (.pv (T4 (mul x y))) none := by
  obtain ⟨a, b, c, d⟩ := x
  obtain ⟨e, f, g, k⟩ := y
  obtain ⟨h1, h2, h3, h4⟩ := hx
  obtain ⟨h5, h6, h7, h8⟩ := hy
  dsimp only at *
  rw [run_succ (f := f__law_after) rfl, if_pos ⟨rfl, rfl⟩]
  simp [f__law_after, T4, mul, lim4, mulB h1 h5, mulB h1 h6, mulB h2 h7, mulB h2 h8, mulB h3 h5, mulB h3 h6, mulB h4 h7, mulB h4 h8]
theorem l_back {x : Mt} : run Pg Gg (n + 1) 9 [.v (T4 x)] = .ret (.pv (T4 (inv x))) none := by
  rw [run_succ (f := f_turned_back) rfl, if_pos ⟨rfl, rfl⟩]
  simp [f_turned_back, T4, inv, lim4]
theorem l_jback {x : Mt} : run Pg Gg (n + 1) 22 [.v (T4 x)] = .ret (.pv (T4 (inv x))) none := by
  rw [run_succ (f := f__law_back) rfl, if_pos ⟨rfl, rfl⟩]
  simp [f__law_back, T4, inv, lim4, ix0, ix1, ix2, ix3]
theorem l_small {m : Mt} (h : Sm 999999999999 m) : run Pg Gg (n + 1) 10 [.v (T4 m)] = .ret (.pv (T4 m)) none := by
  obtain ⟨a, b, c, d⟩ := m
  obtain ⟨h1, h2, h3, h4⟩ := h
  dsimp only at h1 h2 h3 h4
  rw [run_succ (f := f_held_small) rfl, if_pos ⟨rfl, rfl⟩]
  have lc : evE ⟨run Pg Gg n, Gg⟩ (.lc (.cmp .gt (.b1 .abs (.v 1)) (.g 1)) (.n 1) (.of (.v 0)) .yes) [some (.v (.tuple [.int a, .int b, .int c, .int d])), none] = .ok (.fr [.bool false, .bool false, .bool false, .bool false]) [some (.v (.tuple [.int a, .int b, .int c, .int d])), none] := by
    rw [e_lc]
    have e1 : evI ⟨run Pg Gg n, Gg⟩ (.of (.v 0)) [some (.v (.tuple [.int a, .int b, .int c, .int d])), none] = .ok [.int a, .int b, .int c, .int d] [some (.v (.tuple [.int a, .int b, .int c, .int d])), none] := by simp
    rw [e1, R.bind_ok]
    rw [lcGo_n (g := fun _ => .bool false) (by simp) rfl ?_]
    · simp [lim4]
    · intro x hx
      simp at hx
      rcases hx with rfl | rfl | rfl | rfl <;> simp [g1, abs_nat] <;> omega
  simp [f_held_small, T4, lc]
theorem l_after {x y : Mt} (h : Sm 999999999999 x) (hd : det x = 1) (h2 : Sm 999999999999 y) (hd2 : det y = 1) (h3 : Sm 999999999999 (mul x y)) : run Pg Gg (n + 6) 11 [.v (T4 x), .v (T4 y)] = .ret (.pv (T4 (mul x y))) none := by
  have big : ∀ {z : Mt}, Sm 999999999999 z → Bg z := fun ⟨a, b, c, d⟩ => ⟨by omega, by omega, by omega, by omega⟩
  rw [run_succ (f := f_after) rfl, if_pos ⟨rfl, rfl⟩]
  simp [f_after, l_both h hd h2 hd2, l_joined (big h) (big h2), l_small h3]
theorem l_backmap {x : Mt} (h : Sm 999999999999 x) (hd : det x = 1) : run Pg Gg (n + 5) 12 [.v (T4 x)] = .ret (.pv (T4 (inv x))) none := by
  rw [run_succ (f := f_back_map) rfl, if_pos ⟨rfl, rfl⟩]
  simp [f_back_map, l_check h hd, l_back]
/-- a place: END, or a ratio in lowest terms -/
def Pl (p : Int × Int) : Prop := p = (1, 0) ∨ (p.1.natAbs < 10 ^ 40 ∧ 0 < p.2 ∧ p.2 < 10 ^ 40 ∧ Int.gcd p.1 p.2 = 1)
theorem l_place {p : Int × Int} (h : Pl p) : run Pg Gg (n + 3) 13 [.v (T2 p)] = .ret (.pv (.bool true)) none := by
  rw [run_succ (f := f_is_place) rfl, if_pos ⟨rfl, rfl⟩]
  rcases h with rfl | ⟨h1, h2, h3, h4⟩
  · have lc : evE ⟨run Pg Gg (n + 2), Gg⟩ (.lc (.call 0 (.cons (.v 1) .nil)) (.n 1) (.of (.v 0)) .yes) [some (.v (.tuple [.int 1, .int 0])), none] = .ok (.fr [.bool true, .bool true]) [some (.v (.tuple [.int 1, .int 0])), none] := by
      rw [e_lc]
      have e1 : evI ⟨run Pg Gg (n + 2), Gg⟩ (.of (.v 0)) [some (.v (.tuple [.int 1, .int 0])), none] = .ok [.int 1, .int 0] [some (.v (.tuple [.int 1, .int 0])), none] := by simp
      rw [e1, R.bind_ok]
      rw [lcGo_n (g := fun _ => .bool true) (by simp) rfl (by simp [l_int])]
      simp [lim2]
    simp [f_is_place, T2, l_end, l_sized, lc, g4]
  · simp [f_is_place, T2, l_ratio h1 h2 h3 h4]
/-- the place where four leads p -/
def norm (t b : Int) : Int × Int := if b = 0 then (1, 0) else if 0 < b then (t, b) else (0 - t, 0 - b)
def ledTo (m : Mt) (p : Int × Int) : Int × Int := norm (m.a * p.1 + m.b * p.2) (m.c * p.1 + m.d * p.2)
def PB (p : Int × Int) : Prop := p.1.natAbs ≤ 10 ^ 40 ∧ p.2.natAbs ≤ 10 ^ 40
theorem l_rawled {m : Mt} {p : Int × Int} (h : Bg m) (hp : PB p) : run Pg Gg (n + 1) 14 [.v (T4 m), .v (T2 p)] = .ret (.pv (T2 (ledTo m p))) none := by
  obtain ⟨a, b, c, d⟩ := m
  obtain ⟨p, q⟩ := p
  obtain ⟨h1, h2, h3, h4⟩ := h
  obtain ⟨h5, h6⟩ := hp
  dsimp only at *
  rw [run_succ (f := f_raw_led) rfl, if_pos ⟨rfl, rfl⟩]
  by_cases c1 : c * p + d * q = 0
  · simp [f_raw_led, T4, T2, jx0, jx1, mulB h1 h5, mulB h2 h6, mulB h3 h5, mulB h4 h6, c1, ledTo, norm, g4]
  · by_cases c2 : 0 < c * p + d * q
    · simp [f_raw_led, T4, T2, jx0, jx1, mulB h1 h5, mulB h2 h6, mulB h3 h5, mulB h4 h6, c1, c2, ledTo, norm, lim2]
    · simp [f_raw_led, T4, T2, jx0, jx1, mulB h1 h5, mulB h2 h6, mulB h3 h5, mulB h4 h6, c1, c2, ledTo, norm, lim2]
theorem l_led {m : Mt} {p : Int × Int} (h : Sm 999999999999 m) (hd : det m = 1) (hp : Pl p) : run Pg Gg (n + 5) 15 [.v (T4 m), .v (T2 p)] = .ret (.pv (T2 (ledTo m p))) none := by
  have big : Bg m := ⟨by have := h.1; omega, by have := h.2.1; omega, by have := h.2.2.1; omega, by have := h.2.2.2; omega⟩
  have pb : PB p := by
    rcases hp with rfl | ⟨h1, h2, h3, h4⟩
    · exact ⟨by decide, by decide⟩
    · exact ⟨by omega, by omega⟩
  rw [run_succ (f := f_led) rfl, if_pos ⟨rfl, rfl⟩]
  simp [f_led, l_check h hd, l_place hp, l_rawled big pb]
end Lw
namespace Lw
open Pv PySem
/-! ### the plain law -/
theorem gcd_led {m : Mt} {p : Int × Int} (hd : det m = 1) (hg : Int.gcd p.1 p.2 = 1) : Int.gcd (m.a * p.1 + m.b * p.2) (m.c * p.1 + m.d * p.2) = 1 := by
  obtain ⟨a, b, c, d⟩ := m
  obtain ⟨p, q⟩ := p
  have hd : a * d - b * c = 1 := hd
  rw [Int.gcd_eq_one_iff] at hg ⊢
  intro g h1 h2
  dsimp only at *
  refine hg g ?_ ?_
  · have : p = d * (a * p + b * q) - b * (c * p + d * q) := by grind
    rw [this]
    exact Int.dvd_sub (Int.dvd_mul_of_dvd_right h1) (Int.dvd_mul_of_dvd_right h2)
  · have : q = a * (c * p + d * q) - c * (a * p + b * q) := by grind
    rw [this]
    exact Int.dvd_sub (Int.dvd_mul_of_dvd_right h2) (Int.dvd_mul_of_dvd_right h1)
theorem pl_gcd {p : Int × Int} (h : Pl p) : Int.gcd p.1 p.2 = 1 := by
  rcases h with rfl | ⟨_, _, _, h⟩
  · decide
  · exact h
theorem norm_pm {t b : Int} (h : Int.gcd t b = 1) : norm t b = (t, b) ∨ norm t b = (-t, -b) := by
  unfold norm
  by_cases h0 : b = 0
  · subst h0
    rw [Int.gcd_zero_right] at h
    rw [if_pos rfl]
    rcases Int.natAbs_eq t with e | e <;> rw [h] at e
    · left; rw [e]; rfl
    · right; rw [e]; rfl
  · rw [if_neg h0]
    by_cases h1 : 0 < b
    · rw [if_pos h1]; exact .inl rfl
    · rw [if_neg h1]; right; simp
theorem norm_neg (t b : Int) : norm (-t) (-b) = norm t b := by
  unfold norm
  by_cases h0 : b = 0
  · rw [if_pos h0, if_pos (by omega)]
  · rw [if_neg h0, if_neg (by omega)]
    by_cases h1 : 0 < b
    · rw [if_pos h1, if_neg (by omega)]; simp
    · rw [if_neg h1, if_pos (by omega)]; simp
theorem norm_self {p : Int × Int} (h : Pl p) : norm p.1 p.2 = p := by
  rcases h with rfl | ⟨_, h, _, _⟩
  · rfl
  · unfold norm
    rw [if_neg (by omega), if_pos h]
theorem led_norm {m : Mt} {t b : Int} (h : Int.gcd t b = 1) : ledTo m (norm t b) = ledTo m (t, b) := by
  rcases norm_pm h with e | e
  · rw [e]
  · rw [e]
    unfold ledTo
    dsimp only
    rw [← norm_neg]
    congr 1 <;> grind
theorem led_led {m k : Mt} {p : Int × Int} (hk : det k = 1) (hp : Pl p) : ledTo m (ledTo k p) = ledTo (mul m k) p := by
  conv => lhs; arg 2; unfold ledTo
  rw [led_norm (gcd_led hk (pl_gcd hp))]
  unfold ledTo mul
  dsimp only
  congr 1 <;> grind
theorem mul_inv {m : Mt} (h : det m = 1) : mul m (inv m) = idm := by
  obtain ⟨a, b, c, d⟩ := m
  have h : a * d - b * c = 1 := h
  unfold mul inv idm
  dsimp only
  congr 1 <;> grind
theorem inv_mul {m : Mt} (h : det m = 1) : mul (inv m) m = idm := by
  obtain ⟨a, b, c, d⟩ := m
  have h : a * d - b * c = 1 := h
  unfold mul inv idm
  dsimp only
  congr 1 <;> grind
theorem mul_id (m : Mt) : mul m idm = m := by
  obtain ⟨a, b, c, d⟩ := m
  unfold mul idm
  dsimp only
  congr 1 <;> grind
theorem id_mul (m : Mt) : mul idm m = m := by
  obtain ⟨a, b, c, d⟩ := m
  unfold mul idm
  dsimp only
  congr 1 <;> grind
theorem mul_assoc (x y z : Mt) : mul (mul x y) z = mul x (mul y z) := by
  unfold mul
  dsimp only
  congr 1 <;> grind
theorem det_mul {x y : Mt} (h : det x = 1) (h2 : det y = 1) : det (mul x y) = 1 := by
  have e : det (mul x y) = det x * det y := by
    unfold det mul
    dsimp only
    grind
  rw [e, h, h2]
  rfl
theorem det_inv {x : Mt} (h : det x = 1) : det (inv x) = 1 := by
  have h : x.a * x.d - x.b * x.c = 1 := h
  unfold det inv
  dsimp only
  grind
theorem led_id {p : Int × Int} (h : Pl p) : ledTo idm p = p := by
  unfold ledTo idm
  dsimp only
  rw [show (1 : Int) * p.1 + 0 * p.2 = p.1 from by omega, show (0 : Int) * p.1 + 1 * p.2 = p.2 from by omega]
  exact norm_self h
theorem led_back {m : Mt} {p : Int × Int} (h : det m = 1) (hp : Pl p) : ledTo (inv m) (ledTo m p) = p := by rw [led_led h hp, inv_mul h, led_id hp]
/-! ### how great they are -/
def Nb (k : Nat) (x : Mt) : Prop := x.a.natAbs + x.b.natAbs ≤ k ∧ x.c.natAbs + x.d.natAbs ≤ k ∧ x.a.natAbs + x.c.natAbs ≤ k ∧ x.b.natAbs + x.d.natAbs ≤ k
theorem Nb.sm {k l : Nat} {x : Mt} (h : Nb k x) (hl : k ≤ l) : Sm l x := by
  obtain ⟨h1, h2, h3, h4⟩ := h
  exact ⟨by omega, by omega, by omega, by omega⟩
theorem Nb.mono {k l : Nat} {x : Mt} (h : Nb k x) (hl : k ≤ l) : Nb l x := by
  obtain ⟨h1, h2, h3, h4⟩ := h
  exact ⟨by omega, by omega, by omega, by omega⟩
theorem abs2 (a p b r : Int) : (a * p + b * r).natAbs ≤ a.natAbs * p.natAbs + b.natAbs * r.natAbs := by
  have := Int.natAbs_add_le (a * p) (b * r)
  rwa [Int.natAbs_mul, Int.natAbs_mul] at this
theorem lin2 {a b p q r s j k : Nat} (h : a + b ≤ j) (h1 : p + q ≤ k) (h2 : r + s ≤ k) : (a * p + b * r) + (a * q + b * s) ≤ j * k := by
  have e1 : a * (p + q) ≤ a * k := Nat.mul_le_mul_left _ h1
  have e2 : b * (r + s) ≤ b * k := Nat.mul_le_mul_left _ h2
  have e3 : (a + b) * k ≤ j * k := Nat.mul_le_mul_right _ h
  rw [Nat.mul_add] at e1 e2
  rw [Nat.add_mul] at e3
  omega
theorem Nb.mul {j k : Nat} {x y : Mt} (hx : Nb j x) (hy : Nb k y) : Nb (j * k) (mul x y) := by
  obtain ⟨a, b, c, d⟩ := x
  obtain ⟨p, q, r, s⟩ := y
  obtain ⟨h1, h2, h3, h4⟩ := hx
  obtain ⟨k1, k2, k3, k4⟩ := hy
  dsimp only at *
  have a1 := abs2 a p b r
  have a2 := abs2 a q b s
  have a3 := abs2 c p d r
  have a4 := abs2 c q d s
  have r1 := lin2 h1 k1 k2
  have r2 := lin2 h2 k1 k2
  have c1 := lin2 k3 h3 h4
  have c2 := lin2 k4 h3 h4
  rw [Nat.mul_comm k j, Nat.mul_comm p.natAbs, Nat.mul_comm r.natAbs, Nat.mul_comm p.natAbs, Nat.mul_comm r.natAbs] at c1
  rw [Nat.mul_comm k j, Nat.mul_comm q.natAbs, Nat.mul_comm s.natAbs, Nat.mul_comm q.natAbs, Nat.mul_comm s.natAbs] at c2
  refine ⟨?_, ?_, ?_, ?_⟩ <;> unfold Lw.mul <;> dsimp only <;> omega
theorem Nb.inv {k : Nat} {x : Mt} (h : Nb k x) : Nb k (inv x) := by
  obtain ⟨a, b, c, d⟩ := x
  obtain ⟨h1, h2, h3, h4⟩ := h
  dsimp only at *
  refine ⟨?_, ?_, ?_, ?_⟩ <;> unfold Lw.inv <;> dsimp only <;> omega
/-! ### powers -/
def it (b : Mt) : Nat → Mt
  | 0 => idm
  | k + 1 => mul (it b k) b
def pw (m : Mt) (k : Int) : Mt := it (if 0 < k then m else inv m) k.natAbs
theorem it_nb {b : Mt} {k : Nat} (h : Nb k b) : ∀ i, Nb (k ^ i) (it b i)
  | 0 => by
    rw [Nat.pow_zero]
    show Nb 1 idm
    exact ⟨by decide, by decide, by decide, by decide⟩
  | i + 1 => (it_nb h i).mul h
theorem it_det {b : Mt} (h : det b = 1) : ∀ i, det (it b i) = 1
  | 0 => rfl
  | i + 1 => det_mul (it_det h i) h
theorem it_add (b : Mt) (i : Nat) : ∀ j, mul (it b i) (it b j) = it b (i + j)
  | 0 => mul_id _
  | j + 1 => by
    show mul (it b i) (mul (it b j) b) = mul (it b (i + j)) b
    rw [← mul_assoc, it_add b i j]
theorem it_succ (b : Mt) (i : Nat) : it b (i + 1) = mul b (it b i) := by
  have := it_add b 1 i
  rw [Nat.add_comm 1 i] at this
  rw [← this]
  show mul (mul idm b) (it b i) = _
  rw [id_mul]
theorem it_can {b c : Mt} (h : mul b c = idm) (i j : Nat) : mul (it b (i + 1)) (it c (j + 1)) = mul (it b i) (it c j) := by
  rw [it_succ c j]
  show mul (mul (it b i) b) (mul c (it c j)) = _
  rw [mul_assoc, ← mul_assoc b c, h, id_mul]
theorem it_dif {b c : Mt} (h : mul b c = idm) : ∀ i j : Nat, mul (it b i) (it c j) = if j ≤ i then it b (i - j) else it c (j - i)
  | 0, 0 => mul_id _
  | 0, j + 1 => by rw [if_neg (by omega)]; exact id_mul _
  | i + 1, 0 => by rw [if_pos (by omega)]; exact mul_id _
  | i + 1, j + 1 => by
    rw [it_can h, it_dif h i j, Nat.add_sub_add_right, Nat.add_sub_add_right]
    by_cases hh : j ≤ i
    · rw [if_pos hh, if_pos (by omega)]
    · rw [if_neg hh, if_neg (by omega)]
theorem pw_add {m : Mt} (hd : det m = 1) (j k : Int) : mul (pw m j) (pw m k) = pw m (j + k) := by
  unfold pw
  by_cases hj : 0 < j <;> by_cases hk : 0 < k
  · rw [if_pos hj, if_pos hk, if_pos (by omega), it_add]
    congr 1; omega
  · rw [if_pos hj, if_neg hk, it_dif (mul_inv hd)]
    by_cases h : k.natAbs ≤ j.natAbs
    · rw [if_pos h]
      by_cases h2 : 0 < j + k
      · rw [if_pos h2]; congr 1; omega
      · have e1 : j.natAbs - k.natAbs = 0 := by omega
        have e2 : (j + k).natAbs = 0 := by omega
        rw [e1, e2]; rfl
    · rw [if_neg h, if_neg (by omega)]; congr 1; omega
  · rw [if_neg hj, if_pos hk, it_dif (inv_mul hd)]
    by_cases h : k.natAbs ≤ j.natAbs
    · rw [if_pos h, if_neg (by omega)]; congr 1; omega
    · rw [if_neg h, if_pos (by omega)]; congr 1; omega
  · rw [if_neg hj, if_neg hk, if_neg (by omega), it_add]
    congr 1; omega
theorem pw_trace {m : Mt} (hd : det m = 1) : (pw m 2).a + (pw m 2).d = (m.a + m.d) * (m.a + m.d) - 2 := by
  have e : pw m 2 = mul (mul idm m) m := rfl
  rw [e, id_mul]
  have hd : m.a * m.d - m.b * m.c = 1 := hd
  unfold mul
  dsimp only
  grind
theorem pw_base {m : Mt} {k : Nat} (h : Nb k m) (j : Int) : Nb k (if 0 < j then m else inv m) := by
  split
  · exact h
  · exact h.inv
theorem pw_nb {m : Mt} {k : Nat} (h : Nb k m) (j : Int) : Nb (k ^ j.natAbs) (pw m j) := it_nb (pw_base h j) _
theorem pw_det {m : Mt} (h : det m = 1) (j : Int) : det (pw m j) = 1 := by
  unfold pw
  refine it_det ?_ _
  split
  · exact h
  · exact det_inv h
/-! ### places -/
def PS (k : Nat) (p : Int × Int) : Prop := p.1.natAbs ≤ k ∧ p.2.natAbs ≤ k
theorem ps_led {m : Mt} {p : Int × Int} {j k : Nat} (hj : 1 ≤ j * k) (h : Nb j m) (hp : PS k p) : PS (j * k) (ledTo m p) := by
  obtain ⟨a, b, c, d⟩ := m
  obtain ⟨p, q⟩ := p
  obtain ⟨h1, h2, h3, h4⟩ := h
  obtain ⟨k1, k2⟩ := hp
  dsimp only at *
  have a1 := abs2 a p b q
  have a2 := abs2 c p d q
  have e1 := lin2 (p := p.natAbs) (q := 0) (r := q.natAbs) (s := 0) h1 k1 k2
  have e2 := lin2 (p := p.natAbs) (q := 0) (r := q.natAbs) (s := 0) h2 k1 k2
  unfold ledTo
  dsimp only
  generalize a * p + b * q = t at *
  generalize c * p + d * q = u at *
  unfold norm PS
  split
  · exact ⟨hj, by simp⟩
  · split <;> dsimp only <;> constructor <;> omega
theorem pl_led {m : Mt} {p : Int × Int} {k : Nat} (hd : det m = 1) (hp : Pl p) (hk : PS k (ledTo m p)) (hk2 : k < 10 ^ 40) : Pl (ledTo m p) := by
  obtain ⟨k1, k2⟩ := hk
  have hg := gcd_led hd (pl_gcd hp)
  unfold ledTo at k1 k2 ⊢
  generalize m.a * p.1 + m.b * p.2 = t at *
  generalize m.c * p.1 + m.d * p.2 = b at *
  unfold norm at *
  by_cases h0 : b = 0
  · rw [if_pos h0]; exact .inl rfl
  · rw [if_neg h0] at k1 k2 ⊢
    by_cases h1 : 0 < b
    · rw [if_pos h1] at k1 k2 ⊢
      exact .inr ⟨by omega, h1, by omega, hg⟩
    · rw [if_neg h1] at k1 k2 ⊢
      refine .inr ⟨by omega, by dsimp only; omega, by omega, ?_⟩
      dsimp only
      rw [Int.zero_sub, Int.zero_sub, Int.gcd_neg, Int.neg_gcd]
      exact hg
end Lw
namespace Lw
open Pv PySem
variable {n : Nat}
/-! ### the walk of the defs with loops -/
theorem powB {b : Mt} {k : Nat} (hb : Nb 81 b) (hk : k ≤ 20) : Bg (it b k) := (it_nb hb k).sm (Nat.le_trans (Nat.pow_le_pow_right (by decide) hk) (by decide))
theorem bgB {b : Mt} (hb : Nb 81 b) : Bg b := hb.sm (by decide)
theorem pow_for {C : Cfg} {m : Mt} {k : Int} {b : Mt} {j : Nat} {body : Ss} (hk : k.natAbs ≤ 20)
    (hs : ∀ (i : Nat) (z : Option PyData) (d : PyData), i < k.natAbs → evSs C body [some (.v (T4 m)), some (.v (.int k)), some (.v d), some (.v (T4 (it b i))), some (.v (T4 b))] = .nx [some (.v (T4 m)), some (.v (.int k)), some (.v d), some (.v (T4 (it b (i + 1)))), some (.v (T4 b))]) :
    ∃ z : Option PyData, evS C (.for_ (.n 2) (.rng (.cons (.b1 .abs (.v 1)) .nil)) body) [some (.v (T4 m)), some (.v (.int k)), none, some (.v (T4 idm)), some (.v (T4 b))] = .nx [some (.v (T4 m)), some (.v (.int k)), z.map Slot.v, some (.v (T4 (it b k.natAbs))), some (.v (T4 b))] := by
  rw [s_for]
  have e1 : evI C (.rng (.cons (.b1 .abs (.v 1)) .nil)) [some (.v (T4 m)), some (.v (.int k)), none, some (.v (T4 idm)), some (.v (T4 b))] = .ok (rangeD 0 k.natAbs 1) [some (.v (T4 m)), some (.v (.int k)), none, some (.v (T4 idm)), some (.v (T4 b))] := by
    exact i_rngA (ds := [.int (k.natAbs : Int)]) (by simp [abs_nat]) (rngOfA (by omega))
  rw [e1, R.toS_ok]
  obtain ⟨ρ', h1, z, h2⟩ := forGo_inv (f := fun x ρ => (putT ρ (.n 2) x).toS fun _ ρ => evSs C body ρ) (ds := rangeD 0 k.natAbs 1) (ρ := [some (.v (T4 m)), some (.v (.int k)), none, some (.v (T4 idm)), some (.v (T4 b))])
    (fun i ρ => ∃ z : Option PyData, ρ = [some (.v (T4 m)), some (.v (.int k)), z.map Slot.v, some (.v (T4 (it b i))), some (.v (T4 b))]) ⟨none, rfl⟩ (by
      rintro i d ρ hd ⟨z, rfl⟩
      have hi : i < k.natAbs := by
        have := (List.getElem?_eq_some_iff.mp hd).1
        rwa [rangeD_len] at this
      refine ⟨_, ?_, some d, rfl⟩
      simp [hs i none d hi])
  rw [rangeD_len] at h2
  exact ⟨z, by rw [h1, h2]⟩
theorem l_power {m : Mt} {k : Int} (hm : Nb 81 m) (hd : det m = 1) (hk : k.natAbs ≤ 6) : run Pg Gg (n + 5) 16 [.v (T4 m), .v (.int k)] = .ret (.pv (T4 (pw m k))) none := by
  rw [run_succ (f := f_power_of) rfl, if_pos ⟨rfl, rfl⟩]
  have hb := pw_base hm k
  obtain ⟨z, fo⟩ := pow_for (C := ⟨run Pg Gg (n + 4), Gg⟩) (m := m) (k := k) (b := if 0 < k then m else inv m) (j := 0) (body := .cons (.asg (.n 3) (.call 8 (.cons (.v 3) (.cons (.v 4) .nil)))) .nil) (by omega) (by
    intro i z d hi
    simp [l_joined (powB hb (show i ≤ 20 by omega)) (bgB hb)]
    rfl)
  have sm : Sm 999999999999 (it (if 0 < k then m else inv m) k.natAbs) := (pw_nb hm k).sm (Nat.le_trans (Nat.pow_le_pow_right (by decide) hk) (by decide))
  have w : run Pg Gg (n + 4) 1 [.v (.int k), .v (.int (-40)), .v (.int 40)] = .ret (.pv (.bool true)) none := l_within k _ _ (by omega) (by omega)
  have ii : PyData.tuple [.int 1, .int 0, .int 0, .int 1] = T4 idm := rfl
  by_cases h : 0 < k
  · rw [if_pos h] at fo sm
    simp [f_power_of, f_power_of_l1, f_power_of_b1, l_check (hm.sm (by decide)) hd, g2, g3, w, h, fo, ii, l_small sm]
    unfold pw
    rw [if_pos h]
  · rw [if_neg h] at fo sm
    simp [f_power_of, f_power_of_l1, f_power_of_b1, l_check (hm.sm (by decide)) hd, g2, g3, w, h, l_back, fo, ii, l_small sm]
    unfold pw
    rw [if_neg h]
theorem l_jpower {m : Mt} {k : Int} (hm : Nb 81 m) (hk : k.natAbs ≤ 6) : run Pg Gg (n + 2) 25 [.v (T4 m), .v (.int k)] = .ret (.pv (T4 (pw m k))) none := by
  rw [run_succ (f := f__law_power) rfl, if_pos ⟨rfl, rfl⟩]
  have hb := pw_base hm k
  obtain ⟨z, fo⟩ := pow_for (C := ⟨run Pg Gg (n + 1), Gg⟩) (m := m) (k := k) (b := if 0 < k then m else inv m) (j := 0) (body := .cons (.asg (.n 3) (.call 21 (.cons (.v 3) (.cons (.v 4) .nil)))) .nil) (by omega) (by
    intro i z d hi
    simp [l_jafter (powB hb (show i ≤ 20 by omega)) (bgB hb)]
    rfl)
  have ii : PyData.tuple [.int 1, .int 0, .int 0, .int 1] = T4 idm := rfl
  by_cases h : 0 < k
  · rw [if_pos h] at fo
    simp [f__law_power, f__law_power_l1, f__law_power_b1, h, fo, ii, lim4]
    unfold pw
    rw [if_pos h]
  · rw [if_neg h] at fo
    simp [f__law_power, f__law_power_l1, f__law_power_b1, h, l_jback, fo, ii, lim4]
    unfold pw
    rw [if_neg h]
theorem l_low {t b : Int} (hb : b ≠ 0) (hb2 : b < 2 ^ 250) (hg : Int.gcd t b = 1) : run Pg Gg (n + 1) 20 [.v (.int t), .v (.int b)] = .ret (.pv (T2 (norm t b))) none := by
  unfold norm
  rw [if_neg hb]
  by_cases h : 0 < b
  · rw [if_pos h, low_pos rfl h hb2, hg]
    simp [T2]
  · rw [if_neg h, low_neg rfl (by omega) hg]
    simp [T2]
theorem l_jled {m : Mt} {p : Int × Int} (h : Sm (10 ^ 20) m) (hp : PS (10 ^ 20) p) (hg : Int.gcd (m.a * p.1 + m.b * p.2) (m.c * p.1 + m.d * p.2) = 1) : run Pg Gg (n + 2) 24 [.v (T4 m), .v (T2 p)] = .ret (.pv (T2 (ledTo m p))) none := by
  obtain ⟨a, b, c, d⟩ := m
  obtain ⟨p, q⟩ := p
  obtain ⟨h1, h2, h3, h4⟩ := h
  obtain ⟨h5, h6⟩ := hp
  dsimp only at *
  have up : ∀ {x : Int}, x.natAbs ≤ 10 ^ 20 → x.natAbs ≤ 10 ^ 40 := fun h => Nat.le_trans h (by decide)
  have m1 := mulB (up h1) (up h5)
  have m2 := mulB (up h2) (up h6)
  have m3 := mulB (up h3) (up h5)
  have m4 := mulB (up h4) (up h6)
  rw [run_succ (f := f__law_led) rfl, if_pos ⟨rfl, rfl⟩]
  by_cases c1 : c * p + d * q = 0
  · simp [f__law_led, T4, T2, jx0, jx1, m1, m2, m3, m4, c1, ledTo, norm, lim2]
  · have hb2 : c * p + d * q < 2 ^ 250 := by
      have e1 : (c * p).natAbs ≤ 10 ^ 20 * 10 ^ 20 := by rw [Int.natAbs_mul]; exact Nat.mul_le_mul h3 h5
      have e2 : (d * q).natAbs ≤ 10 ^ 20 * 10 ^ 20 := by rw [Int.natAbs_mul]; exact Nat.mul_le_mul h4 h6
      omega
    have lo := l_low (n := n) c1 hb2 hg
    simp [f__law_led, T4, jx0, jx1, m1, m2, m3, m4, c1, T2] at lo ⊢
    simp [jx0, jx1, m1, m2, m3, m4, c1, lo, ledTo]
/-- one of five things -/
theorem l_some {xs : List PyData} {m : Nat} {ds : List PyData} (H : HandOk m xs) (hl : 0 < ds.length) (hl2 : ds.length < 1000) (hm : m < 1000000000) : ∃ (i : Nat) (d : PyData) (ys : List PyData), run Pg Gg (n + 2) 19 [.io xs, .v (.list ds)] = .ret (.pv d) (some (.io ys)) ∧ HandOk (m + 1) ys ∧ ds[i]? = some d := by
  obtain ⟨r, ys, e, h, r0, r1⟩ := draw_ok (P := Pg) (gl := Gg) (j := 18) (n := n) (many := ds.length) rfl H (by omega) (by omega) hm
  have hd : ds[r.toNat]? = some (ds[r.toNat]'(by omega)) := List.getElem?_eq_getElem _
  refine ⟨r.toNat, ds[r.toNat]'(by omega), ys, ?_, h, hd⟩
  rw [run_succ (f := f__law_some) rfl, if_pos ⟨rfl, rfl⟩]
  have ea : L2.atI ds r = some (ds[r.toNat]'(by omega)) := by rw [at_nat r0 r1, hd]
  generalize ds[r.toNat]'(by omega) = d at ea hd
  have ci : evE ⟨run Pg Gg (n + 1), Gg⟩ (.cio 18 0 (.cons (.b1 .len (.v 1)) .nil)) [some (.io xs), some (.v (.list ds))] = .ok (.pv (.int r)) [some (.io ys), some (.v (.list ds))] := ecio_io (xs := xs) (xs' := xs) (ds := [.int ds.length]) (ρ' := [some (.io xs), some (.v (.list ds))]) rfl (by simp) rfl e
  simp [f__law_some, ci, ea]
end Lw
namespace Lw
open Pv PySem
variable {n : Nat}
theorem cio_k {C : Cfg} {j : Nat} {k : Int} {xs ys : List PyData} {x : Val} {s : Option Slot} {rest : Pv.Env} (h : C.call j [.io xs, .v (.int k)] = .ret x (some (.io ys))) : evE C (.cio j 1 (.cons (.k (.int k)) .nil)) (s :: some (.own xs) :: rest) = .ok x (s :: some (.own ys) :: rest) :=
  ecio_own (xs := xs) (xs' := xs) (ds := [.int k]) (ρ' := s :: some (.own xs) :: rest) rfl (by simp) rfl h
theorem cio_k0 {C : Cfg} {j : Nat} {k : Int} {xs ys : List PyData} {x : Val} {rest : Pv.Env} (h : C.call j [.io xs, .v (.int k)] = .ret x (some (.io ys))) : evE C (.cio j 0 (.cons (.k (.int k)) .nil)) (some (.io xs) :: rest) = .ok x (some (.io ys) :: rest) :=
  ecio_io (xs := xs) (xs' := xs) (ds := [.int k]) (ρ' := some (.io xs) :: rest) rfl (by simp) rfl h
/-! ### a made map -/
def five : List PyData := [T4 ⟨1, 1, 0, 1⟩, T4 ⟨1, 0, 1, 1⟩, T4 ⟨1, -1, 0, 1⟩, T4 ⟨0, -1, 1, 0⟩, T4 ⟨1, 0, -2, 1⟩]
theorem of_five {i : Nat} {d : PyData} (h : five[i]? = some d) : ∃ s : Mt, d = T4 s ∧ Nb 3 s ∧ det s = 1 := by
  have m : d ∈ five := List.mem_of_getElem? h
  unfold five at m
  simp only [List.mem_cons, List.not_mem_nil, or_false] at m
  rcases m with rfl | rfl | rfl | rfl | rfl <;> exact ⟨_, rfl, ⟨by decide, by decide, by decide, by decide⟩, by decide⟩
def ng (m : Mt) : Mt := ⟨0 - m.a, 0 - m.b, 0 - m.c, 0 - m.d⟩
theorem ng_nb {m : Mt} {k : Nat} (h : Nb k m) : Nb k (ng m) := by
  obtain ⟨a, b, c, d⟩ := m
  obtain ⟨h1, h2, h3, h4⟩ := h
  dsimp only at *
  refine ⟨?_, ?_, ?_, ?_⟩ <;> unfold ng <;> dsimp only <;> omega
theorem ng_det {m : Mt} (h : det m = 1) : det (ng m) = 1 := by
  have h : m.a * m.d - m.b * m.c = 1 := h
  unfold det ng
  dsimp only
  grind
theorem l_made {xs : List PyData} {c : Nat} {st : Int} (H : HandOk c xs) (h0 : 0 ≤ st) (h1 : st ≤ 9) (hc : c < 1000000) :
    ∃ (m : Mt) (ys : List PyData), run Pg Gg (n + 3) 23 [.io xs, .v (.int st)] = .ret (.pv (T4 m)) (some (.io ys)) ∧ HandOk (c + 20) ys ∧ Nb (3 ^ st.natAbs) m ∧ det m = 1 := by
  obtain ⟨r, ys, e, H2, r0, r1⟩ := draw_ok (P := Pg) (gl := Gg) (j := 18) (n := n + 1) (many := st + 1) rfl H (by omega) (by omega) (by omega)
  obtain ⟨q, rq⟩ : ∃ q : Nat, r = q := ⟨r.natAbs, by omega⟩
  subst rq
  have lp : ∃ (zs : List PyData) (m : Mt) (z1 z2 : Option PyData), evS ⟨run Pg Gg (n + 2), Gg⟩ f__law_made_l1 [some (.io xs), some (.v (.int st)), some (.v (T4 idm)), none, none, none] = .nx [some (.io zs), some (.v (.int st)), some (.v (T4 m)), z1.map Slot.v, z2.map Slot.v, none] ∧ HandOk (c + 1 + q) zs ∧ Nb (3 ^ q) m ∧ det m = 1 := by
    unfold f__law_made_l1
    rw [s_for]
    have e1 : evI ⟨run Pg Gg (n + 2), Gg⟩ (.rng (.cons (.cio 18 0 (.cons (.bin .add (.v 1) (.k (.int 1))) .nil)) .nil)) [some (.io xs), some (.v (.int st)), some (.v (T4 idm)), none, none, none] = .ok (rangeD 0 q 1) [some (.io ys), some (.v (.int st)), some (.v (T4 idm)), none, none, none] := by
      have c1 : evE ⟨run Pg Gg (n + 2), Gg⟩ (.cio 18 0 (.cons (.bin .add (.v 1) (.k (.int 1))) .nil)) [some (.io xs), some (.v (.int st)), some (.v (T4 idm)), none, none, none] = .ok (.pv (.int (q : Int))) [some (.io ys), some (.v (.int st)), some (.v (T4 idm)), none, none, none] :=
        ecio_io (xs := xs) (xs' := xs) (ds := [.int (st + 1)]) (ρ' := [some (.io xs), some (.v (.int st)), some (.v (T4 idm)), none, none, none]) rfl (by simp) rfl e
      refine i_rngA (ds := [.int (q : Int)]) (by simp [c1]) ?_
      exact rngOfA (k := (q : Int)) (by omega)
    rw [e1, R.toS_ok]
    obtain ⟨ρ', f1, zs, m, z1, z2, f2, f3, f4, f5⟩ := forGo_inv (f := fun x ρ => (putT ρ (.n 3) x).toS fun _ ρ => evSs ⟨run Pg Gg (n + 2), Gg⟩ f__law_made_b1 ρ) (ds := rangeD 0 q 1) (ρ := [some (.io ys), some (.v (.int st)), some (.v (T4 idm)), none, none, none])
      (fun i ρ => ∃ (zs : List PyData) (m : Mt) (z1 z2 : Option PyData), ρ = [some (.io zs), some (.v (.int st)), some (.v (T4 m)), z1.map Slot.v, z2.map Slot.v, none] ∧ HandOk (c + 1 + i) zs ∧ Nb (3 ^ i) m ∧ det m = 1) ⟨ys, idm, none, none, rfl, H2, it_nb (b := idm) (k := 3) ⟨by decide, by decide, by decide, by decide⟩ 0, rfl⟩ (by
        rintro i d ρ hd ⟨zs, m, z1, z2, rfl, G1, G2, G3⟩
        have hi : i < q := by
          have := (List.getElem?_eq_some_iff.mp hd).1
          rwa [rangeD_len] at this
        obtain ⟨ix, d2, ws, k1, k2, k3⟩ := l_some (n := n) (ds := five) G1 (by decide) (by decide) (by omega)
        obtain ⟨s, rfl, s1, s2⟩ := of_five k3
        refine ⟨_, ?_, ws, mul m s, some d, some (T4 s), rfl, k2, G2.mul s1, det_mul G3 s2⟩
        have ev : evE ⟨run Pg Gg (n + 2), Gg⟩ (.cio 19 0 (.cons (.lst (.cons (.tup (.cons (.k (.int 1)) (.cons (.k (.int 1)) (.cons (.k (.int 0)) (.cons (.k (.int 1)) .nil))))) (.cons (.tup (.cons (.k (.int 1)) (.cons (.k (.int 0)) (.cons (.k (.int 1)) (.cons (.k (.int 1)) .nil))))) (.cons (.tup (.cons (.k (.int 1)) (.cons (.neg (.k (.int 1))) (.cons (.k (.int 0)) (.cons (.k (.int 1)) .nil))))) (.cons (.tup (.cons (.k (.int 0)) (.cons (.neg (.k (.int 1))) (.cons (.k (.int 1)) (.cons (.k (.int 0)) .nil))))) (.cons (.tup (.cons (.k (.int 1)) (.cons (.k (.int 0)) (.cons (.neg (.k (.int 2))) (.cons (.k (.int 1)) .nil))))) .nil)))))) .nil)) [some (.io zs), some (.v (.int st)), some (.v (T4 m)), some (.v d), z2.map Slot.v, none] = .ok (.pv (T4 s)) [some (.io ws), some (.v (.int st)), some (.v (T4 m)), some (.v d), z2.map Slot.v, none] :=
          ecio_io (xs := zs) (xs' := zs) (ds := [.list five]) (ρ' := [some (.io zs), some (.v (.int st)), some (.v (T4 m)), some (.v d), z2.map Slot.v, none]) rfl (by simp [lim4, lim5, five, T4]) rfl k1
        have bm : Bg m := G2.sm (Nat.le_trans (Nat.pow_le_pow_right (by decide) (show i ≤ 20 by omega)) (by decide))
        simp [f__law_made_b1, ev, l_jafter bm (s1.sm (by decide))])
    rw [rangeD_len] at f3 f4
    exact ⟨zs, m, z1, z2, by rw [f1, f2], f3, f4, f5⟩
  obtain ⟨zs, m, z1, z2, f1, f2, f3, f4⟩ := lp
  obtain ⟨r3, ws, e3, H3, t0, t1⟩ := draw_ok (P := Pg) (gl := Gg) (j := 18) (n := n + 1) (many := 3) rfl f2 (by omega) (by omega) (by omega)
  have le : (3 : Nat) ^ q ≤ 3 ^ st.natAbs := Nat.pow_le_pow_right (by decide) (by omega)
  have c3 := fun rest => cio_k0 (C := ⟨run Pg Gg (n + 2), Gg⟩) (j := 18) (k := 3) (rest := rest) e3
  have ii : PyData.tuple [.int 1, .int 0, .int 0, .int 1] = T4 idm := rfl
  by_cases h : 0 < r3
  · refine ⟨m, ws, ?_, H3.mono (by omega), f3.mono le, f4⟩
    rw [run_succ (f := f__law_made) rfl, if_pos ⟨rfl, rfl⟩]
    simp [f__law_made, ii, lim4, f1, c3, h]
  · refine ⟨ng m, ws, ?_, H3.mono (by omega), (ng_nb f3).mono le, ng_det f4⟩
    rw [run_succ (f := f__law_made) rfl, if_pos ⟨rfl, rfl⟩]
    have lc : evE ⟨run Pg Gg (n + 2), Gg⟩ (.lc (.bin .sub (.k (.int 0)) (.v 5)) (.n 5) (.of (.v 2)) .yes) [some (.io ws), some (.v (.int st)), some (.v (T4 m)), z1.map Slot.v, z2.map Slot.v, none] = .ok (.fr [.int (0 - m.a), .int (0 - m.b), .int (0 - m.c), .int (0 - m.d)]) [some (.io ws), some (.v (.int st)), some (.v (T4 m)), z1.map Slot.v, z2.map Slot.v, none] := by
      rw [e_lc]
      have e1 : evI ⟨run Pg Gg (n + 2), Gg⟩ (.of (.v 2)) [some (.io ws), some (.v (.int st)), some (.v (T4 m)), z1.map Slot.v, z2.map Slot.v, none] = .ok [.int m.a, .int m.b, .int m.c, .int m.d] [some (.io ws), some (.v (.int st)), some (.v (T4 m)), z1.map Slot.v, z2.map Slot.v, none] := by simp [T4]
      rw [e1, R.bind_ok]
      rw [lcGo_n (g := fun d => match d with | .int i => .int (0 - i) | d => d) (by simp) rfl ?_]
      · simp [lim4]
      · intro x hx
        simp at hx
        rcases hx with rfl | rfl | rfl | rfl <;> simp
    have tn : PyData.tuple [.int (0 - m.a), .int (0 - m.b), .int (0 - m.c), .int (0 - m.d)] = T4 (ng m) := rfl
    simp only [Int.zero_sub] at lc tn
    simp [f__law_made, ii, lim4, f1, c3, h, lc, tn]
end Lw
namespace Lw
open Pv PySem
variable {n : Nat}
theorem lis4 (m : Mt) : run Pg Gg (n + 2) 26 [.v (T4 m), .v (T4 m)] = .ret (.pv (.bool true)) none := by
  refine is_tup (j := 26) (m := n + 1) rfl _ lim4 ?_
  intro d hd
  simp at hd
  rcases hd with rfl | rfl | rfl | rfl <;> exact is_int rfl _
theorem lis2 (p : Int × Int) : run Pg Gg (n + 2) 26 [.v (T2 p), .v (T2 p)] = .ret (.pv (.bool true)) none := by
  refine is_tup (j := 26) (m := n + 1) rfl _ lim2 ?_
  intro d hd
  simp at hd
  rcases hd with rfl | rfl <;> exact is_int rfl _
theorem ne4 (m : Mt) : cmpD .ne (T4 m) (T4 m) = some false := c_ne4 ..
theorem ne2 (p : Int × Int) : cmpD .ne (T2 p) (T2 p) = some false := by
  unfold T2
  simp
theorem x40 (m : Mt) : ixD (T4 m) (.int 0) = some (.int m.a) := rfl
theorem x43 (m : Mt) : ixD (T4 m) (.int 3) = some (.int m.d) := rfl
/-- one place of a turn -/
theorem place_ok {s : Option Slot} {xs : List PyData} {z2 z4 z5 z6 z7 z10 z11 z12 : Option PyData} {dr : PyData} {p : Int × Int} {one other : Mt} (h1 : Nb 19683 one) (d1 : det one = 1) (h2 : Nb 19683 other) (d2 : det other = 1) (hp : Pl p) (sp : PS 100000 p) :
    evSs ⟨run Pg Gg (n + 6), Gg⟩ f_law_b1 [s, some (.own xs), z2.map Slot.v, some (.v dr), some (.v (T2 p)), z5.map Slot.v, z6.map Slot.v, z7.map Slot.v, some (.v (T4 one)), some (.v (T4 other)), z10.map Slot.v, z11.map Slot.v, z12.map Slot.v]
      = .nx [s, some (.own xs), z2.map Slot.v, some (.v dr), some (.v (T2 p)), z5.map Slot.v, z6.map Slot.v, z7.map Slot.v, some (.v (T4 one)), some (.v (T4 other)), some (.v (T2 (ledTo one p))), z11.map Slot.v, z12.map Slot.v] := by
  have s1 : Sm 999999999999 one := h1.sm (by decide)
  have s2 : Sm 999999999999 other := h2.sm (by decide)
  have s3 : Sm 999999999999 (mul one other) := (h1.mul h2).sm (by decide)
  have s4 : Sm 999999999999 (inv one) := h1.inv.sm (by decide)
  have q1 : PS (19683 * 100000) (ledTo one p) := ps_led (by decide) h1 sp
  have q2 : PS (19683 * 100000) (ledTo other p) := ps_led (by decide) h2 sp
  have p1 : Pl (ledTo one p) := pl_led d1 hp q1 (by decide)
  have p2 : Pl (ledTo other p) := pl_led d2 hp q2 (by decide)
  have e1 : run Pg Gg (n + 6) 24 [.v (T4 one), .v (T2 p)] = .ret (.pv (T2 (ledTo one p))) none := l_jled (h1.sm (by decide)) ⟨Nat.le_trans sp.1 (by decide), Nat.le_trans sp.2 (by decide)⟩ (gcd_led d1 (pl_gcd hp))
  have e2 := l_led (n := n + 1) s1 d1 hp
  have e3 := l_led (n := n + 1) s2 d2 hp
  have e4 := l_led (n := n + 1) s1 d1 p2
  have e5 := l_led (n := n + 1) s3 (det_mul d1 d2) hp
  have e6 := l_led (n := n + 1) s4 (det_inv d1) p1
  have e7 := l_after (n := n) s1 d1 s2 d2 s3
  have e8 := l_backmap (n := n + 1) s1 d1
  have i1 := lis2 (n := n + 4) (ledTo one p)
  rw [led_led d2 hp] at e4
  rw [led_back d1 hp] at e6
  simp [f_law_b1, e1, e2, e3, e4, e5, e6, e7, e8, i1, ne2]
/-- the places of a turn -/
theorem places_ok {s : Option Slot} {xs : List PyData} {z2 z4 z5 z6 z7 z10 z11 z12 : Option PyData} {dr : Int × Int} {one other : Mt} (h1 : Nb 19683 one) (d1 : det one = 1) (h2 : Nb 19683 other) (d2 : det other = 1) (hp : Pl dr) (sp : PS 100000 dr) :
    ∃ y4 y10 : Option PyData, evS ⟨run Pg Gg (n + 6), Gg⟩ f_law_l1 [s, some (.own xs), z2.map Slot.v, some (.v (T2 dr)), z4.map Slot.v, z5.map Slot.v, z6.map Slot.v, z7.map Slot.v, some (.v (T4 one)), some (.v (T4 other)), z10.map Slot.v, z11.map Slot.v, z12.map Slot.v]
      = .nx [s, some (.own xs), z2.map Slot.v, some (.v (T2 dr)), y4.map Slot.v, z5.map Slot.v, z6.map Slot.v, z7.map Slot.v, some (.v (T4 one)), some (.v (T4 other)), y10.map Slot.v, z11.map Slot.v, z12.map Slot.v] := by
  have e0 : Pl (1, 0) := .inl rfl
  have e1 : run Pg Gg (n + 6) 24 [.v (T4 one), .v (T2 (1, 0))] = .ret (.pv (T2 (ledTo one (1, 0)))) none := l_jled (h1.sm (by decide)) ⟨by decide, by decide⟩ (gcd_led d1 (pl_gcd e0))
  have q1 : PS (19683 * 1) (ledTo one (1, 0)) := ps_led (by decide) h1 ⟨by decide, by decide⟩
  have t10 : PyData.tuple [.int 1, .int 0] = T2 (1, 0) := rfl
  unfold f_law_l1
  rw [s_for]
  have ev : evI ⟨run Pg Gg (n + 6), Gg⟩ (.of (.lst (.cons (.tup (.cons (.k (.int 1)) (.cons (.k (.int 0)) .nil))) (.cons (.tup (.cons (.k (.int 0)) (.cons (.k (.int 1)) .nil))) (.cons (.tup (.cons (.k (.int 1)) (.cons (.k (.int 1)) .nil))) (.cons (.v 3) (.cons (.call 24 (.cons (.v 8) (.cons (.tup (.cons (.k (.int 1)) (.cons (.k (.int 0)) .nil))) .nil))) .nil))))))) [s, some (.own xs), z2.map Slot.v, some (.v (T2 dr)), z4.map Slot.v, z5.map Slot.v, z6.map Slot.v, z7.map Slot.v, some (.v (T4 one)), some (.v (T4 other)), z10.map Slot.v, z11.map Slot.v, z12.map Slot.v]
      = .ok [T2 (1, 0), T2 (0, 1), T2 (1, 1), T2 dr, T2 (ledTo one (1, 0))] [s, some (.own xs), z2.map Slot.v, some (.v (T2 dr)), z4.map Slot.v, z5.map Slot.v, z6.map Slot.v, z7.map Slot.v, some (.v (T4 one)), some (.v (T4 other)), z10.map Slot.v, z11.map Slot.v, z12.map Slot.v] := by
    simp [lim2, lim5, t10, e1]
    exact ⟨rfl, rfl⟩
  rw [ev, R.toS_ok]
  obtain ⟨ρ', f1, y4, y10, f2⟩ := forGo_inv (f := fun x ρ => (putT ρ (.n 4) x).toS fun _ ρ => evSs ⟨run Pg Gg (n + 6), Gg⟩ f_law_b1 ρ) (ds := [T2 (1, 0), T2 (0, 1), T2 (1, 1), T2 dr, T2 (ledTo one (1, 0))])
    (fun i ρ => ∃ y4 y10 : Option PyData, ρ = [s, some (.own xs), z2.map Slot.v, some (.v (T2 dr)), y4.map Slot.v, z5.map Slot.v, z6.map Slot.v, z7.map Slot.v, some (.v (T4 one)), some (.v (T4 other)), y10.map Slot.v, z11.map Slot.v, z12.map Slot.v]) ⟨z4, z10, rfl⟩ (by
      rintro i d ρ hd ⟨y4, y10, rfl⟩
      have good : ∃ p, d = T2 p ∧ Pl p ∧ PS 100000 p := by
        have m := List.mem_of_getElem? hd
        simp only [List.mem_cons, List.not_mem_nil, or_false] at m
        rcases m with rfl | rfl | rfl | rfl | rfl
        · exact ⟨_, rfl, e0, by decide, by decide⟩
        · exact ⟨_, rfl, .inr ⟨by decide, by decide, by decide, by decide⟩, by decide, by decide⟩
        · exact ⟨_, rfl, .inr ⟨by decide, by decide, by decide, by decide⟩, by decide, by decide⟩
        · exact ⟨_, rfl, hp, sp⟩
        · exact ⟨_, rfl, pl_led d1 e0 q1 (by decide), Nat.le_trans q1.1 (by decide), Nat.le_trans q1.2 (by decide)⟩
      obtain ⟨p, rfl, g1, g2⟩ := good
      refine ⟨_, ?_, some (T2 p), some (T2 (ledTo one p)), rfl⟩
      have := place_ok (n := n) (s := s) (xs := xs) (z2 := z2) (z4 := y4) (z5 := z5) (z6 := z6) (z7 := z7) (z10 := y10) (z11 := z11) (z12 := z12) (dr := T2 dr) h1 d1 h2 d2 g1 g2
      simp [this])
  exact ⟨y4, y10, by rw [f1, f2]⟩
/-- one turn -/
theorem turn_ok {s : Option Slot} {xs : List PyData} {c : Nat} {z2 z3 z4 z5 z6 z7 z8 z9 z10 z11 z12 : Option PyData} (H : HandOk c xs) (hc : c < 100000) :
    ∃ (ys : List PyData) (y3 y4 y5 y6 y7 y8 y9 y10 y11 y12 : Option PyData), HandOk (c + 100) ys ∧ evSs ⟨run Pg Gg (n + 6), Gg⟩ f_law_b2 [s, some (.own xs), z2.map Slot.v, z3.map Slot.v, z4.map Slot.v, z5.map Slot.v, z6.map Slot.v, z7.map Slot.v, z8.map Slot.v, z9.map Slot.v, z10.map Slot.v, z11.map Slot.v, z12.map Slot.v]
      = .nx [s, some (.own ys), z2.map Slot.v, y3.map Slot.v, y4.map Slot.v, y5.map Slot.v, y6.map Slot.v, y7.map Slot.v, y8.map Slot.v, y9.map Slot.v, y10.map Slot.v, y11.map Slot.v, y12.map Slot.v] := by
  obtain ⟨one, x1, a1, H1, n1, d1⟩ := l_made (n := n + 3) (st := 9) H (by decide) (by decide) (by omega)
  obtain ⟨other, x2, a2, H2, n2, d2⟩ := l_made (n := n + 3) (st := 9) H1 (by decide) (by decide) (by omega)
  obtain ⟨r3, x3, a3, H3, b3, b3'⟩ := draw_ok (P := Pg) (gl := Gg) (j := 18) (n := n + 5) (many := 41) rfl H2 (by decide) (by decide) (by omega)
  obtain ⟨r4, x4, a4, H4, b4, b4'⟩ := draw_ok (P := Pg) (gl := Gg) (j := 18) (n := n + 5) (many := 9) rfl H3 (by decide) (by decide) (by omega)
  obtain ⟨r5, x5, a5, H5, b5, b5'⟩ := draw_ok (P := Pg) (gl := Gg) (j := 18) (n := n + 5) (many := 7) rfl H4 (by decide) (by decide) (by omega)
  obtain ⟨r6, x6, a6, H6, b6, b6'⟩ := draw_ok (P := Pg) (gl := Gg) (j := 18) (n := n + 5) (many := 7) rfl H5 (by decide) (by decide) (by omega)
  obtain ⟨sm, x7, a7, H7, n7, d7⟩ := l_made (n := n + 3) (st := 4) H6 (by decide) (by decide) (by omega)
  have n1 : Nb 19683 one := n1.mono (by decide)
  have n2 : Nb 19683 other := n2.mono (by decide)
  have n7 : Nb 81 sm := n7.mono (by decide)
  have c1 := fun s rest => cio_k (C := ⟨run Pg Gg (n + 6), Gg⟩) (j := 23) (k := 9) (s := s) (rest := rest) a1
  have c2 := fun s rest => cio_k (C := ⟨run Pg Gg (n + 6), Gg⟩) (j := 23) (k := 9) (s := s) (rest := rest) a2
  have c3 := fun s rest => cio_k (C := ⟨run Pg Gg (n + 6), Gg⟩) (j := 18) (k := 41) (s := s) (rest := rest) a3
  have c4 := fun s rest => cio_k (C := ⟨run Pg Gg (n + 6), Gg⟩) (j := 18) (k := 9) (s := s) (rest := rest) a4
  have c5 := fun s rest => cio_k (C := ⟨run Pg Gg (n + 6), Gg⟩) (j := 18) (k := 7) (s := s) (rest := rest) a5
  have c6 := fun s rest => cio_k (C := ⟨run Pg Gg (n + 6), Gg⟩) (j := 18) (k := 7) (s := s) (rest := rest) a6
  have c7 := fun s rest => cio_k (C := ⟨run Pg Gg (n + 6), Gg⟩) (j := 23) (k := 4) (s := s) (rest := rest) a7
  have s1 : Sm 999999999999 one := n1.sm (by decide)
  have s2 : Sm 999999999999 other := n2.sm (by decide)
  have s3 : Sm 999999999999 (mul one other) := (n1.mul n2).sm (by decide)
  have s4 : Sm 999999999999 (inv one) := n1.inv.sm (by decide)
  have big : ∀ {z : Mt}, Sm 999999999999 z → Bg z := fun h => ⟨by have := h.1; omega, by have := h.2.1; omega, by have := h.2.2.1; omega, by have := h.2.2.2; omega⟩
  -- the drawn ratio
  have lo := low_pos (P := Pg) (gl := Gg) (j := 20) (n := n + 5) (t := r3 - 20) (b := 1 + r4) rfl (by omega) (by omega)
  have gp : 0 < Int.gcd (r3 - 20) (1 + r4) := Int.gcd_pos_of_ne_zero_right _ (by omega)
  obtain ⟨dr, edr⟩ : ∃ dr : Int × Int, dr = ((r3 - 20) / Int.gcd (r3 - 20) (1 + r4), (1 + r4) / Int.gcd (r3 - 20) (1 + r4)) := ⟨_, rfl⟩
  have lo2 : run Pg Gg (n + 6) 20 [.v (.int (r3 - 20)), .v (.int (1 + r4))] = .ret (.pv (T2 dr)) none := by rw [edr]; exact lo
  have k1 : dr.1.natAbs ≤ 20 := by rw [edr]; exact Nat.le_trans (Int.natAbs_ediv_le_natAbs _ _) (by omega)
  have k2 : dr.2.natAbs ≤ 9 := by rw [edr]; exact Nat.le_trans (Int.natAbs_ediv_le_natAbs _ _) (by omega)
  have k3 : 0 < dr.2 := by
    rw [edr]
    exact Int.ediv_pos_of_pos_of_dvd (by omega) (by omega) (Int.gcd_dvd_right ..)
  have pdr : Pl dr := .inr ⟨by omega, k3, by omega, by rw [edr]; exact Int.gcd_ediv_gcd_ediv_gcd gp⟩
  have qdr : PS 100000 dr := ⟨by omega, by omega⟩
  obtain ⟨y4, y10, pl⟩ := places_ok (n := n) (s := s) (xs := x4) (z2 := z2) (z4 := z4) (z5 := z5) (z6 := z6) (z7 := z7) (z10 := z10) (z11 := z11) (z12 := z12) n1 d1 n2 d2 pdr qdr
  -- the whole ones
  have e1 := l_after (n := n) s1 d1 s2 d2 s3
  have e2 := l_jafter (n := n + 5) (big s1) (big s2)
  have e3 := l_backmap (n := n + 1) s1 d1
  have e4 := l_jback (n := n + 5) (x := one)
  have e5 := l_after (n := n) s1 d1 s4 (det_inv d1) (by rw [mul_inv d1]; exact ⟨by decide, by decide, by decide, by decide⟩)
  rw [mul_inv d1] at e5
  have i1 := lis4 (n := n + 4) (mul one other)
  have i2 := lis4 (n := n + 4) (inv one)
  have ii : PyData.tuple [.int 1, .int 0, .int 0, .int 1] = T4 idm := rfl
  -- the powers
  have w1 := l_power (n := n + 1) (k := r6 - 3) n7 d7 (by omega)
  have w2 := l_jpower (n := n + 4) (k := r6 - 3) n7 (by omega)
  have w3 := l_power (n := n + 1) (k := r5 - 3) n7 d7 (by omega)
  have w4 := l_power (n := n + 1) (k := r5 - 3 + (r6 - 3)) n7 d7 (by omega)
  have w5 := l_power (n := n + 1) (k := 2) n7 d7 (by decide)
  have pb : ∀ j : Int, j.natAbs ≤ 6 → Sm 999999999999 (pw sm j) := fun j hj => (pw_nb n7 j).sm (Nat.le_trans (Nat.pow_le_pow_right (by decide) hj) (by decide))
  have w6 := l_after (n := n) (pb (r5 - 3) (by omega)) (pw_det d7 _) (pb (r6 - 3) (by omega)) (pw_det d7 _) (by rw [pw_add d7]; exact pb _ (by omega))
  rw [pw_add d7] at w6
  have i3 := lis4 (n := n + 4) (pw sm (r6 - 3))
  have tot : (sm.a + sm.d).natAbs ≤ 10 ^ 40 := by
    obtain ⟨h1, h2, h3, h4⟩ := n7
    omega
  have m1 := mulB tot tot
  have tr := pw_trace d7
  have fin : HandOk (c + 100) x7 := H7.mono (by omega)
  refine ⟨x7, some (T2 dr), y4, some (T4 sm), some (.int (sm.a + sm.d)), some (T4 (pw sm 2)), some (T4 one), some (T4 other), y10, some (.int (r5 - 3)), some (.int (r6 - 3)), fin, ?_⟩
  simp [f_law_b2, lim4, ii, c1, c2, e1, e2, e3, e4, e5, i1, i2, ne4, c3, c4, lo2, pl, c5, c6, c7, w1, w2, w3, w4, w5, w6, i3, x40, x43, m1, tr]
theorem law_turns {ns : List Int} : run Pg Gg (n + 7) 27 [.raw (ns.map PyData.int)] = .ret (.pv (.bool true)) none := by
  obtain ⟨xs, h1, h2⟩ := hand_ok (P := Pg) (gl := Gg) (j := 17) (n := n + 5) (ns := ns) rfl
  rw [run_succ (f := f_law) rfl, if_pos ⟨rfl, rfl⟩]
  have lp : ∃ (ys : List PyData) (y2 y3 y4 y5 y6 y7 y8 y9 y10 y11 y12 : Option PyData), evS ⟨run Pg Gg (n + 6), Gg⟩ f_law_l2 [some (.raw (ns.map PyData.int)), some (.own xs), none, none, none, none, none, none, none, none, none, none, none]
      = .nx [some (.raw (ns.map PyData.int)), some (.own ys), y2.map Slot.v, y3.map Slot.v, y4.map Slot.v, y5.map Slot.v, y6.map Slot.v, y7.map Slot.v, y8.map Slot.v, y9.map Slot.v, y10.map Slot.v, y11.map Slot.v, y12.map Slot.v] := by
    unfold f_law_l2
    rw [s_for]
    rw [i_rngA (ds := [.int 8]) (ρ' := [some (.raw (ns.map PyData.int)), some (.own xs), none, none, none, none, none, none, none, none, none, none, none]) (by simp) (show rngOf [.int 8] = some (0, 8, 1) from rngOfA (k := 8) (by decide)), R.toS_ok]
    obtain ⟨ρ', f1, ys, y2, y3, y4, y5, y6, y7, y8, y9, y10, y11, y12, f2, f3⟩ := forGo_inv (f := fun x ρ => (putT ρ (.n 2) x).toS fun _ ρ => evSs ⟨run Pg Gg (n + 6), Gg⟩ f_law_b2 ρ) (ds := rangeD 0 8 1) (ρ := [some (.raw (ns.map PyData.int)), some (.own xs), none, none, none, none, none, none, none, none, none, none, none])
      (fun i ρ => ∃ (ys : List PyData) (y2 y3 y4 y5 y6 y7 y8 y9 y10 y11 y12 : Option PyData), ρ = [some (.raw (ns.map PyData.int)), some (.own ys), y2.map Slot.v, y3.map Slot.v, y4.map Slot.v, y5.map Slot.v, y6.map Slot.v, y7.map Slot.v, y8.map Slot.v, y9.map Slot.v, y10.map Slot.v, y11.map Slot.v, y12.map Slot.v] ∧ HandOk (100 * i) ys) ⟨xs, none, none, none, none, none, none, none, none, none, none, none, rfl, h2⟩ (by
        rintro i d ρ hd ⟨ys, y2, y3, y4, y5, y6, y7, y8, y9, y10, y11, y12, rfl, G⟩
        have hi : i < 8 := by
          have := (List.getElem?_eq_some_iff.mp hd).1
          rwa [rangeD_len] at this
        obtain ⟨ws, u3, u4, u5, u6, u7, u8, u9, u10, u11, u12, G2, e⟩ := turn_ok (n := n) (s := some (.raw (ns.map PyData.int))) (z2 := some d) (z3 := y3) (z4 := y4) (z5 := y5) (z6 := y6) (z7 := y7) (z8 := y8) (z9 := y9) (z10 := y10) (z11 := y11) (z12 := y12) G (by omega)
        refine ⟨_, ?_, ws, some d, u3, u4, u5, u6, u7, u8, u9, u10, u11, u12, rfl, by rw [Nat.mul_add]; exact G2⟩
        simp at e
        simp [e])
    exact ⟨ys, y2, y3, y4, y5, y6, y7, y8, y9, y10, y11, y12, by rw [f1, f2]⟩
  obtain ⟨ys, y2, y3, y4, y5, y6, y7, y8, y9, y10, y11, y12, lp⟩ := lp
  have cr : crawGo (run Pg Gg (n + 6) 17) 0 [some (.raw (ns.map PyData.int)), none, none, none, none, none, none, none, none, none, none, none, none] = .ok (.fr xs) [some (.raw (ns.map PyData.int)), none, none, none, none, none, none, none, none, none, none, none, none] := by
    unfold crawGo
    simp [h1]
  simp [f_law, cr, lp]
theorem law_true (ns : List Int) (_ : ns.length ≤ 63) : run (plOf L) (glOf gls) 40 27 [.raw (ns.map PyData.int)] = .ret (.pv (.bool true)) none := law_turns (n := 33)
end Lw
namespace Lw
open Pv PySem
def loose : List Str := ("MOST_DIGITS" : PySem.Str) :: ("is_integer" : PySem.Str) :: ("is_within" : PySem.Str) :: ("is_sized" : PySem.Str) :: ("common" : PySem.Str) :: ("is_ratio" : PySem.Str) :: ("RatioError" : PySem.Str) :: ("NoMap" : PySem.Str) :: ("NoNumber" : PySem.Str) :: ("NoRatio" : PySem.Str) :: ("TooGreat" : PySem.Str) :: ("MOST" : PySem.Str) :: ("MOST_POWER" : PySem.Str) :: ("SAME_MAP" : PySem.Str) :: ("END" : PySem.Str) :: ("is_whole" : PySem.Str) :: ("check_whole" : PySem.Str) :: ("check_both" : PySem.Str) :: ("joined" : PySem.Str) :: ("turned_back" : PySem.Str) :: ("held_small" : PySem.Str) :: ("after" : PySem.Str) :: ("back_map" : PySem.Str) :: ("is_place" : PySem.Str) :: ("raw_led" : PySem.Str) :: ("led" : PySem.Str) :: ("power_of" : PySem.Str) :: ("_law_hand" : PySem.Str) :: ("_law_draw" : PySem.Str) :: ("_law_some" : PySem.Str) :: ("_law_low" : PySem.Str) :: ("_law_after" : PySem.Str) :: ("_law_back" : PySem.Str) :: ("_law_made" : PySem.Str) :: ("_law_led" : PySem.Str) :: ("_law_power" : PySem.Str) :: ("_law_is" : PySem.Str) :: []
abbrev Rr : PySem.W.OpenRow := PySem.W.OpenLaw.row PySem.Challenge.rw_ratiohouse_k38_whole_maps_one_after_anot
theorem bi : AllBi L := ⟨b_is_integer, b_is_within, b_is_sized, b_common, b_is_ratio, b_is_whole, b_check_whole, b_check_both, b_joined, b_turned_back, b_held_small, b_after, b_back_map, b_is_place, b_raw_led, b_led, b_power_of, b__law_hand, b__law_draw, b__law_some, b__law_low, b__law_after, b__law_back, b__law_made, b__law_led, b__law_power, b__law_is, b_law, trivial⟩
theorem okL : L.all (Dt.ok (nmOf L gls exs)) = true := by decide +kernel
theorem runs (w : World) : HandSHeadRun.RunEq Rr (PySem.W.view Rr.prog [41]) (hkOf L gls exs 4) (obOf L gls exs 4) 4000 Lw.loose w := by
  intro os
  kernel_rfl
end Lw
open PySem PySem.W PySem.Calls PyProof.Rows
theorem PySem.Challenge.cw_ratiohouse_k38_whole_maps_one_after_anot_holds : PySem.Challenge.rw_ratiohouse_k38_whole_maps_one_after_anot.Holds := by
  w_on; o_law
  refine HandSHeadRun.head_any (r := Lw.Rr) (q := view Lw.Rr.prog [41]) (H := Pv.hkOf Lw.L Lw.gls Lw.exs 4) (ob := Pv.obOf Lw.L Lw.gls Lw.exs 4) (M := 4000)
    (loose := Lw.loose)
    (d := HandSHeadRun.topDef Lw.Rr.prog 41) (kwd := []) (Pv.ob_eq _ _ _ _)
    (by kernel_rfl)
    (fun s => by kernel_rfl)
    Lw.runs
    (by kernel_rfl)
    (by kernel_rfl) (by kernel_rfl)
    (by rfl)
    (by first | assumption | decide +kernel)
    (by decide +kernel)
    ⟨rfl, rfl, rfl, rfl, rfl, by decide +kernel⟩
    ?hw ?hc
  case hw => w_witness2
  case hc =>
    exact Pv.law_walk (k := 40) (j := 27) (tl := Lw.d_law) (sn := "script") rfl (by decide) (by kernel_rfl) ⟨rfl, by decide, by decide⟩ rfl rfl Lw.bi Lw.okL (by kernel_rfl) Lw.law_true
