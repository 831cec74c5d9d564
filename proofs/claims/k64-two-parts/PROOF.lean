import PyProof.Rows.All
import Wide.All
import OpenK.AllK
import Wide.FinOn
import HandS.ForMost
import HandS.Exc
import HandS.TryOnly
import HandS.TryMany
import HandS.ExcOwn
import HandS.ExcInit
import HandS.WordsExc
import HandS.TupLe
import HandS.IsInst
import HandS.Wide
import HandS.WideBits
import HandS.Style
import HandS.Zip
import HandS.TupAny
import HandS.Flow
import HandS.Defaults
import KE.KStateDown
import HandS.More
import HandS.Head0
import HandS.Head1
import HandS.Head2
import HandS.HeadEnd
import HandS.HeadHook1
import HandS.HeadHook2
import HandS.HeadHook3
import HandS.HeadHook4
import HandS.HeadWalk
import HandS.Lambda
import HandS.SortRule
import HandS.SortInts
import HandS.ExcIs
import HandS.Deep
import HandS.EndTab
import HandS.NestedK
import HandS.TupMul
import KE.KTupSum
import PySem.Challenge.RW_ratiohouse_k64_whole_two_parts
set_option Elab.async false
set_option linter.all false
set_option maxRecDepth 100000
set_option maxHeartbeats 0
/-! Pv: a small pure language over plain data, its meaning, and (Pv2, Pv3) the proof that what it tells is what the program does. -/
namespace Pv
open PySem

abbrev D := PyData

inductive BOp where
  | add | sub | mul | fdiv | mod | pow | shl | shr | band | bor | bxor
  deriving DecidableEq
inductive COp where
  | eq | ne | lt | le | gt | ge | isin | notin | is | isnot
  deriving DecidableEq
inductive Ty where
  | int | bool | str | tup | lst | dic | non
  deriving DecidableEq
inductive Blt where
  | len | abs | int | tuple | list | sum | min | max | all | any | sorted
  deriving DecidableEq
inductive Tg where
  | n (i : Nat)
  | t (ts : List Nat)
  | u (ts : List (List Nat))
  deriving DecidableEq

mutual
inductive E where
  | nop
  | v (i : Nat)
  | k (d : PyData)
  | g (j : Nat)
  | bin (o : BOp) (a b : E)
  | neg (a : E)
  | not (a : E)
  | and (a b : E)
  | or (a b : E)
  | cmp (o : COp) (a b : E)
  | chain (o p : COp) (a b c : E)
  | ife (c : T) (a b : E)
  | tup (es : Es)
  | lst (es : Es)
  | ix (a i : E)
  | ixv (j : Nat) (i : E)
  | sl (a lo hi : E)
  | slv (j : Nat) (lo hi : E)
  | rev (a : E)
  | call (j : Nat) (es : Es)
  | cio (j : Nat) (i : Nat) (es : Es)
  | craw (j : Nat) (i : Nat)
  | scr (i : Nat) (n : Int)
  | b1 (b : Blt) (a : E)
  | b2 (b : Blt) (a c : E)
  | isi (a : E) (ts : List Ty)
  | lc (elt : E) (tg : Tg) (it : It) (c : T)
  | lam (j : Nat) (e : E)
  | isx (i : Nat) (c : Option Nat)
  | fld (i : Nat) (f : Str)
  | dic (ks : List PyData) (es : Es)
  | cnt (a x : E)
  | idx (a x : E)
  | joi (a b : E)
inductive Es where
  | nil
  | cons (e : E) (es : Es)
inductive It where
  | rng (es : Es)
  | of (e : E)
  | zip (a b : E)
  | enum (a : E)
inductive T where
  | e (a : E)
  | and (a b : T)
  | or (a b : T)
  | not (a : T)
  | yes
end

mutual
inductive S where
  | asg (t : Tg) (e : E)
  | par (is : List Nat) (es : Es)
  | set (i : Nat) (x e : E)
  | aug (i : Nat) (o : BOp) (e : E)
  | app (i : Nat) (e : E)
  | ext (i : Nat) (e : E)
  | expr (e : E)
  | ite (c : T) (a b : Ss)
  | whl (c : T) (b : Ss)
  | for_ (t : Tg) (it : It) (b : Ss)
  | ret (e : E)
  | retv (i : Nat)
  | retN
  | raise (c : Nat)
  | raisex (c : Nat) (x : E)
  | pass
  | brk
  | ct
inductive Ss where
  | nil
  | cons (s : S) (r : Ss)
end
def isV : E → Option Nat
  | .v i => some i
  | _ => none

/-! ### values and places -/
/-- a value: plain data, or a list that is new and held by nobody -/
inductive Val where
  | pv (d : D)
  | fr (xs : List D)
def Val.dat : Val → PyData
  | .pv d => d
  | .fr xs => .list xs
@[simp] theorem Val.dat_pv (d : PyData) : (Val.pv d).dat = d := rfl
@[simp] theorem Val.dat_fr (xs : List PyData) : (Val.fr xs).dat = .list xs := rfl
/-- what an operator makes: a list is a new one -/
def frV : PyData → Val
  | .list xs => .fr xs
  | d => .pv d
/-- a name's place: plain data; a list of its own; the caller's list, still its own, or held by others; the script; an exception that is held -/
inductive Slot where
  | v (d : D)
  | own (xs : List D)
  | io (xs : List D)
  | fz (xs : List D)
  | raw (xs : List D)
  | xc (a : Nat)
def Slot.dat : Slot → PyData
  | .v d => d
  | .own xs => .list xs
  | .io xs => .list xs
  | .fz xs => .list xs
  | .raw xs => .list xs
  | .xc _ => .none
/-- what a place becomes when its value is handed on -/
def Slot.frozen : Slot → Slot
  | .v d => .v d
  | .own xs => .v (.list xs)
  | .io xs => .fz xs
  | .fz xs => .fz xs
  | .raw xs => .raw xs
  | .xc a => .xc a
def Slot.free : Slot → Bool
  | .v _ => true
  | .own _ => true
  | _ => false
abbrev Env := List (Option Slot)
def freeAt (ρ : Env) (i : Nat) : Bool := match ρ[i]? with
  | some (some s) => s.free
  | some none => true
  | none => false

inductive R (α : Type) where
  | ok (a : α) (ρ : Env)
  | exc (c : Nat) (x : Option D) (ρ : Env)
  | bad
def R.bind {α β : Type} (r : R α) (f : α → Env → R β) : R β := match r with
  | .ok a ρ => f a ρ
  | .exc c x ρ => .exc c x ρ
  | .bad => .bad
@[simp] theorem R.bind_ok {α β : Type} (a : α) (ρ : Env) (f : α → Env → R β) : (R.ok a ρ).bind f = f a ρ := rfl
@[simp] theorem R.bind_exc {α β : Type} (c : Nat) (x : Option D) (ρ : Env) (f : α → Env → R β) : (R.exc c x ρ).bind f = .exc c x ρ := rfl
@[simp] theorem R.bind_bad {α β : Type} (f : α → Env → R β) : (R.bad : R α).bind f = .bad := rfl
def R.ofO {α : Type} (o : Option α) (ρ : Env) : R α := match o with
  | some a => .ok a ρ
  | none => .bad
@[simp] theorem R.ofO_some {α : Type} (a : α) (ρ : Env) : R.ofO (some a) ρ = .ok a ρ := rfl
@[simp] theorem R.ofO_none {α : Type} (ρ : Env) : R.ofO (none : Option α) ρ = .bad := rfl
inductive SR where
  | nx (ρ : Env)
  | ret (x : Val) (ρ : Env)
  | brk (ρ : Env)
  | ct (ρ : Env)
  | exc (c : Nat) (x : Option D) (ρ : Env)
  | bad
def R.toS {α : Type} (r : R α) (f : α → Env → SR) : SR := match r with
  | .ok a ρ => f a ρ
  | .exc c x ρ => .exc c x ρ
  | .bad => .bad
@[simp] theorem R.toS_ok {α : Type} (a : α) (ρ : Env) (f : α → Env → SR) : (R.ok a ρ).toS f = f a ρ := rfl
@[simp] theorem R.toS_exc {α : Type} (c : Nat) (x : Option D) (ρ : Env) (f : α → Env → SR) : (R.exc c x ρ : R α).toS f = .exc c x ρ := rfl
@[simp] theorem R.toS_bad {α : Type} (f : α → Env → SR) : (R.bad : R α).toS f = .bad := rfl
def SR.bind (r : SR) (f : Env → SR) : SR := match r with
  | .nx ρ => f ρ
  | r => r
@[simp] theorem SR.bind_nx (ρ : Env) (f : Env → SR) : (SR.nx ρ).bind f = f ρ := rfl
@[simp] theorem SR.bind_ret (x : Val) (ρ : Env) (f : Env → SR) : (SR.ret x ρ).bind f = .ret x ρ := rfl
@[simp] theorem SR.bind_brk (ρ : Env) (f : Env → SR) : (SR.brk ρ).bind f = .brk ρ := rfl
@[simp] theorem SR.bind_ct (ρ : Env) (f : Env → SR) : (SR.ct ρ).bind f = .ct ρ := rfl
@[simp] theorem SR.bind_exc (c : Nat) (x : Option D) (ρ : Env) (f : Env → SR) : (SR.exc c x ρ).bind f = .exc c x ρ := rfl
@[simp] theorem SR.bind_bad (f : Env → SR) : SR.bad.bind f = .bad := rfl
/-- what a call gives back: the value, what the caller's list has become -/
inductive FR where
  | ret (x : Val) (o : Option Slot)
  | exc (c : Nat) (x : Option D) (o : Option Slot)
  | bad

/-! ### the operators on data -/
@[irreducible] def BIG : Nat := 2 ^ 1000000
theorem BIG_eq : BIG = 2 ^ 1000000 := by unfold BIG; rfl
@[irreducible] def DIVB : Nat := 2 ^ 9000
theorem DIVB_eq : DIVB = 2 ^ 9000 := by unfold DIVB; rfl
def LIM : Nat := 1000000

def binD : BOp → D → D → Option D
  | .add, .int i, .int j => some (.int (i + j))
  | .add, .str a, .str b => if a.length + b.length ≤ LIM then some (.str (a ++ b)) else none
  | .add, .list xs, .list ys => if xs.length + ys.length ≤ LIM then some (.list (xs ++ ys)) else none
  | .add, .tuple xs, .tuple ys => if xs.length + ys.length ≤ LIM then some (.tuple (xs ++ ys)) else none
  | .sub, .int i, .int j => some (.int (i - j))
  | .mul, .int i, .int j => if i.natAbs < 2 ^ 62 ∨ j.natAbs < 2 ^ 62 ∨ (i.natAbs < BIG ∧ j.natAbs < BIG) then some (.int (i * j)) else none
  | .mul, .tuple xs, .int k => if k.natAbs < 2 ^ 62 ∧ xs.length * k.toNat ≤ LIM then some (.tuple (List.replicate k.toNat xs).flatten) else none
  | .mul, .list xs, .int k => if k.natAbs < 2 ^ 62 ∧ xs.length * k.toNat ≤ LIM then some (.list (List.replicate k.toNat xs).flatten) else none
  | .mul, .str s, .int k => if k.natAbs < 2 ^ 62 ∧ s.length * k.toNat ≤ LIM then some (.str (Txt.mul s k)) else none
  | .fdiv, .int i, .int j => if 0 < j ∧ j.natAbs < DIVB then some (.int (i / j)) else if j < 0 ∧ j.natAbs < DIVB then some (.int (i.fdiv j)) else none
  | .mod, .int i, .int j => if 0 < j then some (.int (i % j)) else if j < 0 then some (.int (i.fmod j)) else none
  | .pow, .int i, .int j => if 0 ≤ j ∧ j ≤ 1000000 ∧ i.natAbs < 2 ^ 64 then some (.int (i ^ j.toNat)) else none
  | .shl, .int i, .int j => if 0 ≤ j ∧ j ≤ 1000000 ∧ i.natAbs < 2 ^ 64 then some (.int (i * 2 ^ j.toNat)) else none
  | .shr, .int i, .int j => if 0 ≤ j then some (.int (i / 2 ^ j.toNat)) else none
  | .band, .int i, .int j => some (.int (Builtin.bitAnd i j))
  | .bor, .int i, .int j => some (.int (Builtin.bitOr i j))
  | .bxor, .int i, .int j => some (.int (Builtin.bitXor i j))
  | _, _, _ => none

mutual
def noDic : D → Bool
  | .list xs => noDics xs
  | .tuple xs => noDics xs
  | .dict _ => false
  | _ => true
def noDics : List D → Bool
  | [] => true
  | d :: ds => noDic d && noDics ds
end
/-- data that == may look at -/
def shp (d : D) : Bool := SeqAt.shaped d && noDic d
def intsOf : List D → Option (List Int)
  | [] => some []
  | .int i :: r => (intsOf r).map (i :: ·)
  | _ :: _ => none
def boolsOf : List D → Option (List Bool)
  | [] => some []
  | .bool b :: r => (boolsOf r).map (b :: ·)
  | _ :: _ => none
def lexD (xs ys : List D) : Option Bool := (intsOf xs).bind fun ns => (intsOf ys).map fun ms => HT.lexLt ns ms
def isNo : D → Bool
  | .none => true
  | _ => false
def cmpD : COp → D → D → Option Bool
  | .eq, a, b => if shp a = true ∧ shp b = true then some (PyData.eqv a b) else none
  | .ne, a, b => if shp a = true ∧ shp b = true then some (!PyData.eqv a b) else none
  | .lt, .int i, .int j => some (decide (i < j))
  | .le, .int i, .int j => some (decide (i ≤ j))
  | .gt, .int i, .int j => some (decide (j < i))
  | .ge, .int i, .int j => some (decide (j ≤ i))
  | .lt, .tuple xs, .tuple ys => lexD xs ys
  | .isin, a, .list xs => if shp a = true ∧ shp (.list xs) = true then some (xs.any fun y => PyData.eqv y a) else none
  | .isin, a, .tuple xs => if shp a = true ∧ shp (.tuple xs) = true then some (xs.any fun y => PyData.eqv y a) else none
  | .notin, a, .list xs => if shp a = true ∧ shp (.list xs) = true then some (!xs.any fun y => PyData.eqv y a) else none
  | .notin, a, .tuple xs => if shp a = true ∧ shp (.tuple xs) = true then some (!xs.any fun y => PyData.eqv y a) else none
  | .is, a, .none => some (isNo a)
  | .isnot, a, .none => some (!isNo a)
  | .is, .bool a, .bool b => some (decide (a = b))
  | .isnot, .bool a, .bool b => some (!decide (a = b))
  | _, _, _ => none

def Ty.is : Ty → D → Bool
  | .int, .int _ => true
  | .int, .bool _ => true
  | .bool, .bool _ => true
  | .str, .str _ => true
  | .tup, .tuple _ => true
  | .lst, .list _ => true
  | .dic, .dict _ => true
  | .non, .none => true
  | _, _ => false

/-- an item by its number, from the end if below 0 -/
def at? (xs : List D) (i : Int) : Option D := L2.atI xs i
def ixD : D → D → Option D
  | .list xs, .int i => at? xs i
  | .tuple xs, .int i => at? xs i
  | .str s, .int i => if s.length ≤ LIM then (L2.atI s.cps.toList i).map fun c => .str ⟨#[c]⟩ else none
  | _, _ => none
def cut {α : Type} (xs : List α) (lo hi : Option Int) : List α := (xs.drop (HT.sIx xs.length 0 lo)).take (HT.sIx xs.length xs.length hi - HT.sIx xs.length 0 lo)
def slD : D → Option Int → Option Int → Option D
  | .list xs, lo, hi => some (.list (cut xs lo hi))
  | .tuple xs, lo, hi => some (.tuple (cut xs lo hi))
  | _, _, _ => none
def revD : D → Option D
  | .list xs => some (.list xs.reverse)
  | .tuple xs => some (.tuple xs.reverse)
  | _ => none

/-- a dict's literal: its keys are written ints and texts, each once -/
def keyD : D → Bool
  | .int _ => true
  | .str _ => true
  | _ => false
def keyEq : D → D → Bool
  | .int i, .int j => decide (i = j)
  | .str s, .str t => decide (s = t)
  | _, _ => false
def keysOk : List D → Bool
  | [] => true
  | k :: r => keyD k && (r.all fun x => !keyEq k x) && keysOk r
def dicD (ks vs : List D) : Option D := if ks.length = vs.length ∧ ks.length ≤ 15 ∧ keysOk ks = true then some (.dict (ks.zip vs)) else none
def cntD : D → D → Option D
  | .list xs, x => if shp (.list xs) = true ∧ shp x = true then some (.int (xs.countP fun y => PyData.eqv y x : Nat)) else none
  | _, _ => none
def idxD : D → D → Option D
  | .list xs, x => if shp (.list xs) = true ∧ shp x = true then (xs.findIdx? fun y => PyData.eqv y x).map fun j => .int (j : Nat) else none
  | _, _ => none
def strsOf : List D → Option (List Str)
  | [] => some []
  | .str s :: r => (strsOf r).map (s :: ·)
  | _ :: _ => none
def joiD : D → D → Option D
  | .str a, .list xs => (strsOf xs).bind fun ys => if (ys.map (·.length)).sum + ys.length * a.length ≤ 16777216 then some (.str (Txt.join a ys)) else none
  | .str a, .tuple xs => (strsOf xs).bind fun ys => if (ys.map (·.length)).sum + ys.length * a.length ≤ 16777216 then some (.str (Txt.join a ys)) else none
  | _, _ => none
def items : D → Option (List D)
  | .list xs => some xs
  | .tuple xs => some xs
  | _ => none
def leastI : List Int → Int → Int
  | [], m => m
  | x :: r, m => leastI r (if x < m then x else m)
def mostI : List Int → Int → Int
  | [], m => m
  | x :: r, m => mostI r (if m < x then x else m)
def minL : List Int → Option Int
  | [] => none
  | x :: r => some (leastI r x)
def maxL : List Int → Option Int
  | [] => none
  | x :: r => some (mostI r x)
def insI (x : Int) : List Int → List Int
  | [] => [x]
  | y :: r => if x ≤ y then x :: y :: r else y :: insI x r
def sortI : List Int → List Int
  | [] => []
  | x :: r => insI x (sortI r)
def leP (p q : Int × Int) : Bool := decide (p.1 < q.1) || (decide (p.1 = q.1) && decide (p.2 ≤ q.2))
def insP (x : Int × Int) : List (Int × Int) → List (Int × Int)
  | [] => [x]
  | y :: r => if leP x y = true then x :: y :: r else y :: insP x r
def sortP : List (Int × Int) → List (Int × Int)
  | [] => []
  | x :: r => insP x (sortP r)
def prD (p : Int × Int) : D := .tuple [.int p.1, .int p.2]
def pairsOf : List D → Option (List (Int × Int))
  | [] => some []
  | .tuple [.int a, .int b] :: r => (pairsOf r).map ((a, b) :: ·)
  | _ :: _ => none
def sortD (xs : List D) : Option D := match intsOf xs with
  | some ns => some (.list ((sortI ns).map .int))
  | none => (pairsOf xs).map fun ps => .list ((sortP ps).map prD)
def bltD : Blt → List D → Option D
  | .len, [.list xs] => some (.int xs.length)
  | .len, [.tuple xs] => some (.int xs.length)
  | .len, [.str s] => if s.length ≤ LIM then some (.int s.length) else none
  | .abs, [.int i] => some (.int (if i < 0 then -i else i))
  | .int, [.int i] => some (.int i)
  | .int, [.bool b] => some (.int (if b then 1 else 0))
  | .tuple, [.list xs] => some (.tuple xs)
  | .tuple, [.tuple xs] => some (.tuple xs)
  | .list, [.list xs] => some (.list xs)
  | .list, [.tuple xs] => some (.list xs)
  | .sum, [.list xs] => (intsOf xs).map fun ns => .int ns.sum
  | .sum, [.tuple xs] => (intsOf xs).map fun ns => .int ns.sum
  | .min, [.list xs] => (intsOf xs).bind fun ns => (minL ns).map .int
  | .max, [.list xs] => (intsOf xs).bind fun ns => (maxL ns).map .int
  | .min, [.tuple xs] => (intsOf xs).bind fun ns => (minL ns).map .int
  | .max, [.tuple xs] => (intsOf xs).bind fun ns => (maxL ns).map .int
  | .min, [.int i, .int j] => some (.int (if j < i then j else i))
  | .max, [.int i, .int j] => some (.int (if j > i then j else i))
  | .all, [.list xs] => (boolsOf xs).map fun bs => .bool (bs.all id)
  | .any, [.list xs] => (boolsOf xs).map fun bs => .bool (bs.any id)
  | .sorted, [.list xs] => sortD xs
  | .sorted, [.tuple xs] => (intsOf xs).map fun ns => .list ((sortI ns).map .int)
  | _, _ => none

def rangeD (lo : Int) : Nat → Int → List D
  | 0, _ => []
  | n + 1, c => .int lo :: rangeD (lo + c) n c
/-- what a range hands out: where it begins, how many, the step -/
def rngOf : List D → Option (Int × Nat × Int)
  | [.int j] => if j.natAbs < 2 ^ 62 then some (0, j.toNat, 1) else none
  | [.int i, .int j] => if i.natAbs < 2 ^ 62 ∧ j.natAbs < 2 ^ 62 then some (i, (j - i).toNat, 1) else none
  | [.int i, .int j, .int c] => if c = -1 ∧ i.natAbs < 2 ^ 62 ∧ j.natAbs < 2 ^ 62 then some (i, (i - j).toNat, -1) else none
  | _ => none
def enumD (i : Nat) : List D → List D
  | [] => []
  | x :: r => .tuple [.int i, x] :: enumD (i + 1) r
def zipD : List D → List D → List D
  | x :: xs, y :: ys => .tuple [x, y] :: zipD xs ys
  | _, _ => []
def signsD (s : Str) : List D := s.cps.toList.map fun c => .str ⟨#[c]⟩
def walkD : D → Option (List D)
  | .list xs => some xs
  | .tuple xs => some xs
  | .str s => some (signsD s)
  | _ => none

/-! ### the meaning -/
def putV (ρ : Env) (i : Nat) (x : Val) : R Unit := if freeAt ρ i = true then .ok () (ρ.set i (some (match x with | .pv d => .v d | .fr xs => .own xs))) else .bad
def putD (ρ : Env) (i : Nat) (d : D) : R Unit := putV ρ i (.pv d)
def putAll (ρ : Env) : List Nat → List D → R Unit
  | [], [] => .ok () ρ
  | i :: is, d :: ds => (putD ρ i d).bind fun _ ρ => putAll ρ is ds
  | _, _ => .bad
/-- one of several targets: a name [i], or a tuple of names -/
def tgOf : List Nat → Tg
  | [i] => .n i
  | is => .t is
def putN (ρ : Env) : Tg → D → R Unit
  | .n i, d => putD ρ i d
  | .t is, .tuple ds => if ds.length = is.length then putAll ρ is ds else .bad
  | .t is, .list ds => if ds.length = is.length then putAll ρ is ds else .bad
  | _, _ => .bad
def putU (ρ : Env) : List (List Nat) → List D → R Unit
  | [], [] => .ok () ρ
  | t :: ts, d :: ds => (putN ρ (tgOf t) d).bind fun _ ρ => putU ρ ts ds
  | _, _ => .bad
def putT (ρ : Env) : Tg → D → R Unit
  | .n i, d => putD ρ i d
  | .u ts, .tuple ds => if ds.length = ts.length then putU ρ ts ds else .bad
  | .t is, .tuple ds => if ds.length = is.length then putAll ρ is ds else .bad
  | .t is, .list ds => if ds.length = is.length then putAll ρ is ds else .bad
  | _, _ => .bad
def Tg.slots : Tg → List Nat
  | .n i => [i]
  | .t is => is
  | .u ts => ts.flatten

def wipeE (ρ : Env) : List Nat → Env
  | [] => ρ
  | i :: is => (wipeE ρ is).set i none
def backE (ρ ρ' : Env) : List Nat → Env
  | [] => ρ'
  | i :: is => (backE ρ ρ' is).set i (ρ.getD i none)
def plainAt (ρ : Env) (is : List Nat) : Bool := is.all fun i => match ρ[i]? with
  | some none => true
  | some (some (.v _)) => true
  | _ => false
/-- one turn of a comprehension: its own names apart -/
def lcTurn (tg : Tg) (ev : Env → R (Option D)) (x : D) (ρ : Env) : R (Option D) := if plainAt ρ tg.slots = true then
    (putT (wipeE ρ tg.slots) tg x).bind fun _ ρ2 => (ev ρ2).bind fun o ρ3 => .ok o (backE ρ ρ3 tg.slots)
  else .bad
def consO (o : Option D) (r : List D) : List D := match o with
  | some y => y :: r
  | none => r
@[simp] theorem consO_some (y : D) (r : List D) : consO (some y) r = y :: r := rfl
@[simp] theorem consO_none (r : List D) : consO none r = r := rfl
/-- a list comprehension's turns -/
def lcGo (f : D → Env → R (Option D)) : List D → Env → R (List D)
  | [], ρ => .ok [] ρ
  | x :: xs, ρ => (f x ρ).bind fun o ρ => (lcGo f xs ρ).bind fun r ρ => .ok (consO o r) ρ
def forGo (f : D → Env → SR) : List D → Env → SR
  | [], ρ => .nx ρ
  | x :: xs, ρ => match f x ρ with
    | .nx ρ => forGo f xs ρ
    | .ct ρ => forGo f xs ρ
    | .brk ρ => .nx ρ
    | r => r
def whlF (c : Env → R Bool) (b : Env → SR) : Nat → Env → Option SR
  | 0, _ => none
  | n + 1, ρ => match c ρ with
    | .ok true ρ => (match b ρ with
      | .nx ρ => whlF c b n ρ
      | .ct ρ => whlF c b n ρ
      | .brk ρ => some (.nx ρ)
      | r => some r)
    | .ok false ρ => some (.nx ρ)
    | .exc c x ρ => some (.exc c x ρ)
    | .bad => some .bad
open Classical in
noncomputable def whl (c : Env → R Bool) (b : Env → SR) (ρ : Env) : SR := if h : ∃ n r, whlF c b n ρ = some r then h.choose_spec.choose else .bad
theorem whlF_mono {c : Env → R Bool} {b : Env → SR} : ∀ {n m : Nat} {ρ : Env} {r : SR}, whlF c b n ρ = some r → n ≤ m → whlF c b m ρ = some r
  | 0, _, _, _, h, _ => by cases h
  | n + 1, 0, _, _, _, hm => by omega
  | n + 1, m + 1, ρ, r, h, hm => by
    unfold whlF at h ⊢
    cases hc : c ρ with
    | ok x ρ1 =>
      rw [hc] at h
      cases x with
      | false => exact h
      | true =>
        cases hb : b ρ1 with
        | nx ρ2 => simp only [hb] at h ⊢; exact whlF_mono h (by omega)
        | ct ρ2 => simp only [hb] at h ⊢; exact whlF_mono h (by omega)
        | brk ρ2 => simp only [hb] at h ⊢; exact h
        | ret x ρ2 => simp only [hb] at h ⊢; exact h
        | exc a x ρ2 => simp only [hb] at h ⊢; exact h
        | bad => simp only [hb] at h ⊢; exact h
    | exc a x ρ1 => rw [hc] at h; exact h
    | bad => rw [hc] at h; exact h
theorem whl_of {c : Env → R Bool} {b : Env → SR} {n : Nat} {ρ : Env} {r : SR} (h : whlF c b n ρ = some r) : whl c b ρ = r := by
  have hx : ∃ n r, whlF c b n ρ = some r := ⟨n, r, h⟩
  unfold whl
  rw [dif_pos hx]
  have h2 := hx.choose_spec.choose_spec
  have h3 := whlF_mono h (Nat.le_max_left n hx.choose)
  have h4 := whlF_mono h2 (Nat.le_max_right n hx.choose)
  rw [h3] at h4
  exact (Option.some.inj h4).symm
/-- if it ends other than bad, it ends in some number of turns -/
theorem whl_ends {c : Env → R Bool} {b : Env → SR} {ρ : Env} (h : whl c b ρ ≠ .bad) : ∃ n, whlF c b n ρ = some (whl c b ρ) := by
  unfold whl at h ⊢
  by_cases hx : ∃ n r, whlF c b n ρ = some r
  · rw [dif_pos hx]
    exact ⟨_, hx.choose_spec.choose_spec⟩
  · rw [dif_neg hx] at h
    exact absurd rfl h
theorem whl_step (c : Env → R Bool) (b : Env → SR) (ρ : Env) : whl c b ρ = (match c ρ with
    | .ok true ρ => (match b ρ with
      | .nx ρ => whl c b ρ
      | .ct ρ => whl c b ρ
      | .brk ρ => .nx ρ
      | r => r)
    | .ok false ρ => .nx ρ
    | .exc c x ρ => .exc c x ρ
    | .bad => .bad) := by
  have key : ∀ ρ1 ρ2, c ρ = .ok true ρ1 → (b ρ1 = .nx ρ2 ∨ b ρ1 = .ct ρ2) → whl c b ρ = whl c b ρ2 := fun ρ1 ρ2 hc hb => by
    by_cases hx : ∃ n r, whlF c b n ρ2 = some r
    · obtain ⟨n, r, h⟩ := hx
      rw [whl_of h]
      refine whl_of (n := n + 1) ?_
      unfold whlF
      rcases hb with hb | hb <;> simp only [hc, hb] <;> exact h
    · have hy : ¬ ∃ n r, whlF c b n ρ = some r := fun ⟨n, r, h⟩ => by
        cases n with
        | zero => cases h
        | succ n =>
          unfold whlF at h
          rcases hb with hb | hb <;> simp only [hc, hb] at h <;> exact hx ⟨n, r, h⟩
      unfold whl
      rw [dif_neg hx, dif_neg hy]
  cases hc : c ρ with
  | ok x ρ1 =>
    cases x with
    | false => exact whl_of (n := 1) (by unfold whlF; simp only [hc])
    | true =>
      cases hb : b ρ1 with
      | nx ρ2 => simp only [hb]; exact key ρ1 ρ2 hc (.inl hb)
      | ct ρ2 => simp only [hb]; exact key ρ1 ρ2 hc (.inr hb)
      | brk ρ2 => exact whl_of (n := 1) (by unfold whlF; simp only [hc, hb])
      | ret x ρ2 => exact whl_of (n := 1) (by unfold whlF; simp only [hc, hb])
      | exc a x ρ2 => exact whl_of (n := 1) (by unfold whlF; simp only [hc, hb])
      | bad => exact whl_of (n := 1) (by unfold whlF; simp only [hc, hb])
  | exc a x ρ1 => exact whl_of (n := 1) (by unfold whlF; simp only [hc])
  | bad => exact whl_of (n := 1) (by unfold whlF; simp only [hc])
end Pv
namespace Pv
open PySem
/-- what a lambda's call comes to -/
inductive Out where
  | ok
  | exc (c : Nat) (x : Option D)
/-- a clause of a try: the class, the name's place, the suite -/
structure Hd where
  c : Nat
  as : Option Nat
  b : Ss
/-- a def that calls what it is handed, in a try: a constant stored ahead, the clauses, what follows -/
structure WFn where
  nl : Nat
  pre : Option (Nat × D)
  hs : List Hd
  post : Ss
/-- the module's constants; the defs that take a lambda; how many classes of exceptions -/
structure Gls where
  g : Nat → Option D
  w : Nat → Option WFn
  nx : Nat
instance : CoeFun Gls fun _ => Nat → Option D := ⟨Gls.g⟩
/-- the program: what a call gives (by number of def and arguments' places), a call two levels down; the exception that is held: its place, class, datum; the module -/
structure Cfg where
  call : Nat → List Slot → FR
  lowc : Nat → List Slot → FR
  wrd : Nat → Out → FR
  ex : Option (Nat × Nat × Option D)
  gl : Gls
/-- in a lambda -/
def Cfg.low (C : Cfg) : Cfg := ⟨C.lowc, fun _ _ => .bad, fun _ _ => .bad, none, C.gl⟩
/-- is the class c under the class c' (0: the package's base, under ValueError) -/
def isub (c c' : Nat) : Bool := c == c' || c' == 0
def isubO (c : Nat) : Option Nat → Bool
  | some c' => isub c c'
  | none => true
/-- a name's value handed on -/
def readV (ρ : Env) (i : Nat) : R Val := match ρ[i]? with
  | some (some (.raw _)) => .bad
  | some (some (.xc _)) => .bad
  | some (some s) => .ok (.pv s.dat) (ρ.set i (some s.frozen))
  | _ => .bad
/-- a name's value looked at -/
def lookV (ρ : Env) (i : Nat) : R D := match ρ[i]? with
  | some (some (.raw _)) => .bad
  | some (some (.xc _)) => .bad
  | some (some s) => .ok s.dat ρ
  | _ => .bad
def truB : D → Option Bool
  | .none => some false
  | .bool b => some b
  | .int i => some (i != 0)
  | .list xs => some (!xs.isEmpty)
  | .tuple xs => some (!xs.isEmpty)
  | _ => none
def bindD {β : Type} (r : R Val) (f : D → Env → R β) : R β := r.bind fun x ρ => f x.dat ρ
@[simp] theorem bindD_ok {β : Type} (a : Val) (ρ : Env) (f : D → Env → R β) : bindD (R.ok a ρ) f = f a.dat ρ := rfl
@[simp] theorem bindD_exc {β : Type} (c : Nat) (x : Option D) (ρ : Env) (f : D → Env → R β) : bindD (R.exc c x ρ) f = .exc c x ρ := rfl
@[simp] theorem bindD_bad {β : Type} (f : D → Env → R β) : bindD (R.bad) f = .bad := rfl
/-- a value, whoever holds it -/
def dd (r : R Val) : R D := bindD r fun x ρ => .ok x ρ
/-- an operand that is looked at alone -/
def pk (o : Option Nat) (ev : Env → R Val) (ρ : Env) : R D := match o with
  | some i => lookV ρ i
  | none => dd (ev ρ)
/-- behind a call: the caller's place -/
def backS (ρ : Env) : Option Nat → Option Slot → Option Env
  | none, _ => some ρ
  | some i, some s' => (match ρ[i]?, s' with
    | some (some (.own _)), .io xs => some (ρ.set i (some (.own xs)))
    | some (some (.own _)), .fz xs => some (ρ.set i (some (.v (.list xs))))
    | some (some (.io _)), .io xs => some (ρ.set i (some (.io xs)))
    | some (some (.io _)), .fz xs => some (ρ.set i (some (.fz xs)))
    | _, _ => none)
  | some _, none => none
def backR (p : Option Nat) (ρ : Env) : FR → R Val
  | .ret x o => (match backS ρ p o with
    | some ρ => .ok x ρ
    | none => .bad)
  | .exc c x o => (match backS ρ p o with
    | some ρ => .exc c x ρ
    | none => .bad)
  | .bad => .bad
/-- the first argument, where a name with a list of its own stands there -/
def ioArg (ρ : Env) (i : Nat) : Option (List D) := match ρ[i]? with
  | some (some (.own xs)) => some xs
  | some (some (.io xs)) => some xs
  | _ => none
def cioGo (call : List Slot → FR) (i : Nat) (args : Env → R (List D)) (ρ : Env) : R Val := match ioArg ρ i with
  | some _ => (args ρ).bind fun ds ρ => (match ioArg ρ i with
    | some xs => backR (some i) ρ (call (.io xs :: ds.map .v))
    | none => .bad)
  | none => bindD (readV ρ i) fun x ρ => (args ρ).bind fun ds ρ => backR none ρ (call (.v x :: ds.map .v))
def scrV (ρ : Env) (i : Nat) (n : Int) : R Val := match ρ[i]? with
  | some (some (.raw xs)) => .ok (.fr (cut xs none (some n))) ρ
  | _ => .bad
def crawGo (call : List Slot → FR) (i : Nat) (ρ : Env) : R Val := match ρ[i]? with
  | some (some (.raw xs)) => backR none ρ (call [.raw xs])
  | _ => .bad
def negD : D → Option D
  | .int i => some (.int (-i))
  | _ => none
def notD : D → Option D
  | .bool b => some (.bool (!b))
  | _ => none
def andD (x : D) (k : R Val) (ρ : Env) : R Val := match x with
  | .bool true => k
  | .bool false => .ok (.pv (.bool false)) ρ
  | _ => .bad
def orD (x : D) (k : R Val) (ρ : Env) : R Val := match x with
  | .bool false => k
  | .bool true => .ok (.pv (.bool true)) ρ
  | _ => .bad
def chainD (o : Option Bool) (k : R Val) (ρ : Env) : R Val := match o with
  | some true => k
  | some false => .ok (.pv (.bool false)) ρ
  | none => .bad
def isNop : E → Bool
  | .nop => true
  | _ => false
def partO (b : Bool) (x : D) : Option (Option Int) := match b with
  | true => some none
  | false => (match x with
    | .int i => some (some i)
    | _ => none)
def partR (b : Bool) (r : R Val) : R (Option Int) := bindD r fun d ρ => R.ofO (partO b d) ρ
def bltV : Blt → D → Val
  | .list, .list xs => .fr xs
  | .sorted, .list xs => .fr xs
  | _, d => .pv d
def tupV (ds : List D) (ρ : Env) : R Val := if ds.length ≤ LIM then .ok (.pv (.tuple ds)) ρ else .bad
def lstV (ds : List D) (ρ : Env) : R Val := if ds.length ≤ LIM then .ok (.fr ds) ρ else .bad
def lcEnd : R (List D) → R Val
  | .ok ys ρ => lstV ys ρ
  | _ => .bad
def zipO : D → D → Option (List D)
  | .list xs, .list ys => some (zipD xs ys)
  | .tuple xs, .tuple ys => some (zipD xs ys)
  | _, _ => none
def enumO : D → Option (List D)
  | .list xs => some (enumD 0 xs)
  | .tuple xs => some (enumD 0 xs)
  | _ => none
def iteR {β : Type} (t : Bool) (a b : R β) : R β := match t with
  | true => a
  | false => b
@[simp] theorem iteR_t {β : Type} (a b : R β) : iteR true a b = a := rfl
@[simp] theorem iteR_f {β : Type} (a b : R β) : iteR false a b = b := rfl

def lsR {β : Type} : D → R β → R β
  | .list _, r => r
  | _, _ => .bad
@[simp] theorem lsR_l {β : Type} (xs : List D) (r : R β) : lsR (.list xs) r = r := rfl
def stR {β : Type} : D → R β → R β
  | .str _, r => r
  | _, _ => .bad
@[simp] theorem stR_s {β : Type} (x : Str) (r : R β) : stR (.str x) r = r := rfl
/-- isinstance(e, X), e the exception that is held -/
def isxV (C : Cfg) (ρ : Env) (i : Nat) (c' : Option Nat) : R Val := match ρ[i]?, C.ex with
  | some (some (.xc a)), some (b, c, none) => if a = b then .ok (.pv (.bool (isubO c c'))) ρ else .bad
  | _, _ => .bad
/-- e.f -/
def fldV (_ : Cfg) (_ : Env) (_ : Nat) (_ : Str) : R Val := .bad
/-- a lambda's end, as the def that takes it sees it -/
def outL (r : R Val) (k : Out → Env → R Val) : R Val := match r with
  | .ok _ ρ => k .ok ρ
  | .exc c x ρ => k (.exc c x) ρ
  | .bad => .bad
@[simp] theorem outL_ok (v : Val) (ρ : Env) (k : Out → Env → R Val) : outL (.ok v ρ) k = k .ok ρ := rfl
@[simp] theorem outL_exc (c : Nat) (x : Option D) (ρ : Env) (k : Out → Env → R Val) : outL (.exc c x ρ) k = k (.exc c x) ρ := rfl
@[simp] theorem outL_bad (k : Out → Env → R Val) : outL .bad k = .bad := rfl
mutual
noncomputable def evE : Cfg → E → Env → R Val
  | C, .nop, ρ => .ok (.pv .none) ρ
  | C, .v i, ρ => readV ρ i
  | C, .k d, ρ => .ok (.pv d) ρ
  | C, .g j, ρ => R.ofO ((C.gl j).map .pv) ρ
  | C, .bin o a b, ρ => bindD (evE C a ρ) fun x ρ => bindD (evE C b ρ) fun y ρ => R.ofO ((binD o x y).map frV) ρ
  | C, .neg a, ρ => bindD (evE C a ρ) fun x ρ => R.ofO ((negD x).map .pv) ρ
  | C, .not a, ρ => bindD (evE C a ρ) fun x ρ => R.ofO ((notD x).map .pv) ρ
  | C, .and a b, ρ => bindD (evE C a ρ) fun x ρ => andD x (evE C b ρ) ρ
  | C, .or a b, ρ => bindD (evE C a ρ) fun x ρ => orD x (evE C b ρ) ρ
  | C, .cmp o a b, ρ => bindD (evE C a ρ) fun x ρ => (pk (isV b) (fun ρ => evE C b ρ) ρ).bind fun y ρ => R.ofO ((cmpD o x y).map fun b => .pv (.bool b)) ρ
  | C, .chain o p a b c, ρ => bindD (evE C a ρ) fun x ρ => bindD (evE C b ρ) fun y ρ => chainD (cmpD o x y) (bindD (evE C c ρ) fun z ρ => R.ofO ((cmpD p y z).map fun b => .pv (.bool b)) ρ) ρ
  | C, .ife c a b, ρ => (evT C c ρ).bind fun t ρ => iteR t (evE C a ρ) (evE C b ρ)
  | C, .tup es, ρ => (evA C es ρ).bind fun ds ρ => tupV ds ρ
  | C, .lst es, ρ => (evA C es ρ).bind fun ds ρ => lstV ds ρ
  | C, .ix a i, ρ => bindD (evE C a ρ) fun x ρ => bindD (evE C i ρ) fun y ρ => R.ofO ((ixD x y).map .pv) ρ
  | C, .ixv j i, ρ => (lookV ρ j).bind fun _ ρ => bindD (evE C i ρ) fun y ρ => (lookV ρ j).bind fun x ρ => R.ofO ((ixD x y).map .pv) ρ
  | C, .sl a lo hi, ρ => bindD (evE C a ρ) fun x ρ => (partR (isNop lo) (evE C lo ρ)).bind fun l ρ => (partR (isNop hi) (evE C hi ρ)).bind fun h ρ => R.ofO ((slD x l h).map frV) ρ
  | C, .slv j lo hi, ρ => (lookV ρ j).bind fun _ ρ => (partR (isNop lo) (evE C lo ρ)).bind fun l ρ => (partR (isNop hi) (evE C hi ρ)).bind fun h ρ => (lookV ρ j).bind fun x ρ => R.ofO ((slD x l h).map frV) ρ
  | C, .rev a, ρ => (pk (isV a) (fun ρ => evE C a ρ) ρ).bind fun x ρ => R.ofO ((revD x).map frV) ρ
  | C, .call j es, ρ => (evA C es ρ).bind fun ds ρ => backR none ρ (C.call j (ds.map .v))
  | C, .cio j i es, ρ => cioGo (C.call j) i (fun ρ => evA C es ρ) ρ
  | C, .craw j i, ρ => crawGo (C.call j) i ρ
  | C, .scr i n, ρ => scrV ρ i n
  | C, .b1 b a, ρ => (pk (isV a) (fun ρ => evE C a ρ) ρ).bind fun x ρ => R.ofO ((bltD b [x]).map (bltV b)) ρ
  | C, .b2 b a c, ρ => bindD (evE C a ρ) fun x ρ => bindD (evE C c ρ) fun y ρ => R.ofO ((bltD b [x, y]).map .pv) ρ
  | C, .isi a ts, ρ => (pk (isV a) (fun ρ => evE C a ρ) ρ).bind fun x ρ => .ok (.pv (.bool (ts.any fun t => t.is x))) ρ
  | C, .lc elt tg it c, ρ => (evI C it ρ).bind fun xs ρ => lcEnd (lcGo (lcTurn tg fun ρ => (evT C c ρ).bind fun t ρ => iteR t (bindD (evE C elt ρ) fun y ρ => .ok (some y) ρ) (.ok none ρ)) xs ρ)
  | C, .lam j e, ρ => outL (evE C.low e ρ) fun o ρ => backR none ρ (C.wrd j o)
  | C, .isx i c, ρ => isxV C ρ i c
  | C, .fld i f, ρ => fldV C ρ i f
  | C, .dic ks es, ρ => (evA C es ρ).bind fun ds ρ => R.ofO ((dicD ks ds).map .pv) ρ
  | C, .cnt a x, ρ => (pk (isV a) (fun ρ => evE C a ρ) ρ).bind fun y ρ => lsR y ((pk (isV x) (fun ρ => evE C x ρ) ρ).bind fun z ρ => R.ofO ((cntD y z).map .pv) ρ)
  | C, .idx a x, ρ => (pk (isV a) (fun ρ => evE C a ρ) ρ).bind fun y ρ => lsR y ((pk (isV x) (fun ρ => evE C x ρ) ρ).bind fun z ρ => R.ofO ((idxD y z).map .pv) ρ)
  | C, .joi a b, ρ => bindD (evE C a ρ) fun x ρ => stR x (bindD (evE C b ρ) fun y ρ => R.ofO ((joiD x y).map .pv) ρ)
noncomputable def evT : Cfg → T → Env → R Bool
  | C, .e a, ρ => (pk (isV a) (fun ρ => evE C a ρ) ρ).bind fun x ρ => R.ofO (truB x) ρ
  | C, .and a b, ρ => (evT C a ρ).bind fun x ρ => iteR x (evT C b ρ) (.ok false ρ)
  | C, .or a b, ρ => (evT C a ρ).bind fun x ρ => iteR x (.ok true ρ) (evT C b ρ)
  | C, .not a, ρ => (evT C a ρ).bind fun x ρ => .ok (!x) ρ
  | C, .yes, ρ => .ok true ρ
noncomputable def evA : Cfg → Es → Env → R (List D)
  | C, .nil, ρ => .ok [] ρ
  | C, .cons e es, ρ => bindD (evE C e ρ) fun x ρ => (evA C es ρ).bind fun xs ρ => .ok (x :: xs) ρ
noncomputable def evI : Cfg → It → Env → R (List D)
  | C, .rng es, ρ => (evA C es ρ).bind fun ds ρ => R.ofO ((rngOf ds).map fun p => rangeD p.1 p.2.1 p.2.2) ρ
  | C, .of e, ρ => bindD (evE C e ρ) fun x ρ => R.ofO (walkD x) ρ
  | C, .zip a b, ρ => bindD (evE C a ρ) fun x ρ => bindD (evE C b ρ) fun y ρ => R.ofO (zipO x y) ρ
  | C, .enum a, ρ => bindD (evE C a ρ) fun x ρ => R.ofO (enumO x) ρ
end

/-- values in a row, each as it is -/
noncomputable def evVs (C : Cfg) : Es → Env → R (List Val)
  | .nil, ρ => .ok [] ρ
  | .cons e es, ρ => (evE C e ρ).bind fun x ρ => (evVs C es ρ).bind fun xs ρ => .ok (x :: xs) ρ
def putVs (ρ : Env) : List Nat → List Val → R Unit
  | [], [] => .ok () ρ
  | i :: is, x :: xs => (putV ρ i x).bind fun _ ρ => putVs ρ is xs
  | _, _ => .bad
/-! ### statements -/
def iteS (t : Bool) (a b : SR) : SR := match t with
  | true => a
  | false => b
@[simp] theorem iteS_t (a b : SR) : iteS true a b = a := rfl
@[simp] theorem iteS_f (a b : SR) : iteS false a b = b := rfl
def setAt? (xs : List D) (i : Int) (d : D) : Option (List D) := (L2.ixN xs.length i).map fun j => xs.set j d
def putX (ρ : Env) (i : Nat) (x d : D) : SR := match ρ[i]?, x with
  | some (some (.own xs)), .int j => (match setAt? xs j d with
    | some ys => .nx (ρ.set i (some (.own ys)))
    | none => .bad)
  | some (some (.io xs)), .int j => (match setAt? xs j d with
    | some ys => .nx (ρ.set i (some (.io ys)))
    | none => .bad)
  | _, _ => .bad
def addX (ρ : Env) (i : Nat) (d : D) : SR := match ρ[i]? with
  | some (some (.own xs)) => if xs.length < LIM then .nx (ρ.set i (some (.own (xs ++ [d])))) else .bad
  | some (some (.io xs)) => if xs.length < LIM then .nx (ρ.set i (some (.io (xs ++ [d])))) else .bad
  | _ => .bad
/-- a list put behind a list of our own -/
def extX (ρ : Env) (i : Nat) (d : D) : SR := match ρ[i]?, d with
  | some (some (.own xs)), .list ys => if xs.length + ys.length ≤ LIM then .nx (ρ.set i (some (.own (xs ++ ys)))) else .bad
  | some (some (.io xs)), .list ys => if xs.length + ys.length ≤ LIM then .nx (ρ.set i (some (.io (xs ++ ys)))) else .bad
  | _, _ => .bad
def toNx (r : R Unit) : SR := r.toS fun _ ρ => .nx ρ
def asgV (ρ : Env) : Tg → Val → SR
  | .n i, x => toNx (putV ρ i x)
  | t, x => toNx (putT ρ t x.dat)
/-- the def's end by a name's value: its own list goes out with nobody else holding it -/
def retV (ρ : Env) (i : Nat) : SR := match ρ[i]? with
  | some (some (.own xs)) => .ret (.fr xs) (ρ.set i none)
  | some (some (.raw _)) => .bad
  | some (some (.xc _)) => .bad
  | some (some s) => .ret (.pv s.dat) (ρ.set i (some s.frozen))
  | _ => .bad
def augD : BOp → D → D → Option D
  | .add, .int i, .int j => some (.int (i + j))
  | .sub, .int i, .int j => some (.int (i - j))
  | _, _, _ => none
section
variable (C : Cfg)
mutual
noncomputable def evS : S → Env → SR
  | .asg t e, ρ => (evE C e ρ).toS fun x ρ => asgV ρ t x
  | .par is es, ρ => (evVs C es ρ).toS fun xs ρ => toNx (putVs ρ is xs)
  | .set i x e, ρ => (bindD (evE C e ρ) fun d ρ => (lookV ρ i).bind fun _ ρ => bindD (evE C x ρ) fun j ρ => .ok (d, j) ρ).toS fun p ρ => putX ρ i p.2 p.1
  | .aug i o e, ρ => ((lookV ρ i).bind fun x ρ => bindD (evE C e ρ) fun y ρ => R.ofO (augD o x y) ρ).toS fun z ρ => toNx (putD ρ i z)
  | .app i e, ρ => (R.ofO (ioArg ρ i) ρ).toS fun _ ρ => (dd (evE C e ρ)).toS fun y ρ => addX ρ i y
  | .ext i e, ρ => (R.ofO (ioArg ρ i) ρ).toS fun _ ρ => (dd (evE C e ρ)).toS fun y ρ => extX ρ i y
  | .raisex _ _, _ => .bad
  | .expr e, ρ => (evE C e ρ).toS fun _ ρ => .nx ρ
  | .ite c a b, ρ => (evT C c ρ).toS fun t ρ => iteS t (evSs a ρ) (evSs b ρ)
  | .whl c b, ρ => Pv.whl (fun ρ => evT C c ρ) (fun ρ => evSs b ρ) ρ
  | .for_ t it b, ρ => (evI C it ρ).toS fun xs ρ => forGo (fun x ρ => (putT ρ t x).toS fun _ ρ => evSs b ρ) xs ρ
  | .ret e, ρ => (evE C e ρ).toS fun x ρ => .ret x ρ
  | .retv i, ρ => retV ρ i
  | .retN, ρ => .ret (.pv .none) ρ
  | .raise c, ρ => .exc c none ρ
  | .pass, ρ => .nx ρ
  | .brk, ρ => .brk ρ
  | .ct, ρ => .ct ρ
noncomputable def evSs : Ss → Env → SR
  | .nil, ρ => .nx ρ
  | .cons s r, ρ => (evS s ρ).bind fun ρ => evSs r ρ
end
end

/-! ### defs -/
/-- a def: how many parameters, how many names, its body -/
structure Fn where
  ar : Nat
  nl : Nat
  body : Ss
def outOf (as : List Slot) (ρ : Env) : Option (Option Slot) := match as with
  | .io _ :: _ => (match ρ.getD 0 none with
    | some (.io xs) => some (some (.io xs))
    | some (.fz xs) => some (some (.fz xs))
    | _ => none)
  | _ => some none
def finR (as : List Slot) : SR → FR
  | .nx ρ => (match outOf as ρ with
    | some o => .ret (.pv .none) o
    | none => .bad)
  | .ret x ρ => (match outOf as ρ with
    | some o => .ret x o
    | none => .bad)
  | .exc c x ρ => (match outOf as ρ with
    | some o => .exc c x o
    | none => .bad)
  | _ => .bad
def argOk : List Slot → Bool
  | [] => true
  | .v _ :: r => r.all fun s => match s with
    | .v _ => true
    | _ => false
  | .io _ :: r => r.all fun s => match s with
    | .v _ => true
    | _ => false
  | [.raw _] => true
  | _ => false
/-- a clause's name goes -/
def unx (i : Nat) : SR → SR
  | .nx ρ => .nx (ρ.set i none)
  | .ret x ρ => .ret x (ρ.set i none)
  | _ => .bad
def noC (gl : Gls) (ex : Option (Nat × Nat × Option D)) : Cfg := ⟨fun _ _ => .bad, fun _ _ => .bad, fun _ _ => .bad, ex, gl⟩
noncomputable def hdRun (gl : Gls) (a c : Nat) (x : Option D) : List Hd → Env → SR
  | [], _ => .bad
  | h :: r, ρ => if isub c h.c = true then (match h.as with
      | none => evSs (noC gl none) h.b ρ
      | some i => if freeAt ρ i = true then unx i (evSs (noC gl (some (a, c, x))) h.b (ρ.set i (some (.xc a)))) else .bad)
    else hdRun gl a c x r ρ
def wEnv (w : WFn) : Env := match w.pre with
  | none => List.replicate w.nl none
  | some (i, d) => (List.replicate w.nl none).set i (some (.v d))
/-- a def that takes a lambda, by what the lambda comes to -/
noncomputable def wrun (gl : Gls) (w : WFn) (o : Out) (a : Nat) : SR := match o with
  | .ok => evSs (noC gl none) w.post (wEnv w)
  | .exc c x => if c < gl.nx then (hdRun gl a c x w.hs (wEnv w)).bind fun ρ => evSs (noC gl none) w.post ρ else .bad
def valR : SR → Option D
  | .ret (.pv d) _ => some d
  | .nx _ => some .none
  | _ => none
open Classical in
noncomputable def wrdOf (gl : Gls) (j : Nat) (o : Out) : FR := match gl.w j with
  | some w => if h : ∃ d, ∀ a, valR (wrun gl w o a) = some d then .ret (.pv h.choose) none else .bad
  | none => .bad
theorem wrd_of {gl : Gls} {j : Nat} {o : Out} {w : WFn} {d : D} (hw : gl.w j = some w) (h : ∀ a, valR (wrun gl w o a) = some d) : wrdOf gl j o = .ret (.pv d) none := by
  have hx : ∃ d, ∀ a, valR (wrun gl w o a) = some d := ⟨d, h⟩
  unfold wrdOf
  rw [hw]
  dsimp only
  rw [dif_pos hx]
  have e := hx.choose_spec 0
  rw [h 0] at e
  rw [← Option.some.inj e]
theorem wrd_inv {gl : Gls} {j : Nat} {o : Out} {w : WFn} (hw : gl.w j = some w) : wrdOf gl j o = .bad ∨ ∃ d, wrdOf gl j o = .ret (.pv d) none ∧ ∀ a, valR (wrun gl w o a) = some d := by
  unfold wrdOf
  rw [hw]
  dsimp only
  by_cases h : ∃ d, ∀ a, valR (wrun gl w o a) = some d
  · rw [dif_pos h]
    exact .inr ⟨_, rfl, h.choose_spec⟩
  · rw [dif_neg h]
    exact .inl rfl
theorem wrd_none {gl : Gls} {j : Nat} {o : Out} (hw : gl.w j = none) : wrdOf gl j o = .bad := by
  unfold wrdOf
  rw [hw]
/-- a lambda wants two levels -/
noncomputable def wrdN (gl : Gls) : Nat → Nat → Out → FR
  | _ + 2 => wrdOf gl
  | _ => fun _ _ => .bad
theorem wrdN_ge {gl : Gls} {n : Nat} (h : 2 ≤ n) : wrdN gl n = wrdOf gl := by
  match n, h with
  | _ + 2, _ => rfl
/-- a def's run, calls nested n deep at the most; the run one and two levels down -/
noncomputable def runs (P : List Fn) (gl : Gls) : Nat → (Nat → List Slot → FR) × (Nat → List Slot → FR) × (Nat → List Slot → FR)
  | 0 => (fun _ _ => .bad, fun _ _ => .bad, fun _ _ => .bad)
  | n + 1 => (fun j as => match P[j]? with
    | some f => if as.length = f.ar ∧ argOk as = true then finR as (evSs ⟨(runs P gl n).1, (runs P gl n).2.2, wrdN gl n, none, gl⟩ f.body (as.map some ++ List.replicate (f.nl - f.ar) none)) else .bad
    | none => .bad, (runs P gl n).1, (runs P gl n).2.1)
noncomputable def run (P : List Fn) (gl : Gls) (n : Nat) : Nat → List Slot → FR := (runs P gl n).1
/-- the configuration of a def's body -/
noncomputable abbrev cf (P : List Fn) (gl : Gls) (n : Nat) : Cfg := ⟨run P gl n, run P gl (n - 2), wrdN gl n, none, gl⟩
theorem runs_low (P : List Fn) (gl : Gls) : ∀ n, (runs P gl n).2.2 = run P gl (n - 2)
  | 0 => rfl
  | 1 => rfl
  | _ + 2 => rfl
theorem run_eq (P : List Fn) (gl : Gls) (n j : Nat) (as : List Slot) : run P gl (n + 1) j as = (match P[j]? with
    | some f => if as.length = f.ar ∧ argOk as = true then finR as (evSs (cf P gl n) f.body (as.map some ++ List.replicate (f.nl - f.ar) none)) else .bad
    | none => .bad) := by
  show (match P[j]? with
    | some f => if as.length = f.ar ∧ argOk as = true then finR as (evSs ⟨(runs P gl n).1, (runs P gl n).2.2, wrdN gl n, none, gl⟩ f.body (as.map some ++ List.replicate (f.nl - f.ar) none)) else .bad
    | none => .bad) = _
  rw [runs_low]
  rfl
theorem run_zero (P : List Fn) (gl : Gls) (j : Nat) (as : List Slot) : run P gl 0 j as = .bad := rfl
end Pv

namespace Pv
open PySem L2

/-! ### what stands for what -/
abbrev Tls := List (Addr × Str)
/-- the classes' places; the tables of code objects -/
structure XAt (τ : Tls) where
  at_ : Nat → Addr
instance {τ : Tls} : CoeFun (XAt τ) fun _ => Nat → Addr := ⟨XAt.at_⟩
/-- nothing but a table stands at p -/
def NT (H : Hp) (p : Addr) : Prop := ∀ o, H p = some o → ∃ ps, o = .tbl ps
theorem NT.of_none {H : Hp} {p : Addr} (h : H p = none) : NT H p := fun o e => by rw [h] at e; cases e
theorem NT.lst {H : Hp} {p : Addr} {us : List V} (h : H p = some (.lst us)) : ¬ NT H p := fun z => by
  obtain ⟨ps, e⟩ := z _ h
  cases e
theorem NT.not_some {H : Hp} {p : Addr} {o : HO} (h : H p = some o) (ho : ∀ ps, o ≠ .tbl ps) : ¬ NT H p := fun z => by
  obtain ⟨ps, e⟩ := z _ h
  exact ho ps e
theorem NT.not {H : Hp} {p : Addr} (h : ¬ NT H p) : ∃ o, H p = some o ∧ ∀ ps, o ≠ .tbl ps := by
  cases e : H p with
  | none => exact absurd (NT.of_none e) h
  | some o =>
    refine ⟨o, rfl, fun ps z => h fun o' e' => ?_⟩
    rw [e] at e'
    cases e'
    exact ⟨ps, z⟩
def keyOf : L2.Key → D
  | .inl i => .int i
  | .inr s => .str s
def Ex (H H' : Hp) : Prop := ∀ a o, H a = some o → H' a = some o
theorem Ex.refl (H : Hp) : Ex H H := fun _ _ h => h
theorem Ex.trans {H H1 H2 : Hp} (a : Ex H H1) (b : Ex H1 H2) : Ex H H2 := fun x o h => b x o (a x o h)
theorem Ex.new {H : Hp} {p : Addr} {o : HO} (h : H p = none) : Ex H (upd H p o) := fun a u e => by
  rw [upd_ne (ne_of_none e h)]
  exact e
theorem Ex.rd {H H' : Hp} {a : Addr} {u : HO} (e : Ex H H') (h : Rd H a u) : Rd H' a u := by
  rcases h with h | ⟨o, h⟩
  · exact Or.inl (e a _ h)
  · exact Or.inr ⟨o, e a _ h⟩
theorem Ex.sqL {K : PySem.W.Frag} {H H' : Hp} {a : Addr} {xs : List V} (e : Ex H H') (h : SqL K H a xs) : SqL K H' a xs := by
  rcases h with h | h
  · exact Or.inl (e.rd h)
  · exact Or.inr h
theorem Ex.sqT {K : PySem.W.Frag} {H H' : Hp} {a : Addr} {xs : List V} (e : Ex H H') (h : SqT K H a xs) : SqT K H' a xs := by
  rcases h with h | h
  · exact Or.inl (e.rd h)
  · exact Or.inr h
mutual
inductive Rep (K : PySem.W.Frag) (F : Hp) : V → D → Prop
  | non : Rep K F .non .none
  | bl (b : Bool) : Rep K F (.bl b) (.bool b)
  | int (i : Int) : Rep K F (.int i) (.int i)
  | str (x : Str) : Rep K F (.str x) (.str x)
  | lst {a : Addr} {us : List V} {ds : List D} : F a = some (.lst us) → Reps K F us ds → Rep K F (.ref a) (.list ds)
  | tup {a : Addr} {us : List V} {ds : List D} : SqT K F a us → Reps K F us ds → Rep K F (.ref a) (.tuple ds)
  | dic {a : Addr} {ks : List L2.Key} {us : List V} {ds : List D} : F a = some (.dK (ks.zip us)) → ks.length = us.length → Reps K F us ds → Rep K F (.ref a) (.dict ((ks.map keyOf).zip ds))
inductive Reps (K : PySem.W.Frag) (F : Hp) : List V → List D → Prop
  | nil : Reps K F [] []
  | cons {v : V} {vs : List V} {d : D} {ds : List D} : Rep K F v d → Reps K F vs ds → Reps K F (v :: vs) (d :: ds)
end
section
variable {K : PySem.W.Frag} {F F' : Hp}
mutual
theorem Rep.mono (e : Ex F F') : ∀ {v : V} {d : D}, Rep K F v d → Rep K F' v d
  | _, _, .non => .non
  | _, _, .bl b => .bl b
  | _, _, .int i => .int i
  | _, _, .str x => .str x
  | _, _, .lst h hs => .lst (e _ _ h) (Reps.mono e hs)
  | _, _, .tup h hs => .tup (e.sqT h) (Reps.mono e hs)
  | _, _, .dic h hl hs => .dic (e _ _ h) hl (Reps.mono e hs)
theorem Reps.mono (e : Ex F F') : ∀ {vs : List V} {ds : List D}, Reps K F vs ds → Reps K F' vs ds
  | _, _, .nil => .nil
  | _, _, .cons h hs => .cons (Rep.mono e h) (Reps.mono e hs)
end
mutual
theorem Rep.dp : ∀ {v : V} {d : D}, Rep K F v d → noDic d = true → Dp K F v d
  | _, _, .non, _ => .non
  | _, _, .bl b, _ => .bl b
  | _, _, .int i, _ => .int i
  | _, _, .str x, _ => .str x
  | _, _, .lst h hs, n => .lst (.inl (.inl h)) (Reps.dp hs (by unfold noDic at n; exact n))
  | _, _, .tup h hs, n => .tup h (Reps.dp hs (by unfold noDic at n; exact n))
  | _, _, .dic h hl hs, n => by unfold noDic at n; cases n
theorem Reps.dp : ∀ {vs : List V} {ds : List D}, Reps K F vs ds → noDics ds = true → DpAll K F vs ds
  | _, _, .nil, _ => .nil
  | _, _, .cons h hs, n => by
    unfold noDics at n
    obtain ⟨n1, n2⟩ := Bool.and_eq_true_iff.mp n
    exact .cons (Rep.dp h n1) (Reps.dp hs n2)
end
theorem Reps.length : ∀ {vs : List V} {ds : List D}, Reps K F vs ds → vs.length = ds.length
  | _, _, .nil => rfl
  | _, _, .cons _ hs => by rw [List.length_cons, List.length_cons, Reps.length hs]
theorem Reps.append : ∀ {vs : List V} {ds : List D} {us : List V} {es : List D}, Reps K F vs ds → Reps K F us es → Reps K F (vs ++ us) (ds ++ es)
  | _, _, _, _, .nil, h => h
  | _, _, _, _, .cons a b, h => .cons a (Reps.append b h)
theorem Reps.get : ∀ {vs : List V} {ds : List D} {i : Nat} {d : D}, Reps K F vs ds → ds[i]? = some d → ∃ v, vs[i]? = some v ∧ Rep K F v d
  | _, _, _, _, .nil, e => by simp at e
  | _, _, 0, d, .cons h _, e => ⟨_, rfl, by simp at e; subst e; exact h⟩
  | _, _, i + 1, d, .cons _ hs, e => by
    obtain ⟨v, h1, h2⟩ := Reps.get (i := i) (d := d) hs (by simpa using e)
    exact ⟨v, by simpa using h1, h2⟩
theorem Reps.getV : ∀ {vs : List V} {ds : List D} {i : Nat} {v : V}, Reps K F vs ds → vs[i]? = some v → ∃ d, ds[i]? = some d ∧ Rep K F v d
  | _, _, _, _, .nil, e => by simp at e
  | _, _, 0, d, .cons h _, e => ⟨_, rfl, by simp at e; subst e; exact h⟩
  | _, _, i + 1, d, .cons _ hs, e => by
    obtain ⟨v, h1, h2⟩ := Reps.getV (i := i) (v := d) hs (by simpa using e)
    exact ⟨v, by simpa using h1, h2⟩
theorem Reps.take : ∀ {vs : List V} {ds : List D} (n : Nat), Reps K F vs ds → Reps K F (vs.take n) (ds.take n)
  | _, _, 0, _ => .nil
  | _, _, _ + 1, .nil => .nil
  | _, _, n + 1, .cons h hs => .cons h (Reps.take n hs)
theorem Reps.drop : ∀ {vs : List V} {ds : List D} (n : Nat), Reps K F vs ds → Reps K F (vs.drop n) (ds.drop n)
  | _, _, 0, h => h
  | _, _, _ + 1, .nil => .nil
  | _, _, n + 1, .cons h hs => Reps.drop n hs
theorem Reps.set : ∀ {vs : List V} {ds : List D} {v : V} {d : D} (n : Nat), Rep K F v d → Reps K F vs ds → Reps K F (vs.set n v) (ds.set n d)
  | _, _, _, _, _, _, .nil => .nil
  | _, _, _, _, 0, h, .cons _ hs => .cons h hs
  | _, _, _, _, n + 1, h, .cons a hs => .cons a (Reps.set n h hs)
theorem Reps.reverse : ∀ {vs : List V} {ds : List D}, Reps K F vs ds → Reps K F vs.reverse ds.reverse
  | _, _, .nil => .nil
  | _, _, .cons h hs => by rw [List.reverse_cons, List.reverse_cons]; exact Reps.append (Reps.reverse hs) (.cons h .nil)
theorem Reps.atI {vs : List V} {ds : List D} {i : Int} {d : D} (h : Reps K F vs ds) (e : L2.atI ds i = some d) : ∃ v, L2.atI vs i = some v ∧ Rep K F v d := by
  unfold L2.atI at e ⊢
  rw [h.length]
  cases hj : L2.ixN ds.length i with
  | none => rw [hj] at e; cases e
  | some j =>
    rw [hj] at e
    exact h.get e
theorem Reps.one {v : V} {d : D} (h : Rep K F v d) : Reps K F [v] [d] := .cons h .nil
theorem Rep.int_inv {v : V} {i : Int} (h : Rep K F v (.int i)) : v = .int i := by cases h; rfl
theorem Rep.bool_inv {v : V} {b : Bool} (h : Rep K F v (.bool b)) : v = .bl b := by cases h; rfl
theorem Rep.str_inv {v : V} {x : Str} (h : Rep K F v (.str x)) : v = .str x := by cases h; rfl
theorem Rep.none_inv {v : V} (h : Rep K F v .none) : v = .non := by cases h; rfl
theorem Rep.list_inv' {v : V} {ds : List D} (h : Rep K F v (.list ds)) : ∃ a us, v = .ref a ∧ F a = some (.lst us) ∧ Reps K F us ds := by
  cases h with
  | lst h hs => exact ⟨_, _, rfl, h, hs⟩
theorem Rep.list_inv {v : V} {ds : List D} (h : Rep K F v (.list ds)) : ∃ a us, v = .ref a ∧ Rd F a (.lst us) ∧ Reps K F us ds := by
  cases h with
  | lst h hs => exact ⟨_, _, rfl, .inl h, hs⟩
theorem Rep.tup_inv {v : V} {ds : List D} (h : Rep K F v (.tuple ds)) : ∃ a us, v = .ref a ∧ SqT K F a us ∧ Reps K F us ds := by
  cases h with
  | tup h hs => exact ⟨_, _, rfl, h, hs⟩
theorem Reps.intsOf : ∀ {vs : List V} {ds : List D} {ns : List Int}, Reps K F vs ds → Pv.intsOf ds = some ns → vs = ns.map V.int
  | _, _, _, .nil, e => by cases e; rfl
  | _, d :: ds, ns, .cons h hs, e => by
    cases d with
    | int i =>
      have e' : (Pv.intsOf ds).map (i :: ·) = some ns := e
      cases hr : Pv.intsOf ds with
      | none => rw [hr] at e'; cases e'
      | some ms =>
        rw [hr] at e'
        cases e'
        rw [h.int_inv, Reps.intsOf hs hr]
        rfl
    | _ => cases e
theorem Reps.boolsOf : ∀ {vs : List V} {ds : List D} {ns : List Bool}, Reps K F vs ds → Pv.boolsOf ds = some ns → vs = ns.map V.bl
  | _, _, _, .nil, e => by cases e; rfl
  | _, d :: ds, ns, .cons h hs, e => by
    cases d with
    | bool i =>
      have e' : (Pv.boolsOf ds).map (i :: ·) = some ns := e
      cases hr : Pv.boolsOf ds with
      | none => rw [hr] at e'; cases e'
      | some ms =>
        rw [hr] at e'
        cases e'
        rw [h.bool_inv, Reps.boolsOf hs hr]
        rfl
    | _ => cases e
end

/-- what is looked at: known, or a list that stands there now, its items known -/
def PkR (K : PySem.W.Frag) (F H : Hp) (v : V) (d : D) : Prop := Rep K F v d ∨ ∃ p us xs, v = .ref p ∧ d = .list xs ∧ H p = some (.lst us) ∧ Reps K F us xs
section
variable {K : PySem.W.Frag} {F H : Hp} {v : V} {d : D}
theorem PkR.rep (e : Ex F H) (h : PkR K F H v d) : Rep K H v d := by
  rcases h with h | ⟨p, us, xs, rfl, rfl, h1, h2⟩
  · exact h.mono e
  · exact .lst h1 (Reps.mono e h2)
theorem PkR.list {xs : List D} (e : Ex F H) (h : PkR K F H v (.list xs)) : ∃ a us, v = .ref a ∧ Rd H a (.lst us) ∧ Reps K F us xs := by
  rcases h with h | ⟨p, us, ys, rfl, e2, h1, h2⟩
  · obtain ⟨a, us, rfl, h1, h2⟩ := h.list_inv
    exact ⟨a, us, rfl, e.rd h1, h2⟩
  · cases e2
    exact ⟨p, us, rfl, .inl h1, h2⟩
theorem PkR.plain (h : PkR K F H v d) (hd : ∀ xs, d ≠ .list xs) : Rep K F v d := by
  rcases h with h | ⟨p, us, ys, rfl, e2, h1, h2⟩
  · exact h
  · exact absurd e2 (hd ys)
end

/-! ### the state -/
/-- where a def's (or a block's) run began: what is known and shall stay, the heap, what may change, the caller's list -/
structure Ent (τ : Tls) where
  F0 : Hp
  H0 : Hp
  M : Addr → Prop
  pI : Option Addr
def Slot.isM : Slot → Bool
  | .own _ => true
  | .io _ => true
  | _ => false
def SlotR {τ : Tls} (K : PySem.W.Frag) (e : Ent τ) (F H : Hp) : Slot → V → Prop
  | .v d, v => Rep K F v d
  | .own xs, v => ∃ p us, v = .ref p ∧ F p = none ∧ H p = some (.lst us) ∧ Reps K F us xs ∧ (e.M p ∨ NT e.H0 p) ∧ e.pI ≠ some p
  | .io xs, v => ∃ p us, v = .ref p ∧ F p = none ∧ H p = some (.lst us) ∧ Reps K F us xs ∧ e.M p ∧ e.pI = some p
  | .fz xs, v => ∃ p, v = .ref p ∧ e.pI = some p ∧ Rep K F v (.list xs)
  | .raw xs, v => ∃ p us, v = .ref p ∧ SqL K F p us ∧ Reps K F us xs
  | .xc a, v => v = .ref a
structure Rel {τ : Tls} (K : PySem.W.Frag) (e : Ent τ) (F H : Hp) (ρ : Env) (σ : L2.St) : Prop where
  len : ρ.length = σ.length
  sub0 : Ex e.F0 F
  sub : Ex F H
  slot : ∀ (i : Nat) (s : Slot), ρ[i]? = some (some s) → ∃ v, σ[i]? = some (some v) ∧ SlotR K e F H s v
  dis : ∀ (i j : Nat) (s t : Slot) (p : Addr), i ≠ j → ρ[i]? = some (some s) → ρ[j]? = some (some t) → s.isM = true → t.isM = true → σ[i]? = some (some (.ref p)) → σ[j]? ≠ some (some (.ref p))
  frm : ∀ a o, e.H0 a = some o → (∀ ps, o ≠ .tbl ps) → ¬ e.M a → H a = some o
  old : ∀ a, e.F0 a = none → ¬ NT e.H0 a → ¬ e.M a → F a = none
  mh : ∀ p, e.M p → ∃ us, H p = some (.lst us)
  pm : ∀ p, e.pI = some p → e.M p
  tab : LamX.Tabs τ H
  nt : ∀ a ps, F a ≠ some (.tbl ps)
/-- nothing that may change is at p -/
def Apart (ρ : Env) (σ : L2.St) (p : Addr) : Prop := ∀ (i : Nat) (s : Slot), ρ[i]? = some (some s) → s.isM = true → σ[i]? ≠ some (some (.ref p))
def VR {τ : Tls} (K : PySem.W.Frag) (e : Ent τ) (F H : Hp) (ρ : Env) (σ : L2.St) (v : V) : Val → Prop
  | .pv d => Rep K F v d
  | .fr xs => ∃ p us, v = .ref p ∧ F p = none ∧ H p = some (.lst us) ∧ Reps K F us xs ∧ NT e.H0 p ∧ ¬ e.M p ∧ e.pI ≠ some p ∧ Apart ρ σ p
theorem tabs_new {τ : Tls} {H : Hp} {p : Addr} {o : HO} (t : LamX.Tabs τ H) (hp : H p = none) : LamX.Tabs τ (upd H p o) := t.ext (Ex.new hp)
/-- a list changes -/
theorem tabs_lst {τ : Tls} {H : Hp} {p : Addr} {us : List V} {o : HO} (t : LamX.Tabs τ H) (hp : H p = some (.lst us)) : LamX.Tabs τ (upd H p o) := fun q hq => by
  obtain ⟨ps, h1, h2, h3⟩ := t q hq
  refine ⟨ps, ?_, h2, fun pos cv hc => ?_⟩
  · rw [upd_ne (fun z => by rw [z, hp] at h1; cases h1)]
    exact h1
  · obtain ⟨c, e1, e2⟩ := h3 pos cv hc
    refine ⟨c, e1, ?_⟩
    rw [upd_ne (fun z => by rw [z, hp] at e2; unfold LamX.CodeO at e2; cases e2)]
    exact e2
section
variable {τ : Tls} {K : PySem.W.Frag} {e : Ent τ} {F F' H H' : Hp} {ρ ρ' : Env} {σ σ' : L2.St} {v : V} {p : Addr} {i : Nat} {s : Slot}
/-- what is known grows by an object that H has, that is nobody's own -/
theorem Rel.grow {o : HO} (r : Rel K e F H ρ σ) (hF : F p = none) (hH : H p = some o) (ho : ∀ ps, o ≠ .tbl ps) (h0 : NT e.H0 p ∨ e.M p) (ap : Apart ρ σ p) : Rel K e (upd F p o) H ρ σ where
  len := r.len
  sub0 := r.sub0.trans (Ex.new hF)
  sub := fun a u h => by
    by_cases ha : a = p
    · subst ha; rw [upd_same] at h; cases h; exact hH
    · rw [upd_ne ha] at h; exact r.sub a u h
  slot := fun i s hs => by
    obtain ⟨v, hv, q⟩ := r.slot i s hs
    refine ⟨v, hv, ?_⟩
    cases s with
    | v d => exact Rep.mono (Ex.new hF) q
    | own xs =>
      obtain ⟨b, us, rfl, q1, q2, q3, q4⟩ := q
      have hb : b ≠ p := fun z => ap i _ hs rfl (by rw [hv, z])
      exact ⟨b, us, rfl, by rw [upd_ne hb]; exact q1, q2, Reps.mono (Ex.new hF) q3, q4⟩
    | io xs =>
      obtain ⟨b, us, rfl, q1, q2, q3, q4⟩ := q
      have hb : b ≠ p := fun z => ap i _ hs rfl (by rw [hv, z])
      exact ⟨b, us, rfl, by rw [upd_ne hb]; exact q1, q2, Reps.mono (Ex.new hF) q3, q4⟩
    | fz xs =>
      obtain ⟨b, rfl, q1, q2⟩ := q
      exact ⟨b, rfl, q1, Rep.mono (Ex.new hF) q2⟩
    | raw xs =>
      obtain ⟨b, us, rfl, q1, q2⟩ := q
      exact ⟨b, us, rfl, (Ex.new hF).sqL q1, Reps.mono (Ex.new hF) q2⟩
    | xc a => exact q
  dis := r.dis
  frm := r.frm
  old := fun a h1 h2 h3 => by
    have ha : a ≠ p := fun z => by
      subst z
      rcases h0 with h0 | h0
      · exact h2 h0
      · exact h3 h0
    rw [upd_ne ha]
    exact r.old a h1 h2 h3
  mh := r.mh
  pm := r.pm
  tab := r.tab
  nt := fun a ps z => by
    by_cases ha : a = p
    · subst ha
      rw [upd_same] at z
      exact ho ps (Option.some.inj z)
    · rw [upd_ne ha] at z
      exact r.nt a ps z
/-- a new object is laid in the heap -/
theorem Rel.laid {o : HO} (r : Rel K e F H ρ σ) (hH : H p = none) : Rel K e F (upd H p o) ρ σ where
  len := r.len
  sub0 := r.sub0
  sub := r.sub.trans (Ex.new hH)
  slot := fun i s hs => by
    obtain ⟨v, hv, q⟩ := r.slot i s hs
    refine ⟨v, hv, ?_⟩
    cases s with
    | v d => exact q
    | own xs =>
      obtain ⟨b, us, rfl, q1, q2, q3, q4⟩ := q
      exact ⟨b, us, rfl, q1, Ex.new hH _ _ q2, q3, q4⟩
    | io xs =>
      obtain ⟨b, us, rfl, q1, q2, q3, q4⟩ := q
      exact ⟨b, us, rfl, q1, Ex.new hH _ _ q2, q3, q4⟩
    | fz xs => exact q
    | raw xs => exact q
    | xc a => exact q
  dis := r.dis
  frm := fun a u h1 h2 h3 => Ex.new hH _ _ (r.frm a u h1 h2 h3)
  old := r.old
  mh := fun q hq => by
    obtain ⟨us, h⟩ := r.mh q hq
    exact ⟨us, Ex.new hH _ _ h⟩
  pm := r.pm
  tab := tabs_new r.tab hH
  nt := r.nt
theorem Rel.noneF (r : Rel K e F H ρ σ) (hH : H p = none) : F p = none := by
  cases h : F p with
  | none => rfl
  | some o => rw [r.sub p o h] at hH; cases hH
theorem Rel.apart' (r : Rel K e F H ρ σ) (hH : NT H p) : Apart ρ σ p := fun i s hs hm hv => by
  obtain ⟨v, hv', q⟩ := r.slot i s hs
  rw [hv] at hv'
  cases hv'
  cases s with
  | v d => cases hm
  | own xs =>
    obtain ⟨b, us, eb, q1, q2, _⟩ := q
    cases eb
    exact NT.lst q2 hH
  | io xs =>
    obtain ⟨b, us, eb, q1, q2, _⟩ := q
    cases eb
    exact NT.lst q2 hH
  | fz xs => cases hm
  | raw xs => cases hm
  | xc a => cases hm
theorem Rel.apart (r : Rel K e F H ρ σ) (hH : H p = none) : Apart ρ σ p := r.apart' (NT.of_none hH)
theorem Rel.none0' (r : Rel K e F H ρ σ) (hH : NT H p) : NT e.H0 p ∨ e.M p := by
  by_cases hm : e.M p
  · exact .inr hm
  · refine .inl fun o h => Classical.byContradiction fun hn => ?_
    have ho : ∀ ps, o ≠ .tbl ps := fun ps z => hn ⟨ps, z⟩
    exact NT.not_some (r.frm p o h ho hm) ho hH
theorem Rel.none0 (r : Rel K e F H ρ σ) (hH : H p = none) : NT e.H0 p ∨ e.M p := r.none0' (NT.of_none hH)
theorem Rel.fresh' (r : Rel K e F H ρ σ) (hH : NT H p) : ¬ e.M p ∧ e.pI ≠ some p := by
  have h1 : ¬ e.M p := fun h => by
    obtain ⟨us, q⟩ := r.mh p h
    exact NT.lst q hH
  exact ⟨h1, fun h => h1 (r.pm p h)⟩
theorem Rel.fresh (r : Rel K e F H ρ σ) (hH : H p = none) : ¬ e.M p ∧ e.pI ≠ some p := r.fresh' (NT.of_none hH)
/-- a new list, tuple laid and known -/
theorem Rel.new {o : HO} (r : Rel K e F H ρ σ) (hH : H p = none) (ho : ∀ ps, o ≠ .tbl ps := by intro _ z; cases z) : Rel K e (upd F p o) (upd H p o) ρ σ :=
  (r.laid hH).grow (r.noneF hH) upd_same ho (r.none0 hH) (r.apart hH)
theorem getElem_set_ne {α : Type} {l : List α} {i j : Nat} {a : α} (h : i ≠ j) : (l.set i a)[j]? = l[j]? := List.getElem?_set_ne h
/-- a place's value is handed on: whoever holds it, nobody changes it any more -/
theorem Rel.freeze (r : Rel K e F H ρ σ) (hs : ρ[i]? = some (some s)) (hn : (∀ xs, s ≠ .raw xs) ∧ ∀ a, s ≠ .xc a) : ∃ F' v, Ex F F' ∧ σ[i]? = some (some v) ∧ Rep K F' v s.dat ∧ Rel K e F' H (ρ.set i (some s.frozen)) σ := by
  obtain ⟨v, hv, q⟩ := r.slot i s hs
  have hi : i < ρ.length := (List.getElem?_eq_some_iff.mp hs).1
  have hset : ∀ t, (ρ.set i (some t))[i]? = some (some t) := fun t => by rw [List.getElem?_set_self hi]
  cases s with
  | raw xs => exact absurd rfl (hn.1 xs)
  | xc a => exact absurd rfl (hn.2 a)
  | v d =>
    refine ⟨F, v, Ex.refl F, hv, q, ?_⟩
    have e1 : ρ.set i (some (Slot.v d).frozen) = ρ := by
      show ρ.set i (some (.v d)) = ρ
      apply List.ext_getElem?
      intro j
      by_cases hj : i = j
      · subst hj; rw [hset, hs]
      · rw [List.getElem?_set_ne hj]
    rw [e1]
    exact r
  | fz xs =>
    obtain ⟨p, rfl, q1, q2⟩ := q
    refine ⟨F, .ref p, Ex.refl F, hv, q2, ?_⟩
    have e1 : ρ.set i (some (Slot.fz xs).frozen) = ρ := by
      show ρ.set i (some (.fz xs)) = ρ
      apply List.ext_getElem?
      intro j
      by_cases hj : i = j
      · subst hj; rw [hset, hs]
      · rw [List.getElem?_set_ne hj]
    rw [e1]
    exact r
  | own xs =>
    obtain ⟨p, us, rfl, q1, q2, q3, q4, q5⟩ := q
    have hrep : Rep K (upd F p (.lst us)) (.ref p) (.list xs) := .lst upd_same (Reps.mono (Ex.new q1) q3)
    refine ⟨upd F p (.lst us), .ref p, Ex.new q1, hv, hrep, ?_⟩
    have ρ0 : Rel K e F H (ρ.set i none) σ :=
      ⟨by rw [List.length_set]; exact r.len, r.sub0, r.sub, fun j t ht => by
        by_cases hj : i = j
        · subst hj; rw [List.getElem?_set_self hi] at ht; cases ht
        · rw [List.getElem?_set_ne hj] at ht; exact r.slot j t ht, fun j k t u b hjk h1 h2 => by
        by_cases hj : i = j
        · subst hj; rw [List.getElem?_set_self hi] at h1; cases h1
        · by_cases hk : i = k
          · subst hk; rw [List.getElem?_set_self hi] at h2; cases h2
          · rw [List.getElem?_set_ne hj] at h1; rw [List.getElem?_set_ne hk] at h2; exact r.dis j k t u b hjk h1 h2, r.frm, r.old, r.mh, r.pm, r.tab, r.nt⟩
    have ap : Apart (ρ.set i none) σ p := fun j t ht hm hvj => by
      by_cases hj : i = j
      · subst hj; rw [List.getElem?_set_self hi] at ht; cases ht
      · rw [List.getElem?_set_ne hj] at ht
        exact r.dis i j _ t p hj hs ht rfl hm hv hvj
    have r1 := ρ0.grow q1 q2 (fun _ z => nomatch z) q4.symm ap
    refine ⟨by rw [List.length_set]; exact r.len, r1.sub0, r1.sub, fun j t ht => ?_, fun j k t u b hjk h1 h2 m1 m2 => ?_, r1.frm, r1.old, r1.mh, r1.pm, r1.tab, r1.nt⟩
    · by_cases hj : i = j
      · subst hj; rw [hset] at ht; cases ht; exact ⟨_, hv, hrep⟩
      · rw [List.getElem?_set_ne hj] at ht; exact r1.slot j t (by rw [List.getElem?_set_ne hj]; exact ht)
    · by_cases hj : i = j
      · subst hj; rw [hset] at h1; cases h1; cases m1
      · by_cases hk : i = k
        · subst hk; rw [hset] at h2; cases h2; cases m2
        · rw [List.getElem?_set_ne hj] at h1; rw [List.getElem?_set_ne hk] at h2; exact r.dis j k t u b hjk h1 h2 m1 m2
  | io xs =>
    obtain ⟨p, us, rfl, q1, q2, q3, q4, q5⟩ := q
    have hrep : Rep K (upd F p (.lst us)) (.ref p) (.list xs) := .lst upd_same (Reps.mono (Ex.new q1) q3)
    refine ⟨upd F p (.lst us), .ref p, Ex.new q1, hv, hrep, ?_⟩
    have ρ0 : Rel K e F H (ρ.set i none) σ :=
      ⟨by rw [List.length_set]; exact r.len, r.sub0, r.sub, fun j t ht => by
        by_cases hj : i = j
        · subst hj; rw [List.getElem?_set_self hi] at ht; cases ht
        · rw [List.getElem?_set_ne hj] at ht; exact r.slot j t ht, fun j k t u b hjk h1 h2 => by
        by_cases hj : i = j
        · subst hj; rw [List.getElem?_set_self hi] at h1; cases h1
        · by_cases hk : i = k
          · subst hk; rw [List.getElem?_set_self hi] at h2; cases h2
          · rw [List.getElem?_set_ne hj] at h1; rw [List.getElem?_set_ne hk] at h2; exact r.dis j k t u b hjk h1 h2, r.frm, r.old, r.mh, r.pm, r.tab, r.nt⟩
    have ap : Apart (ρ.set i none) σ p := fun j t ht hm hvj => by
      by_cases hj : i = j
      · subst hj; rw [List.getElem?_set_self hi] at ht; cases ht
      · rw [List.getElem?_set_ne hj] at ht
        exact r.dis i j _ t p hj hs ht rfl hm hv hvj
    have r1 := ρ0.grow q1 q2 (fun _ z => nomatch z) (.inr q4) ap
    refine ⟨by rw [List.length_set]; exact r.len, r1.sub0, r1.sub, fun j t ht => ?_, fun j k t u b hjk h1 h2 m1 m2 => ?_, r1.frm, r1.old, r1.mh, r1.pm, r1.tab, r1.nt⟩
    · by_cases hj : i = j
      · subst hj; rw [hset] at ht; cases ht; exact ⟨_, hv, p, rfl, q5, hrep⟩
      · rw [List.getElem?_set_ne hj] at ht; exact r1.slot j t (by rw [List.getElem?_set_ne hj]; exact ht)
    · by_cases hj : i = j
      · subst hj; rw [hset] at h1; cases h1; cases m1
      · by_cases hk : i = k
        · subst hk; rw [hset] at h2; cases h2; cases m2
        · rw [List.getElem?_set_ne hj] at h1; rw [List.getElem?_set_ne hk] at h2; exact r.dis j k t u b hjk h1 h2 m1 m2
/-- a place's value is looked at, as the heap has it now -/
theorem Rel.look (r : Rel K e F H ρ σ) (hs : ρ[i]? = some (some s)) (hn : (∀ xs, s ≠ .raw xs) ∧ ∀ a, s ≠ .xc a) : ∃ v, σ[i]? = some (some v) ∧ PkR K F H v s.dat := by
  obtain ⟨v, hv, q⟩ := r.slot i s hs
  refine ⟨v, hv, ?_⟩
  cases s with
  | raw xs => exact absurd rfl (hn.1 xs)
  | xc a => exact absurd rfl (hn.2 a)
  | v d => exact .inl q
  | own xs =>
    obtain ⟨p, us, rfl, q1, q2, q3, _⟩ := q
    exact .inr ⟨p, us, xs, rfl, rfl, q2, q3⟩
  | io xs =>
    obtain ⟨p, us, rfl, q1, q2, q3, _⟩ := q
    exact .inr ⟨p, us, xs, rfl, rfl, q2, q3⟩
  | fz xs =>
    obtain ⟨p, rfl, q1, q2⟩ := q
    exact .inl q2
theorem VR.freeze {x : Val} (r : Rel K e F H ρ σ) (q : VR K e F H ρ σ v x) : ∃ F', Ex F F' ∧ Rep K F' v x.dat ∧ Rel K e F' H ρ σ := by
  cases x with
  | pv d => exact ⟨F, Ex.refl F, q, r⟩
  | fr xs =>
    obtain ⟨p, us, rfl, q1, q2, q3, q4, q5, q6, q7⟩ := q
    exact ⟨upd F p (.lst us), Ex.new q1, .lst upd_same (Reps.mono (Ex.new q1) q3), r.grow q1 q2 (fun _ z => nomatch z) (.inl q4) q7⟩
end
end Pv

namespace Pv
open PySem L2 PySem.Spec PyProof.Rows
/-- tuple * int, the tuple empty or the int 1: the tuple itself -/
theorem tuple_mulSame (l : Addr) (items : Array Value) (n : Nat) (dd : Option Addr) (sl : Array (Option Value)) (x : Int) (u : Tok) (c0 : (decide (x < -(2 ^ 63)) || decide (x ≥ 2 ^ 63)) = false) (c1 : (items.isEmpty || x == 1) = true) :
    Meets (Builtin.«tuple.__mul__» ⟨[.ref l, .int x u], []⟩) (fun _ R s => s.heap.get? l = some { cls := .type "tuple", dict := dd, data := .seq items n, slots := sl } ∧ R (.ok (.ret (Value.ref l))) s) :=
  .of_wp fun prog w A R s h => by
    obtain ⟨hp, g, d, tk, os⟩ := s
    obtain ⟨hl, h⟩ := h
    have f1 := AutoSeq1.idx_int
    wp_walk using wpAny_loadPart' hl
    repeat (first
      | (refine wpAny_ite_false (decide_eq_false (by rw [c0]; exact Bool.false_ne_true)) ?_; wp_walk using wpAny_loadPart' hl)
      | (refine wpAny_ite_true (decide_eq_true (by rw [c1])) ?_; wp_walk using wpAny_loadPart' hl))
    exact ⟨_, rfl, h⟩
/-- tuple * int, the int at most 0 -/
theorem tuple_mulNo (l : Addr) (items : Array Value) (n : Nat) (dd : Option Addr) (sl : Array (Option Value)) (x : Int) (u : Tok) (c0 : (decide (x < -(2 ^ 63)) || decide (x ≥ 2 ^ 63)) = false) (c1 : (items.isEmpty || x == 1) = false) (c2 : (decide (x ≤ 0) || items.isEmpty) = true) :
    Meets (Builtin.«tuple.__mul__» ⟨[.ref l, .int x u], []⟩) (fun _ R s => s.heap.get? l = some { cls := .type "tuple", dict := dd, data := .seq items n, slots := sl } ∧
      R (.ok (.ret (Value.ref s.heap.objs.size))) { s with heap := s.heap.push { cls := Value.type "tuple", data := Data.seq #[] }, toks := s.toks }) :=
  .of_wp fun prog w A R s h => by
    obtain ⟨hp, g, d, tk, os⟩ := s
    obtain ⟨hl, h⟩ := h
    have f1 := AutoSeq1.idx_int
    wp_walk using wpAny_loadPart' hl
    repeat (first
      | (refine wpAny_ite_false (decide_eq_false (by rw [c0]; exact Bool.false_ne_true)) ?_; wp_walk using wpAny_loadPart' hl)
      | (refine wpAny_ite_false (decide_eq_false (by rw [c1]; exact Bool.false_ne_true)) ?_; wp_walk using wpAny_loadPart' hl)
      | (refine wpAny_ite_true (decide_eq_true (by rw [c2])) ?_; wp_walk using wpAny_loadPart' hl))
    exact ⟨_, rfl, h⟩
def rRepA (K : PySem.W.Frag) : R2 := fun x y H Q => ∃ l k xs, x = .ref l ∧ y = .int k ∧ SqT K H l xs ∧ (-(2 ^ 62) ≤ k ∧ k < 2 ^ 62) ∧ xs.length * k.toNat ≤ 1000000 ∧ (xs = [] ∨ k = 1 → Q (.ref l) H) ∧ (¬ (xs = [] ∨ k = 1) → ∀ p, H p = none → Q (.ref p) (upd H p (.tup (List.replicate k.toNat xs).flatten)))
section
variable {X : Cx}
theorem op_repA : OpR X (binaryOp .Mult) (rRepA X.K) := by
  intro pins s σ H x y v u Q I rx ry h
  obtain ⟨l, k, xs, rfl, rfl, hT, ⟨h1, h2⟩, hz, q1, q2⟩ := h
  cases rx
  obtain ⟨t, rfl⟩ := ry
  obtain ⟨its, r, ⟨⟨cls, dd, data, sl⟩, ho, hc, n, hd⟩, hs⟩ := I.tuple hT
  simp only at hc hd
  subst hc hd
  have hle : its.length = xs.length := r.length.symm
  have hsz0 : its.toArray.size = xs.length := by rw [List.size_toArray, hle]
  have hem : its.toArray.isEmpty = true ↔ xs = [] := by
    rw [List.isEmpty_toArray, List.isEmpty_iff, ← List.length_eq_zero_iff, ← List.length_eq_zero_iff, hle]
  have c0 : (decide (k < -(2 ^ 63)) || decide (k ≥ 2 ^ 63)) = false := by
    rw [decide_eq_false (by omega), decide_eq_false (by omega)] <;> rfl
  by_cases hw : xs = [] ∨ k = 1
  · have c1 : (its.toArray.isEmpty || k == 1) = true := by
      rcases hw with e | e
      · rw [hem.mpr e]; rfl
      · rw [e]; simp
    refine wpAny_binaryOp_repeat_ref (T := "tuple") (U := "int") (by decide) ⟨_, ho, rfl⟩ (fun s' => typeIs_int s' k t) noFill_tuple_mul F.fills_int_mul F.slot_int_rmul repeat_tuple F.slot_int_index.lookup
      (call_meets F.slot_int_rmul (typeIs_int s k t) F.entry_int_rmul (F.args_int_rmul_2 _ _) (int_rmul_tuple k t l its.toArray n dd sl)
        ⟨ho, rfl, ⟨_, ho, rfl⟩, call_meets F.slot_tuple_mul ⟨_, ho, rfl⟩ F.entry_tuple_mul (F.args_tuple_mul_2 _ _) (tuple_mulSame l its.toArray n dd sl k t c0 c1) ⟨ho, ?_⟩⟩)
    exact ⟨.ref l, H, I, rfl, q1 hw⟩
  · have c1 : (its.toArray.isEmpty || k == 1) = false := by
      rw [Bool.or_eq_false_iff]
      refine ⟨?_, beq_eq_false_iff_ne.mpr fun e => hw (.inr e)⟩
      cases e : its.toArray.isEmpty with
      | false => rfl
      | true => exact absurd (.inl (hem.mp e)) hw
    have c1' : its.toArray.isEmpty = false := (Bool.or_eq_false_iff.mp c1).1
    by_cases hk : k ≤ 0
    · have c2 : (decide (k ≤ 0) || its.toArray.isEmpty) = true := by rw [decide_eq_true hk]; rfl
      have ek : k.toNat = 0 := by omega
      refine wpAny_binaryOp_repeat_ref (T := "tuple") (U := "int") (by decide) ⟨_, ho, rfl⟩ (fun s' => typeIs_int s' k t) noFill_tuple_mul F.fills_int_mul F.slot_int_rmul repeat_tuple F.slot_int_index.lookup
        (call_meets F.slot_int_rmul (typeIs_int s k t) F.entry_int_rmul (F.args_int_rmul_2 _ _) (int_rmul_tuple k t l its.toArray n dd sl)
          ⟨ho, rfl, ⟨_, ho, rfl⟩, call_meets F.slot_tuple_mul ⟨_, ho, rfl⟩ F.entry_tuple_mul (F.args_tuple_mul_2 _ _) (tuple_mulNo l its.toArray n dd sl k t c0 c1 c2) ⟨ho, ?_⟩⟩)
      refine ⟨.ref s.heap.objs.size, _, I.laid (t' := s.toks) (o := .tup (List.replicate k.toNat xs).flatten) (fun b ob q => Heap.get?_push_of_some _ q) (Nat.le_refl _) ?_, rfl, q2 hw _ (I.hok.fresh (Nat.le_refl _))⟩
      rw [ek]
      exact ⟨Nat.zero_le _, [], .nil, IsTup.new _ _⟩
    · have c2 : (decide (k ≤ 0) || its.toArray.isEmpty) = false := by
        rw [c1', Bool.or_false]
        exact decide_eq_false hk
      have hm : ((its.toArray.size : Nat) : Int) * k ≤ 1000000 := by
        rw [hsz0]
        have a1 : ((xs.length : Nat) : Int) * k = ((xs.length * k.toNat : Nat) : Int) := by rw [Int.natCast_mul, Int.toNat_of_nonneg (by omega)]
        omega
      have flen : (List.replicate k.toNat its).flatten.length ≤ sizeLine := by
        rw [PyProof.Rows.lm_len_rep_flat, hle, sizeLine_eq, Nat.mul_comm]
        omega
      have c4 : Builtin.Tuple.tupleTooMany (((its.toArray.size : Nat) : Int) * k) = false := by
        unfold Builtin.Tuple.tupleTooMany
        rw [sizeLine_eq]
        exact decide_eq_false (by omega)
      refine wpAny_binaryOp_repeat_ref (T := "tuple") (U := "int") (by decide) ⟨_, ho, rfl⟩ (fun s' => typeIs_int s' k t) noFill_tuple_mul F.fills_int_mul F.slot_int_rmul repeat_tuple F.slot_int_index.lookup
        (call_meets F.slot_int_rmul (typeIs_int s k t) F.entry_int_rmul (F.args_int_rmul_2 _ _) (int_rmul_tuple k t l its.toArray n dd sl)
          ⟨ho, rfl, ⟨_, ho, rfl⟩, call_meets F.slot_tuple_mul ⟨_, ho, rfl⟩ F.entry_tuple_mul (F.args_tuple_mul_2 _ _) (tuple_mulW l its.toArray n dd sl k t c0 c1 c2 (by omega) c4 (by rw [size_rep, List.size_toArray]; exact flen)) ⟨ho, ?_⟩⟩)
      rw [size_rep]
      refine ⟨.ref s.heap.objs.size, _, I.laid (t' := s.toks) (o := .tup (List.replicate k.toNat xs).flatten) (fun b ob q => Heap.get?_push_of_some _ q) (Nat.le_refl _) ?_, rfl, q2 hw _ (I.hok.fresh (Nat.le_refl _))⟩
      exact ⟨by rw [PyProof.Rows.lm_len_rep_flat, sizeLine_eq, Nat.mul_comm]; omega, _, r.rep k.toNat, IsTup.new _ _⟩
end
end Pv

namespace Pv
open PySem L2 PyProof.Rows

/-! ### readings -/
/-- an exception's datum: none, or its one field -/
def XR (K : PySem.W.Frag) (F : Hp) : Option D → Option Addr → Prop
  | none, d => d = none
  | some (.dict [(.str f, x)]), d => ∃ p u, d = some p ∧ F p = some (.xd [(f, u)]) ∧ Rep K F u x
  | _, _ => False
section
variable {τ : Tls}
variable (K : PySem.W.Frag) (xa : XAt τ) (W : WX)
def Post (e : Ent τ) (σ : L2.St) (F : Hp) {α : Type} (r : R α) (Q : α → Env → Hp → Hp → Prop) : Prop := match r with
  | .ok a ρ' => ∀ F' H', Ex F F' → Rel K e F' H' ρ' σ → Q a ρ' F' H'
  | .exc c x ρ' => ∀ F' H' d, Ex F F' → Rel K e F' H' ρ' σ → XR K F' x d → W (.ref (xa c)) d σ H'
  | .bad => False
def tV (ev : Env → R Val) : TE := fun σ H Q => ∃ e F ρ, Rel K e F H ρ σ ∧ Post K xa W e σ F (ev ρ) fun x ρ' F' H' => ∀ v, VR K e F' H' ρ' σ v x → Q v H'
def tD (ev : Env → R D) : TE := fun σ H Q => ∃ e F ρ, Rel K e F H ρ σ ∧ Post K xa W e σ F (ev ρ) fun d ρ' F' H' => ∀ v, Rep K F' v d → Q v H'
def tP (ev : Env → R D) : TE := fun σ H Q => ∃ e F ρ, Rel K e F H ρ σ ∧ Post K xa W e σ F (ev ρ) fun d ρ' F' H' => ∀ v, PkR K F' H' v d → Q v H'
def tBo (ev : Env → R Bool) : TT := fun σ H Q => ∃ e F ρ, Rel K e F H ρ σ ∧ Post K xa W e σ F (ev ρ) fun b ρ' F' H' => Q b H'
def tL (ev : Env → R (List D)) : TA := fun σ H Q => ∃ e F ρ, Rel K e F H ρ σ ∧ Post K xa W e σ F (ev ρ) fun ds ρ' F' H' => ∀ vs, Reps K F' vs ds → Q vs H'
end
section
variable {τ : Tls} {K : PySem.W.Frag} {xa : XAt τ} {W : WX} {e : Ent τ} {σ : L2.St} {F F1 H : Hp} {α β : Type} {r : R α} {Q Q' : α → Env → Hp → Hp → Prop}
theorem Post.imp (h : Post K xa W e σ F r Q) (k : ∀ a ρ F' H', Ex F F' → Rel K e F' H' ρ σ → Q a ρ F' H' → Q' a ρ F' H') : Post K xa W e σ F r Q' := by
  cases r with
  | ok a ρ => exact fun F' H' ex rel => k a ρ F' H' ex rel (h F' H' ex rel)
  | exc c x ρ => exact h
  | bad => exact h
theorem Post.weak (ex : Ex F F1) (h : Post K xa W e σ F r Q) : Post K xa W e σ F1 r Q := by
  cases r with
  | ok a ρ => exact fun F' H' ex' rel => h F' H' (ex.trans ex') rel
  | exc c x ρ => exact fun F' H' d ex' rel => h F' H' d (ex.trans ex') rel
  | bad => exact h
theorem Post.bind {f : α → Env → R β} {Q : β → Env → Hp → Hp → Prop} (h : Post K xa W e σ F (r.bind f) Q) : Post K xa W e σ F r fun a ρ1 F1 H1 => Post K xa W e σ F1 (f a ρ1) Q := by
  cases r with
  | ok a ρ => exact fun F' H' ex rel => Post.weak (r := f a ρ) ex h
  | exc c x ρ => exact h
  | bad => exact h
theorem Post.ofO {o : Option α} {ρ : Env} (h : Post K xa W e σ F (R.ofO o ρ) Q) : ∃ a, o = some a ∧ ∀ F' H', Ex F F' → Rel K e F' H' ρ σ → Q a ρ F' H' := by
  cases o with
  | none => exact h.elim
  | some a => exact ⟨a, rfl, h⟩
end
theorem bindD_dd {β : Type} (r : R Val) (f : D → Env → R β) : bindD r f = (dd r).bind f := by
  cases r <;> rfl
theorem dd_eq (r : R Val) : (bindD r fun x ρ => R.ok x ρ) = dd r := rfl
section
variable {X : Cx} {a : Expr} {t t' : TE}
theorem pe_weak (h : PE X a t) (k : ∀ σ H Q, t' σ H Q → t σ H Q) : PE X a t' := ⟨fun pins s σ H Q I hq => h.run pins s σ H Q I (k σ H Q hq)⟩
theorem pt_weak {t t' : TT} (h : PT X a t) (k : ∀ σ H Q, t' σ H Q → t σ H Q) : PT X a t' := ⟨fun pins s σ H Q I hq => h.run pins s σ H Q I (k σ H Q hq)⟩
theorem pw_weak {t t' : TT} (h : PW X a t) (k : ∀ σ H Q, t' σ H Q → t σ H Q) : PW X a t' := ⟨fun w pins s σ H Q I hq => h.run w pins s σ H Q I (k σ H Q hq)⟩
theorem pa_weak {as : List Expr} {t t' : TA} (h : PA X as t) (k : ∀ σ H Q, t' σ H Q → t σ H Q) : PA X as t' := ⟨fun pos pins s σ H Q I hq => h.run pos pins s σ H Q I (k σ H Q hq)⟩
theorem pi_weak {tg : Expr} {t t' : TI} (h : PI X tg a t) (k : ∀ σ H Q, t' σ H Q → t σ H Q) : PI X tg a t' := ⟨fun pins s σ H Q I hq => h.run pins s σ H Q I (k σ H Q hq)⟩
theorem ps_weak {st : Stmt} {t t' : TS} (h : PS X st t) (k : ∀ D σ H, t' D σ H → t D σ H) : PS X st t' := ⟨fun pins s σ H D I hq => h.run pins s σ H D I (k D σ H hq)⟩
theorem pss_weak {st : List Stmt} {t t' : TS} (h : PSs X st t) (k : ∀ D σ H, t' D σ H → t D σ H) : PSs X st t' := ⟨fun pins s σ H D I hq => h.run pins s σ H D I (k D σ H hq)⟩
theorem pi_or {tg : Expr} {t t' : TI} (h : PI X tg a t) (h' : PI X tg a t') : PI X tg a (fun σ H R => t σ H R ∨ t' σ H R) := ⟨fun pins s σ H Q I hq => hq.elim (h.run pins s σ H Q I) (h'.run pins s σ H Q I)⟩
variable {xa : XAt τ} {W : WX} {ev : Env → R Val}
theorem pe_toD (h : PE X a (tV X.K xa W ev)) : PE X a (tD X.K xa W fun ρ => dd (ev ρ)) := by
  refine pe_weak h fun σ H Q ⟨e, F, ρ, rel, post⟩ => ⟨e, F, ρ, rel, ?_⟩
  refine (Post.bind post).imp fun x ρ1 F1 H1 ex1 rel1 q v hv => ?_
  obtain ⟨F2, ex2, rep, rel2⟩ := hv.freeze rel1
  exact q F2 H1 ex2 rel2 v rep
theorem pe_toP (h : PE X a (tV X.K xa W ev)) : PE X a (tP X.K xa W fun ρ => dd (ev ρ)) := by
  refine pe_weak (pe_toD h) fun σ H Q ⟨e, F, ρ, rel, post⟩ => ⟨e, F, ρ, rel, ?_⟩
  exact post.imp fun d ρ1 F1 H1 ex1 rel1 q v hv => q v (.inl hv)
/-- an operand that is looked at alone: a name as it stands -/
theorem pe_look {i : Nat} (h : PE X a (tVar i)) : PE X a (tP X.K xa W fun ρ => lookV ρ i) := by
  refine pe_weak h fun σ H Q ⟨e, F, ρ, rel, post⟩ => ?_
  have post : Post X.K xa W e σ F (lookV ρ i) _ := post
  unfold lookV at post
  split at post
  · exact post.elim
  · exact post.elim
  · rename_i s hn hn2 hs
    obtain ⟨v, hv, rep⟩ := rel.look hs ⟨fun xs z => hn xs (by rw [z]), fun a z => hn2 a (by rw [z])⟩
    exact ⟨v, hv, post F H (Ex.refl F) rel v rep⟩
  · exact post.elim
theorem pe_read {i : Nat} (h : PE X a (tVar i)) : PE X a (tV X.K xa W fun ρ => readV ρ i) := by
  refine pe_weak h fun σ H Q ⟨e, F, ρ, rel, post⟩ => ?_
  have post : Post X.K xa W e σ F (readV ρ i) _ := post
  unfold readV at post
  split at post
  · exact post.elim
  · exact post.elim
  · rename_i s hn hn2 hs
    obtain ⟨F', v, ex, hv, rep, rel'⟩ := rel.freeze hs ⟨fun xs z => hn xs (by rw [z]), fun a z => hn2 a (by rw [z])⟩
    exact ⟨v, hv, post F' H ex rel' v rep⟩
  · exact post.elim
/-- a value that is known as it stands -/
theorem pe_const {v : V} {d : D} (h : PE X a (tC v)) (r : ∀ F, Rep X.K F v d) : PE X a (tV X.K xa W fun ρ => .ok (.pv d) ρ) :=
  pe_weak h fun σ H Q ⟨e, F, ρ, rel, post⟩ => post F H (Ex.refl F) rel v (r F)
end

theorem frNew {e : Ent τ} {F H : Hp} {ρ : Env} {σ : L2.St} {p : Addr} {us : List V} {ds : List D} {K : PySem.W.Frag} (rel : Rel K e F H ρ σ) (hp : H p = none) (h : Reps K F us ds) : VR K e F (upd H p (.lst us)) ρ σ (.ref p) (.fr ds) :=
  ⟨p, us, rfl, rel.noneF hp, upd_same, h, (rel.none0 hp).resolve_right (rel.fresh hp).1, (rel.fresh hp).1, (rel.fresh hp).2, rel.apart hp⟩
/-! ### operators: what the layer's rule asks is there where the data's operator answers -/
/-- the answer is plain data again -/
def OpS (X : Cx) (f : Value → Value → Sem Value) (g : D → D → Option D) : Prop := ∃ r : R2, OpR X f r ∧ ∀ {τ : Tls} (e : Ent τ) (F H : Hp) (ρ : Env) (σ : L2.St) (dx dy z : D) (x y : V) (Q : VK), g dx dy = some z → Rel X.K e F H ρ σ → Rep X.K F x dx → Rep X.K F y dy →
  (∀ F' H' v, Ex F F' → Rel X.K e F' H' ρ σ → VR X.K e F' H' ρ σ v (frV z) → Q v H') → r x y H Q
/-- .. of things looked at: the answer hangs on nothing in the heap -/
def OpP (X : Cx) (f : Value → Value → Sem Value) (g : D → D → Option Bool) : Prop := ∃ r : R2, OpR X f r ∧ ∀ (H : Hp) (dx dy : D) (b : Bool) (x y : V) (Q : VK), g dx dy = some b → Rep X.K H x dx → Rep X.K H y dy → Q (.bl b) H → r x y H Q
section
variable {X : Cx} {a b : Expr} {xa : XAt τ} {W : WX} {pos : Pos}
theorem pe_binS {op : Operator} {g : D → D → Option D} {ea eb : Env → R Val} (o : OpS X (binaryOp op) g) (ha : PE X a (tV X.K xa W ea)) (hb : PE X b (tV X.K xa W eb)) :
    PE X (.BinOp a op b pos) (tV X.K xa W fun ρ => bindD (ea ρ) fun x ρ => bindD (eb ρ) fun y ρ => R.ofO ((g x y).map frV) ρ) := by
  obtain ⟨r, ho, k⟩ := o
  refine pe_weak (pe_op ho (pe_toD ha) (pe_toD hb)) fun σ H Q ⟨e, F, ρ, rel, post⟩ => ?_
  simp only [bindD_dd] at post
  refine ⟨e, F, ρ, rel, (Post.bind post).imp fun dx ρ1 F1 H1 ex1 rel1 q x hx => ⟨e, F1, ρ1, rel1, (Post.bind q).imp fun dy ρ2 F2 H2 ex2 rel2 q2 y hy => ?_⟩⟩
  obtain ⟨z, hz, q3⟩ := q2.ofO
  obtain ⟨w, hw, rfl⟩ := Option.map_eq_some_iff.mp hz
  exact k e F2 H2 ρ2 σ dx dy w x y Q hw rel2 (hx.mono ex2) hy fun F' H' v ex rel' rep => q3 F' H' ex rel' v rep
theorem pe_cmpP {op : CmpOp} {g : D → D → Option Bool} {ea : Env → R Val} {eb : Env → R D} (o : OpP X (compareOp op) g) (ha : PE X a (tV X.K xa W ea)) (hb : PE X b (tP X.K xa W eb)) (hm : behindInMarks op b = false) :
    PE X (.Compare a [op] [b] pos) (tV X.K xa W fun ρ => bindD (ea ρ) fun x ρ => (eb ρ).bind fun y ρ => R.ofO ((g x y).map fun b => .pv (.bool b)) ρ) := by
  obtain ⟨r, ho, k⟩ := o
  refine pe_weak (pe_cmpR ho (pe_toD ha) hb hm) fun σ H Q ⟨e, F, ρ, rel, post⟩ => ?_
  simp only [bindD_dd] at post
  refine ⟨e, F, ρ, rel, (Post.bind post).imp fun dx ρ1 F1 H1 ex1 rel1 q x hx => ⟨e, F1, ρ1, rel1, (Post.bind q).imp fun dy ρ2 F2 H2 ex2 rel2 q2 y hy => ?_⟩⟩
  obtain ⟨z, hz, q3⟩ := q2.ofO
  obtain ⟨w, hw, rfl⟩ := Option.map_eq_some_iff.mp hz
  exact k H2 dx dy w x y Q hw ((hx.mono ex2).mono rel2.sub) (hy.rep rel2.sub) (q3 F2 H2 (Ex.refl _) rel2 _ (.bl w))
theorem pe_chainP {c : Expr} {op op' : CmpOp} {g g' : D → D → Option Bool} {ea eb ec : Env → R Val} (o : OpP X (compareOp op) g) (o' : OpP X (compareOp op') g') (ha : PE X a (tV X.K xa W ea)) (hb : PE X b (tV X.K xa W eb)) (hc : PE X c (tV X.K xa W ec))
    (hm : lastMarks [op, op'] [b, c] = false) :
    PE X (.Compare a [op, op'] [b, c] pos) (tV X.K xa W fun ρ => bindD (ea ρ) fun x ρ => bindD (eb ρ) fun y ρ => chainD (g x y) (bindD (ec ρ) fun z ρ => R.ofO ((g' y z).map fun b => .pv (.bool b)) ρ) ρ) := by
  obtain ⟨r, ho, k⟩ := o
  obtain ⟨r', ho', k'⟩ := o'
  refine pe_weak (pe_chain ho ho' (pe_toD ha) (pe_toD hb) (pe_toD hc) hm) fun σ H Q ⟨e, F, ρ, rel, post⟩ => ?_
  simp only [bindD_dd] at post
  refine ⟨e, F, ρ, rel, (Post.bind post).imp fun dx ρ1 F1 H1 ex1 rel1 q x hx => ⟨e, F1, ρ1, rel1, (Post.bind q).imp fun dy ρ2 F2 H2 ex2 rel2 q2 y hy => ?_⟩⟩
  cases hg : g dx dy with
  | none => rw [hg] at q2; exact q2.elim
  | some w =>
    refine k H2 dx dy w x y _ hg ((hx.mono ex2).mono rel2.sub) (hy.mono rel2.sub) ⟨w, rfl, ?_⟩
    rw [hg] at q2
    cases w with
    | false => exact q2 F2 H2 (Ex.refl _) rel2 _ (.bl false)
    | true =>
      refine ⟨e, F2, ρ2, rel2, (Post.bind q2).imp fun dz ρ3 F3 H3 ex3 rel3 q3 z hz => ?_⟩
      obtain ⟨u, hu, q4⟩ := q3.ofO
      obtain ⟨w', hw', rfl⟩ := Option.map_eq_some_iff.mp hu
      exact k' H3 dy dz w' y z Q hw' ((hy.mono ex3).mono rel3.sub) (hz.mono rel3.sub) (q4 F3 H3 (Ex.refl _) rel3 _ (.bl w'))
end
section
variable {X : Cx}
theorem OpS.or {f : Value → Value → Sem Value} {g g' k : D → D → Option D} (h : OpS X f g) (h' : OpS X f g') (hk : ∀ x y z, k x y = some z → g x y = some z ∨ g' x y = some z) : OpS X f k := by
  obtain ⟨r, ho, q⟩ := h
  obtain ⟨r', ho', q'⟩ := h'
  refine ⟨_, ho.or ho', fun e F H ρ σ dx dy z x y Q hz rel rx ry c => ?_⟩
  rcases hk dx dy z hz with hz | hz
  · exact .inl (q e F H ρ σ dx dy z x y Q hz rel rx ry c)
  · exact .inr (q' e F H ρ σ dx dy z x y Q hz rel rx ry c)
theorem OpP.or {f : Value → Value → Sem Value} {g g' k : D → D → Option Bool} (h : OpP X f g) (h' : OpP X f g') (hk : ∀ x y z, k x y = some z → g x y = some z ∨ g' x y = some z) : OpP X f k := by
  obtain ⟨r, ho, q⟩ := h
  obtain ⟨r', ho', q'⟩ := h'
  refine ⟨_, ho.or ho', fun H dx dy z x y Q hz rx ry c => ?_⟩
  rcases hk dx dy z hz with hz | hz
  · exact .inl (q H dx dy z x y Q hz rx ry c)
  · exact .inr (q' H dx dy z x y Q hz rx ry c)
/-- an operator on two ints, where C holds of them -/
def gI (C : Int → Int → Prop) [∀ i j, Decidable (C i j)] (f : Int → Int → Int) : D → D → Option D
  | .int i, .int j => if C i j then some (.int (f i j)) else none
  | _, _ => none
theorem ops_int {f : Value → Value → Sem Value} {C : Int → Int → Prop} [∀ i j, Decidable (C i j)] {C' : Int → Int → Prop} {g : Int → Int → Int} (ho : OpR X f (rI C' fun i j => .int (g i j))) (hc : ∀ i j, C i j → C' i j) : OpS X f (gI C g) := by
  refine ⟨_, ho, fun e F H ρ σ dx dy z x y Q hz rel rx ry c => ?_⟩
  unfold gI at hz
  split at hz
  · rename_i i j
    split at hz
    · rename_i hh
      cases hz
      exact ⟨i, j, rx.int_inv, ry.int_inv, hc i j hh, c F H _ (Ex.refl F) rel (.int _)⟩
    · cases hz
  · cases hz
theorem ops_int0 {f : Value → Value → Sem Value} {g : Int → Int → Int} (ho : OpR X f (rI0 fun i j => .int (g i j))) : OpS X f (gI (fun _ _ => True) g) := by
  refine ⟨_, ho, fun e F H ρ σ dx dy z x y Q hz rel rx ry c => ?_⟩
  unfold gI at hz
  split at hz
  · rename_i i j
    cases hz
    exact ⟨i, j, rx.int_inv, ry.int_inv, c F H _ (Ex.refl F) rel (.int _)⟩
  · cases hz
theorem log2_big {n : Nat} {k : Nat} (h0 : 0 < k) (h : n < 2 ^ k) : n.log2 < k := PySem.Flt.log2_lt_of h0 h
theorem lim_size {n : Nat} (h : n ≤ LIM) : n ≤ sizeLine := Nat.le_trans h (by decide)
theorem lim_lt {n : Nat} (h : n < LIM) : n < sizeLine := Nat.lt_of_lt_of_le h (by decide)
theorem bigMul {i j : Int} (hi : i.natAbs < BIG) (hj : j.natAbs < BIG) : CMulX i j := by
  rw [BIG_eq] at hi hj
  exact mulx_ok hi hj (by decide)
theorem op_divS : OpS X (binaryOp .FloorDiv) (gI (fun _ j => 0 < j ∧ j.natAbs < DIVB) (· / ·)) := ops_int op_fdivW fun i j h => ⟨h.1, log2_big (by decide) (by rw [← DIVB_eq]; exact h.2)⟩
theorem op_fdivAny : OpR X (binaryOp .FloorDiv) (rI (fun _ j => j ≠ 0 ∧ j.natAbs.log2 < 9000) fun i j => .int (i.fdiv j)) := opI fun _ _ _ _ _ _ _ hc q =>
  floordiv_int hc.1 q (.inl (PyProof.noPylong_of_log2 hc.2))
theorem op_divN : OpS X (binaryOp .FloorDiv) (gI (fun _ j => j < 0 ∧ j.natAbs < DIVB) Int.fdiv) := ops_int op_fdivAny fun i j h => ⟨by omega, log2_big (by decide) (by rw [← DIVB_eq]; exact h.2)⟩
theorem op_modS : OpS X (binaryOp .Mod) (gI (fun _ j => 0 < j) (· % ·)) := ops_int op_mod fun i j h => h
theorem op_modSN : OpS X (binaryOp .Mod) (gI (fun _ j => j < 0) Int.fmod) := ops_int op_modN fun i j h => by omega
theorem op_powS : OpS X (binaryOp .Pow) (gI (fun i j => 0 ≤ j ∧ j ≤ 1000000 ∧ i.natAbs < 2 ^ 64) fun i j => i ^ j.toNat) := ops_int op_pow fun i j h => h
theorem op_shlS : OpS X (binaryOp .LShift) (gI (fun i j => 0 ≤ j ∧ j ≤ 1000000 ∧ i.natAbs < 2 ^ 64) fun i j => i * 2 ^ j.toNat) := ops_int op_shl fun i j h => h
theorem op_shrS : OpS X (binaryOp .RShift) (gI (fun _ j => 0 ≤ j) fun i j => i / 2 ^ j.toNat) := ops_int op_shr fun i j h => h
/-- + of texts, lists, tuples -/
def gStr : D → D → Option D
  | .str a, .str b => if a.length + b.length ≤ LIM then some (.str (a ++ b)) else none
  | _, _ => none
theorem op_strS : OpS X (binaryOp .Add) gStr := by
  refine ⟨_, op_add_str, fun e F H ρ σ dx dy z x y Q hz rel rx ry c => ?_⟩
  unfold gStr at hz
  split at hz
  · split at hz
    · rename_i hh
      cases hz
      exact ⟨_, _, rx.str_inv, ry.str_inv, lim_size hh, c F H _ (Ex.refl F) rel (.str _)⟩
    · cases hz
  · cases hz
def gTup : D → D → Option D
  | .tuple xs, .tuple ys => if xs.length + ys.length ≤ LIM then some (.tuple (xs ++ ys)) else none
  | _, _ => none
theorem op_tupS : OpS X (binaryOp .Add) gTup := by
  refine ⟨_, op_catA, fun e F H ρ σ dx dy z x y Q hz rel rx ry c => ?_⟩
  unfold gTup at hz
  split at hz
  · rename_i xs ys
    split at hz
    · rename_i hh
      cases hz
      obtain ⟨a, us, rfl, ha, hs⟩ := rx.tup_inv
      obtain ⟨b, ws, rfl, hb, ht⟩ := ry.tup_inv
      refine ⟨a, b, us, ws, rfl, rfl, rel.sub.sqT ha, rel.sub.sqT hb, by rw [hs.length, ht.length]; exact lim_size hh, fun e1 => ?_, fun e1 e2 => ?_, fun e1 e2 p hp => ?_⟩
      · subst e1
        cases hs
        exact c F H _ (Ex.refl F) rel (show Rep X.K F (.ref b) (.tuple ([] ++ ys)) from ry)
      · subst e2
        cases ht
        exact c F H _ (Ex.refl F) rel (show Rep X.K F (.ref a) (.tuple (xs ++ [])) by rw [List.append_nil]; exact rx)
      · have hF := rel.noneF hp
        exact c _ _ _ (Ex.new hF) (rel.new hp) (.tup (.inl (.inl upd_same)) (Reps.mono (Ex.new hF) (hs.append ht)))
    · cases hz
  · cases hz
/-- a list that is known as it stands -/
theorem rd_list {X : Cx} {pins : List (Addr × Obj)} {σ : L2.St} {H : Hp} {s : Shared} {a : Addr} {xs : List V} (I : Inv X pins σ H s) (h : Rd H a (.lst xs)) : xs.length ≤ sizeLine ∧ ∃ (its : List Value) (n : Nat), Vals xs its ∧ s.heap.get? a = some { cls := .type "list", data := .seq its.toArray n } := h.ok I.hok
def rCatL : R2 := fun x y H Q => ∃ l b xs zs, x = .ref l ∧ y = .ref b ∧ Rd H l (.lst xs) ∧ Rd H b (.lst zs) ∧ xs.length + zs.length ≤ sizeLine ∧ ∀ p, H p = none → Q (.ref p) (upd H p (.lst (xs ++ zs)))
theorem op_catL : OpR X (binaryOp .Add) rCatL := by
  intro pins s σ H x y v u Q I rx ry h
  obtain ⟨l, b, xs, zs, rfl, rfl, hH, hB, hz, q⟩ := h
  cases rx
  cases ry
  obtain ⟨z, its, n, r, e⟩ := rd_list I hH
  obtain ⟨z2, its2, n2, r2, e2⟩ := rd_list I hB
  have hl := r.length
  have hl2 := r2.length
  refine PySem.P.add_list e e2 ?_ (by rw [List.size_toArray, List.size_toArray]; omega)
  have ea : its.toArray ++ its2.toArray = (its ++ its2).toArray := by simp
  rw [ea]
  exact ⟨.ref _, _, I.lnew (t' := s.toks) (r.append r2) (by rw [List.length_append]; omega), rfl, q _ I.fresh⟩
def gLst : D → D → Option D
  | .list xs, .list ys => if xs.length + ys.length ≤ LIM then some (.list (xs ++ ys)) else none
  | _, _ => none
theorem op_lstS : OpS X (binaryOp .Add) gLst := by
  refine ⟨_, op_catL, fun e F H ρ σ dx dy z x y Q hz rel rx ry c => ?_⟩
  unfold gLst at hz
  split at hz
  · rename_i xs ys
    split at hz
    · rename_i hh
      cases hz
      obtain ⟨a, us, rfl, ha, hs⟩ := rx.list_inv
      obtain ⟨b, ws, rfl, hb, ht⟩ := ry.list_inv
      refine ⟨a, b, us, ws, rfl, rfl, rel.sub.rd ha, rel.sub.rd hb, by rw [hs.length, ht.length]; exact lim_size hh, fun p hp => ?_⟩
      have hF := rel.noneF hp
      exact c _ _ _ (Ex.refl F) (rel.laid hp) (frNew rel hp (hs.append ht))
    · cases hz
  · cases hz
theorem sml_bits {i : Int} (h : i.natAbs < 2 ^ 62) : Builtin.Int.intBits i ≤ 64 := Nat.le_trans (PyProof.Rows.intBits_le h) (by decide)
theorem op_mulO : OpR X (binaryOp .Mult) (rI IntMulOk fun i j => .int (i * j)) := opI fun _ _ _ _ _ _ _ hc q => mul_int q hc
theorem op_mulS : OpS X (binaryOp .Mult) (gI (fun i j => i.natAbs < 2 ^ 62 ∨ j.natAbs < 2 ^ 62 ∨ (i.natAbs < BIG ∧ j.natAbs < BIG)) (· * ·)) := ops_int op_mulO fun i j h => by
  rcases h with h | h | h
  · exact IntMulOk.of_left (sml_bits h)
  · exact IntMulOk.of_right (sml_bits h)
  · exact (bigMul h.1 h.2).ok
theorem Reps.rep {K : PySem.W.Frag} {F : Hp} {us : List V} {xs : List D} (h : Reps K F us xs) : ∀ k : Nat, Reps K F (List.replicate k us).flatten (List.replicate k xs).flatten
  | 0 => .nil
  | k + 1 => by
    rw [List.replicate_succ, List.replicate_succ, List.flatten_cons, List.flatten_cons]
    exact h.append (Reps.rep h k)
def gRepT : D → D → Option D
  | .tuple xs, .int k => if k.natAbs < 2 ^ 62 ∧ xs.length * k.toNat ≤ LIM then some (.tuple (List.replicate k.toNat xs).flatten) else none
  | _, _ => none
theorem op_repTS : OpS X (binaryOp .Mult) gRepT := by
  refine ⟨_, op_repA, fun e F H ρ σ dx dy z x y Q hz rel rx ry c => ?_⟩
  unfold gRepT at hz
  split at hz
  · rename_i xs k
    split at hz
    · rename_i hh
      cases hz
      obtain ⟨a, us, rfl, ha, hs⟩ := rx.tup_inv
      refine ⟨a, k, us, rfl, ry.int_inv, rel.sub.sqT ha, ⟨by omega, by omega⟩, by rw [hs.length]; exact hh.2, fun hw => ?_, fun hw p hp => ?_⟩
      · refine c F H _ (Ex.refl F) rel ?_
        have e : (List.replicate k.toNat xs).flatten = xs := by
          rcases hw with e | e
          · subst e
            cases hs
            simp
          · subst e
            simp
        show Rep X.K F (.ref a) (.tuple _)
        rw [e]
        exact rx
      · have hF := rel.noneF hp
        exact c _ _ _ (Ex.new hF) (rel.new hp) (.tup (.inl (.inl upd_same)) (Reps.mono (Ex.new hF) (hs.rep _)))
    · cases hz
  · cases hz
def rRepL : R2 := fun x y H Q => ∃ l k xs, x = .ref l ∧ y = .int k ∧ Rd H l (.lst xs) ∧ -(2 ^ 63) ≤ k ∧ k < 2 ^ 63 ∧ xs.length * k.toNat ≤ sizeLine ∧ ∀ p, H p = none → Q (.ref p) (upd H p (.lst (List.replicate k.toNat xs).flatten))
theorem op_repL : OpR X (binaryOp .Mult) rRepL := by
  intro pins s σ H x y v u Q I rx ry h
  obtain ⟨l, k, xs, rfl, rfl, hH, h1, h2, hz, q⟩ := h
  cases rx
  obtain ⟨t, rfl⟩ := ry
  obtain ⟨z, its, n, r, e⟩ := rd_list I hH
  have hl := r.length
  have hlen : its.toArray.size * k.toNat ≤ sizeLine := by rw [List.size_toArray, ← hl]; exact hz
  have hcap : ¬ its.toArray.size * k.toNat > (2 ^ 63 - 1) / 8 := by
    have : (sizeLine : Nat) ≤ (2 ^ 63 - 1) / 8 := by decide
    omega
  have hfit : ¬ (!Builtin.List.listFitsIndex k) = true := by
    rw [fitsIndex_both h1 h2]
    exact Bool.false_ne_true
  have hlong : ¬ Builtin.List.listTooLong (its.toArray.size * k.toNat) = true := by
    rw [notLongL hlen]
    exact Bool.false_ne_true
  have hnew : List.foldl (fun x1 x2 => x1 ++ x2) #[] (List.replicate (if its.toArray.isEmpty = true then 0 else k.toNat) its.toArray) = (List.replicate k.toNat its).flatten.toArray := by
    have f0 : ∀ m : Nat, List.foldl (fun x1 x2 => x1 ++ x2) #[] (List.replicate m its.toArray) = (List.replicate m its).flatten.toArray := fun m => by
      have := foldl_rep its m []
      rw [List.nil_append] at this
      exact this
    rw [f0]
    cases its with
    | nil => simp
    | cons a r' => rw [if_neg (by simp)]
  refine wpAny_binaryOp_repeat_ref (T := "list") (U := "int") (by decide) ⟨_, e, rfl⟩ (fun s' => typeIs_int s' k t) noFill_list_mul F.fills_int_mul F.slot_int_rmul repeat_list F.slot_int_index.lookup
    (call_meets F.slot_int_rmul (typeIs_int s k t) F.entry_int_rmul (F.args_int_rmul_2 _ _) (int___rmul___int_list k t l its.toArray n)
      ⟨e, rfl, ⟨_, e, rfl⟩, call_meets F.slot_list_mul ⟨_, e, rfl⟩ F.entry_list_mul (F.args_list_mul_2 _ _) (AutoListH.list___mul___list_int_3 l its.toArray n k t hfit hcap hlong) ⟨e, ?_⟩⟩)
  rw [hnew]
  exact ⟨.ref _, _, I.lnew (t' := s.toks) (r.rep k.toNat) (by rw [PyProof.Rows.lm_len_rep_flat, Nat.mul_comm]; exact hz), rfl, q _ I.fresh⟩
def gRepL : D → D → Option D
  | .list xs, .int k => if k.natAbs < 2 ^ 62 ∧ xs.length * k.toNat ≤ LIM then some (.list (List.replicate k.toNat xs).flatten) else none
  | _, _ => none
theorem op_repLS : OpS X (binaryOp .Mult) gRepL := by
  refine ⟨_, op_repL, fun e F H ρ σ dx dy z x y Q hz rel rx ry c => ?_⟩
  unfold gRepL at hz
  split at hz
  · rename_i xs k
    split at hz
    · rename_i hh
      cases hz
      obtain ⟨a, us, rfl, ha, hs⟩ := rx.list_inv
      refine ⟨a, k, us, rfl, ry.int_inv, rel.sub.rd ha, by omega, by omega, by rw [hs.length]; exact lim_size hh.2, fun p hp => ?_⟩
      exact c _ _ _ (Ex.refl F) (rel.laid hp) (frNew rel hp (hs.rep _))
    · cases hz
  · cases hz
theorem op_repStr : OpR X (binaryOp .Mult) (fun x y H Q => ∃ i k, x = .str i ∧ y = .int k ∧ (-(2 ^ 62) ≤ k ∧ k < 2 ^ 62) ∧ i.length * k.toNat ≤ 1000000 ∧ Q (.str (Txt.mul i k)) H) := by
  intro pins s σ H x y v u Q I rx ry h
  obtain ⟨i, k, rfl, rfl, hk, hz, q⟩ := h
  obtain ⟨t, rfl⟩ := rx
  obtain ⟨t', rfl⟩ := ry
  refine SB.mul ⟨?_, fun h1 h2 => ?_, fun h1 h2 => ?_⟩ (fun t' tk => ⟨.str (Txt.mul i k), H, I.tok _, ⟨_, rfl⟩, q⟩)
  · rw [decide_eq_false (by omega), decide_eq_false (by omega)] <;> rfl
  · have e : ((i.length : Nat) : Int) * k = ((i.length * k.toNat : Nat) : Int) := by rw [Int.natCast_mul, Int.toNat_of_nonneg (by omega)]
    have hb : ((i.length : Nat) : Int) * k ≤ 2 ^ 63 - 1 := by omega
    have := (Int.le_ediv_iff_mul_le (show (0 : Int) < k by omega)).mpr hb
    omega
  · unfold Builtin.Str.tooLong
    exact decide_eq_false (by have := lim_size hz; omega)
def gRepS : D → D → Option D
  | .str s, .int k => if k.natAbs < 2 ^ 62 ∧ s.length * k.toNat ≤ LIM then some (.str (Txt.mul s k)) else none
  | _, _ => none
theorem op_repSS : OpS X (binaryOp .Mult) gRepS := by
  refine ⟨_, op_repStr, fun e F H ρ σ dx dy z x y Q hz rel rx ry c => ?_⟩
  unfold gRepS at hz
  split at hz
  · split at hz
    · rename_i hh
      cases hz
      exact ⟨_, _, rx.str_inv, ry.int_inv, ⟨by omega, by omega⟩, hh.2, c F H _ (Ex.refl F) rel (.str _)⟩
    · cases hz
  · cases hz
def opOf : BOp → Operator
  | .add => .Add
  | .sub => .Sub
  | .mul => .Mult
  | .fdiv => .FloorDiv
  | .mod => .Mod
  | .pow => .Pow
  | .shl => .LShift
  | .shr => .RShift
  | .band => .BitAnd
  | .bor => .BitOr
  | .bxor => .BitXor
theorem OpS.of {f : Value → Value → Sem Value} {g k : D → D → Option D} (h : OpS X f g) (hk : ∀ x y z, k x y = some z → g x y = some z) : OpS X f k := h.or h fun x y z q => .inl (hk x y z q)
theorem bin_ok (o : BOp) : OpS X (binaryOp (opOf o)) (binD o) := by
  cases o with
  | add =>
    refine (OpS.or (OpS.or (ops_int0 op_add) op_strS (k := fun x y => (gI (fun _ _ => True) (· + ·) x y).orElse fun _ => gStr x y) ?_) (OpS.or op_tupS op_lstS (k := fun x y => (gTup x y).orElse fun _ => gLst x y) ?_)) ?_
    · intro x y z h
      cases hx : gI (fun _ _ => True) (· + ·) x y with
      | some w => simp only [hx, Option.orElse] at h; exact .inl h
      | none => simp only [hx, Option.orElse] at h; exact .inr h
    · intro x y z h
      cases hx : gTup x y with
      | some w => simp only [hx, Option.orElse] at h; exact .inl h
      | none => simp only [hx, Option.orElse] at h; exact .inr h
    · intro x y z h
      cases x <;> cases y <;> first | (cases h; done) | (left; exact h) | (right; exact h) | (right; simp only [binD] at h; simp only [gTup]; split at h <;> simp_all [Option.orElse])
  | sub => exact (ops_int0 op_sub).of fun x y z h => by cases x <;> cases y <;> first | exact h | cases h
  | mul =>
    refine OpS.or (OpS.or op_mulS op_repTS (k := fun x y => (gI (fun i j => i.natAbs < 2 ^ 62 ∨ j.natAbs < 2 ^ 62 ∨ (i.natAbs < BIG ∧ j.natAbs < BIG)) (· * ·) x y).orElse fun _ => gRepT x y) ?_) (OpS.or op_repLS op_repSS (k := fun x y => (gRepL x y).orElse fun _ => gRepS x y) ?_) fun x y z h => ?_
    · intro x y z h
      cases hx : gI (fun i j => i.natAbs < 2 ^ 62 ∨ j.natAbs < 2 ^ 62 ∨ (i.natAbs < BIG ∧ j.natAbs < BIG)) (· * ·) x y with
      | some w => simp only [hx, Option.orElse] at h; exact .inl h
      | none => simp only [hx, Option.orElse] at h; exact .inr h
    · intro x y z h
      cases hx : gRepL x y with
      | some w => simp only [hx, Option.orElse] at h; exact .inl h
      | none => simp only [hx, Option.orElse] at h; exact .inr h
    · cases x <;> cases y <;> first | (cases h; done) | (left; simp only [binD] at h; simp only [gI, gRepT, h]; split at h <;> first | (cases h; done) | (simp_all [Option.orElse]; done)) | (right; simp only [binD] at h; simp only [gRepL, gRepS, h]; split at h <;> first | (cases h; done) | (simp_all [Option.orElse]; done))
  | fdiv =>
    refine op_divS.or op_divN fun x y z h => ?_
    cases x <;> cases y <;> first | (cases h; done) | skip
    rename_i i j
    simp only [binD] at h
    by_cases h1 : 0 < j ∧ j.natAbs < DIVB
    · rw [if_pos h1] at h; left; simp only [gI]; rw [if_pos h1]; exact h
    · rw [if_neg h1] at h; right; simp only [gI]; exact h
  | mod =>
    refine op_modS.or op_modSN fun x y z h => ?_
    cases x <;> cases y <;> first | (cases h; done) | skip
    rename_i i j
    simp only [binD] at h
    by_cases h1 : 0 < j
    · rw [if_pos h1] at h; left; simp only [gI]; rw [if_pos h1]; exact h
    · rw [if_neg h1] at h; right; simp only [gI]; exact h
  | pow => exact op_powS.of fun x y z h => by cases x <;> cases y <;> first | exact h | cases h
  | shl => exact op_shlS.of fun x y z h => by cases x <;> cases y <;> first | exact h | cases h
  | shr => exact op_shrS.of fun x y z h => by cases x <;> cases y <;> first | exact h | cases h
  | band => exact (ops_int0 op_and).of fun x y z h => by cases x <;> cases y <;> first | exact h | cases h
  | bor => exact (ops_int0 op_or).of fun x y z h => by cases x <;> cases y <;> first | exact h | cases h
  | bxor => exact (ops_int0 op_xor).of fun x y z h => by cases x <;> cases y <;> first | exact h | cases h
end
end Pv

namespace Pv
open PySem L2 PyProof.Rows

/-! ### comparisons -/
def cmpOf : COp → CmpOp
  | .eq => .Eq
  | .ne => .NotEq
  | .lt => .Lt
  | .le => .LtE
  | .gt => .Gt
  | .ge => .GtE
  | .isin => .In
  | .notin => .NotIn
  | .is => .Is
  | .isnot => .IsNot
section
variable {X : Cx}
def gB (p : Int → Int → Bool) : D → D → Option Bool
  | .int i, .int j => some (p i j)
  | _, _ => none
theorem opp_int {f : Value → Value → Sem Value} {p : Int → Int → Bool} (ho : OpR X f (rI0 fun i j => .bl (p i j))) : OpP X f (gB p) := by
  refine ⟨_, ho, fun H dx dy b x y Q hz rx ry q => ?_⟩
  unfold gB at hz
  split at hz
  · cases hz
    exact ⟨_, _, rx.int_inv, ry.int_inv, q⟩
  · cases hz
theorem OpP.of {f : Value → Value → Sem Value} {g k : D → D → Option Bool} (h : OpP X f g) (hk : ∀ x y z, k x y = some z → g x y = some z) : OpP X f k := h.or h fun x y z q => .inl (hk x y z q)
def gLtT : D → D → Option Bool
  | .tuple xs, .tuple ys => lexD xs ys
  | _, _ => none
theorem opp_ltT (hu : X.A.units + 100 < cLine) : OpP X (compareOp .Lt) gLtT := by
  refine ⟨_, op_ltT (by omega), fun H dx dy b x y Q hz rx ry q => ?_⟩
  unfold gLtT at hz
  split at hz
  · rename_i xs ys
    unfold lexD at hz
    obtain ⟨ns, h1, h2⟩ := Option.bind_eq_some_iff.mp hz
    obtain ⟨ms, h3, h4⟩ := Option.map_eq_some_iff.mp h2
    obtain ⟨a, us, rfl, ha, hs⟩ := rx.tup_inv
    obtain ⟨c, ws, rfl, hb, ht⟩ := ry.tup_inv
    rw [hs.intsOf h1] at ha
    rw [ht.intsOf h3] at hb
    refine ⟨a, c, ns, ms, rfl, rfl, ha, hb, ?_⟩
    rw [h4]
    exact q
  · cases hz
def rInD (K : PySem.W.Frag) (neg : Bool) : R2 := fun x y H Q => ∃ (d : D) (xs : List D), Dp K H x d ∧ ((Dp K H y (.list xs) ∧ SeqAt.shaped (.list xs) = true) ∨ (Dp K H y (.tuple xs) ∧ SeqAt.shaped (.tuple xs) = true)) ∧ SeqAt.shaped d = true ∧ Q (.bl (if neg then !(xs.any fun y => PyData.eqv y d) else xs.any fun y => PyData.eqv y d)) H
theorem shp_parts {d : D} (h : shp d = true) : SeqAt.shaped d = true ∧ noDic d = true := Bool.and_eq_true_iff.mp h
theorem shaped_parts {d : D} (h : SeqAt.shaped d = true) : d.canLay0 = true ∧ d.depth ≤ 64 := ⟨(Bool.and_eq_true_iff.mp h).1, of_decide_eq_true (Bool.and_eq_true_iff.mp h).2⟩
theorem op_inD (hu : X.A.units + 100 < cLine) : OpR X (compareOp .In) (rInD X.K false) := by
  intro pins s σ H x y v u Q I rx ry h
  obtain ⟨d, xs, hd, hq, sd, q⟩ := h
  obtain ⟨as, r1⟩ := Dp.reads I d x v hd rx
  obtain ⟨cd, dd⟩ := shaped_parts sd
  have hm : ∀ n, X.A.units + 1 + min n d.depth < cLine := fun n => by have := Nat.min_le_right n d.depth; omega
  rcases hq with ⟨hq, sl⟩ | ⟨hq, sl⟩
  · obtain ⟨bs, r2⟩ := Dp.reads I _ y u hq ry
    exact PySem.SeqAt.in_list_reads r2 r1 (by have := (shaped_parts sl).1; rwa [PyData.canLay0] at this) cd (hm _) ⟨.bl _, H, I, rfl, q⟩
  · obtain ⟨bs, r2⟩ := Dp.reads I _ y u hq ry
    exact PySem.SeqAt.in_tuple_reads r2 r1 (by have := (shaped_parts sl).1; rwa [PyData.canLay0] at this) cd (hm _) ⟨.bl _, H, I, rfl, q⟩
theorem op_notInD (hu : X.A.units + 100 < cLine) : OpR X (compareOp .NotIn) (rInD X.K true) := by
  intro pins s σ H x y v u Q I rx ry h
  obtain ⟨d, xs, hd, hq, sd, q⟩ := h
  obtain ⟨as, r1⟩ := Dp.reads I d x v hd rx
  obtain ⟨cd, dd⟩ := shaped_parts sd
  have hm : ∀ n, X.A.units + 1 + min n d.depth < cLine := fun n => by have := Nat.min_le_right n d.depth; omega
  rcases hq with ⟨hq, sl⟩ | ⟨hq, sl⟩
  · obtain ⟨bs, r2⟩ := Dp.reads I _ y u hq ry
    exact PySem.SeqAt.notIn_list_reads r2 r1 (by have := (shaped_parts sl).1; rwa [PyData.canLay0] at this) cd (hm _) ⟨.bl _, H, I, rfl, q⟩
  · obtain ⟨bs, r2⟩ := Dp.reads I _ y u hq ry
    exact PySem.SeqAt.notIn_tuple_reads r2 r1 (by have := (shaped_parts sl).1; rwa [PyData.canLay0] at this) cd (hm _) ⟨.bl _, H, I, rfl, q⟩
theorem isN_ok {K : PySem.W.Frag} {F : Hp} {x : V} {d : D} (h : Rep K F x d) : decide (x = .non) = isNo d := by
  cases h <;> rfl
theorem cmp_ok (hu : X.A.units + 100 < cLine) (o : COp) : OpP X (compareOp (cmpOf o)) (cmpD o) := by
  cases o with
  | eq =>
    refine ⟨_, op_eqD (by omega), fun H dx dy b x y Q hz rx ry q => ?_⟩
    simp only [cmpD] at hz
    split at hz
    · rename_i h
      cases hz
      exact ⟨dx, dy, rx.dp (shp_parts h.1).2, ry.dp (shp_parts h.2).2, (shp_parts h.1).1, (shp_parts h.2).1, q⟩
    · cases hz
  | ne =>
    refine ⟨_, op_neD (by omega), fun H dx dy b x y Q hz rx ry q => ?_⟩
    simp only [cmpD] at hz
    split at hz
    · rename_i h
      cases hz
      exact ⟨dx, dy, rx.dp (shp_parts h.1).2, ry.dp (shp_parts h.2).2, (shp_parts h.1).1, (shp_parts h.2).1, q⟩
    · cases hz
  | lt =>
    refine (opp_int op_lt).or (opp_ltT hu) fun x y z h => ?_
    cases x <;> cases y <;> first | (cases h; done) | (left; exact h) | (right; exact h)
  | le => exact (opp_int op_le).of fun x y z h => by cases x <;> cases y <;> first | exact h | cases h
  | gt => exact (opp_int op_gt).of fun x y z h => by cases x <;> cases y <;> first | exact h | cases h
  | ge => exact (opp_int op_ge).of fun x y z h => by cases x <;> cases y <;> first | exact h | cases h
  | isin =>
    refine ⟨_, op_inD hu, fun H dx dy b x y Q hz rx ry q => ?_⟩
    cases dy <;> first | (cases hz; done) | skip
    · simp only [cmpD] at hz
      split at hz
      · rename_i h
        cases hz
        exact ⟨dx, _, rx.dp (shp_parts h.1).2, .inl ⟨ry.dp (shp_parts h.2).2, (shp_parts h.2).1⟩, (shp_parts h.1).1, q⟩
      · cases hz
    · simp only [cmpD] at hz
      split at hz
      · rename_i h
        cases hz
        exact ⟨dx, _, rx.dp (shp_parts h.1).2, .inr ⟨ry.dp (shp_parts h.2).2, (shp_parts h.2).1⟩, (shp_parts h.1).1, q⟩
      · cases hz
  | notin =>
    refine ⟨_, op_notInD hu, fun H dx dy b x y Q hz rx ry q => ?_⟩
    cases dy <;> first | (cases hz; done) | skip
    · simp only [cmpD] at hz
      split at hz
      · rename_i h
        cases hz
        exact ⟨dx, _, rx.dp (shp_parts h.1).2, .inl ⟨ry.dp (shp_parts h.2).2, (shp_parts h.2).1⟩, (shp_parts h.1).1, q⟩
      · cases hz
    · simp only [cmpD] at hz
      split at hz
      · rename_i h
        cases hz
        exact ⟨dx, _, rx.dp (shp_parts h.1).2, .inr ⟨ry.dp (shp_parts h.2).2, (shp_parts h.2).1⟩, (shp_parts h.1).1, q⟩
      · cases hz
  | is =>
    have o1 : OpP X (compareOp .Is) (fun x y => match y with
        | .none => some (isNo x)
        | _ => none) := ⟨_, op_isN, fun H dx dy b x y Q hz rx ry q => by
      cases dy <;> first | (cases hz; done) | skip
      refine ⟨ry.none_inv, ?_⟩
      rw [isN_ok rx]
      cases hz
      exact q⟩
    have o2 : OpP X (compareOp .Is) (fun x y => match x, y with
        | .bool a, .bool b => some (decide (a = b))
        | _, _ => none) := ⟨_, L2.op_is_bl, fun H dx dy b x y Q hz rx ry q => by
      cases dx <;> cases dy <;> first | (cases hz; done) | skip
      cases hz
      exact ⟨_, _, rx.bool_inv, ry.bool_inv, q⟩⟩
    exact o1.or o2 fun x y z h => by cases x <;> cases y <;> first | (left; exact h) | (right; exact h)
  | isnot =>
    have o1 : OpP X (compareOp .IsNot) (fun x y => match y with
        | .none => some (!isNo x)
        | _ => none) := ⟨_, op_notN, fun H dx dy b x y Q hz rx ry q => by
      cases dy <;> first | (cases hz; done) | skip
      refine ⟨ry.none_inv, ?_⟩
      rw [isN_ok rx]
      cases hz
      exact q⟩
    have o2 : OpP X (compareOp .IsNot) (fun x y => match x, y with
        | .bool a, .bool b => some (!decide (a = b))
        | _, _ => none) := ⟨_, L2.op_isnot_bl, fun H dx dy b x y Q hz rx ry q => by
      cases dx <;> cases dy <;> first | (cases hz; done) | skip
      cases hz
      exact ⟨_, _, rx.bool_inv, ry.bool_inv, q⟩⟩
    exact o1.or o2 fun x y z h => by cases x <;> cases y <;> first | (left; exact h) | (right; exact h)
end

/-! ### tests -/
section
variable {X : Cx} {a b : Expr} {xa : XAt τ} {W : WX} {pos : Pos}
theorem truB_bool {b : Bool} : truB (.bool b) = some b := rfl
theorem pt_cmpP {op : CmpOp} {g : D → D → Option Bool} {ea : Env → R Val} {eb : Env → R D} (o : OpP X (compareOp op) g) (ha : PE X a (tV X.K xa W ea)) (hb : PE X b (tP X.K xa W eb)) (hm : behindInMarks op b = false) :
    PT X (.Compare a [op] [b] pos) (tBo X.K xa W fun ρ => (dd (bindD (ea ρ) fun x ρ => (eb ρ).bind fun y ρ => R.ofO ((g x y).map fun b => .pv (.bool b)) ρ)).bind fun x ρ => R.ofO (truB x) ρ) := by
  obtain ⟨r, ho, k⟩ := o
  refine pt_weak (pt_cmpR ho (pe_toD ha) hb hm) fun σ H Q ⟨e, F, ρ, rel, post⟩ => ?_
  have e1 : ∀ r : R D, (dd (r.bind fun x ρ => (eb ρ).bind fun y ρ => R.ofO ((g x y).map fun b => .pv (.bool b)) ρ)) = r.bind fun x ρ => (eb ρ).bind fun y ρ => R.ofO ((g x y).map fun b => (.bool b : D)) ρ := fun r => by
    cases r with
    | bad => rfl
    | exc c x ρ => rfl
    | ok x ρ =>
      show dd ((eb ρ).bind _) = (eb ρ).bind _
      cases eb ρ with
      | bad => rfl
      | exc c x ρ => rfl
      | ok y ρ1 =>
        show dd (R.ofO ((g x y).map fun b => .pv (.bool b)) ρ1) = R.ofO ((g x y).map fun b => (.bool b : D)) ρ1
        cases g x y <;> rfl
  dsimp only at post
  rw [bindD_dd, e1] at post
  refine ⟨e, F, ρ, rel, (Post.bind (Post.bind post)).imp fun dx ρ1 F1 H1 ex1 rel1 q x hx => ⟨e, F1, ρ1, rel1, (Post.bind q).imp fun dy ρ2 F2 H2 ex2 rel2 q2 y hy => ?_⟩⟩
  obtain ⟨z, hz, q3⟩ := q2.ofO
  obtain ⟨w, hw, rfl⟩ := Option.map_eq_some_iff.mp hz
  have q4 := q3 F2 H2 (Ex.refl _) rel2
  exact k H2 dx dy w x y _ hw ((hx.mono ex2).mono rel2.sub) (hy.rep rel2.sub) ⟨w, rfl, q4 F2 H2 (Ex.refl _) rel2⟩
end

/-! ### more tests, values -/
section
variable {X : Cx} {a b c : Expr} {xa : XAt τ} {W : WX} {pos : Pos}
theorem dd_bind {r : R D} {f : D → Env → R Val} : dd (r.bind f) = r.bind fun x ρ => dd (f x ρ) := by cases r <;> rfl
theorem dd_ofO {β : Type} {o : Option β} {f : β → D} {ρ : Env} : dd (R.ofO (o.map fun b => Val.pv (f b)) ρ) = R.ofO (o.map f) ρ := by cases o <;> rfl
theorem R.bind_bind {α β γ : Type} {r : R α} {f : α → Env → R β} {g : β → Env → R γ} : (r.bind f).bind g = r.bind fun x ρ => (f x ρ).bind g := by cases r <;> rfl
theorem pt_chainP {op op' : CmpOp} {g g' : D → D → Option Bool} {ea eb ec : Env → R Val} (o : OpP X (compareOp op) g) (o' : OpP X (compareOp op') g') (ha : PE X a (tV X.K xa W ea)) (hb : PE X b (tV X.K xa W eb)) (hc : PE X c (tV X.K xa W ec))
    (hm : lastMarks [op, op'] [b, c] = false) :
    PT X (.Compare a [op, op'] [b, c] pos) (tBo X.K xa W fun ρ => (dd (bindD (ea ρ) fun x ρ => bindD (eb ρ) fun y ρ => chainD (g x y) (bindD (ec ρ) fun z ρ => R.ofO ((g' y z).map fun b => .pv (.bool b)) ρ) ρ)).bind fun x ρ => R.ofO (truB x) ρ) := by
  obtain ⟨r, ho, k⟩ := o
  obtain ⟨r', ho', k'⟩ := o'
  refine pt_weak (pt_chain ho ho' (pe_toD ha) (pe_toD hb) (pe_toD hc) hm) fun σ H Q ⟨e, F, ρ, rel, post⟩ => ?_
  dsimp only at post
  simp only [bindD_dd, dd_bind, R.bind_bind] at post
  refine ⟨e, F, ρ, rel, (Post.bind post).imp fun dx ρ1 F1 H1 ex1 rel1 q x hx => ⟨e, F1, ρ1, rel1, (Post.bind q).imp fun dy ρ2 F2 H2 ex2 rel2 q2 y hy => ?_⟩⟩
  cases hg : g dx dy with
  | none => rw [hg] at q2; exact q2.elim
  | some w =>
    refine k H2 dx dy w x y _ hg ((hx.mono ex2).mono rel2.sub) (hy.mono rel2.sub) ⟨w, rfl, ?_⟩
    rw [hg] at q2
    cases w with
    | false => exact ⟨false, rfl, q2 F2 H2 (Ex.refl _) rel2⟩
    | true =>
      have q2 : Post X.K xa W e σ F2 ((dd ((dd (ec ρ2)).bind fun z ρ => R.ofO ((g' dy z).map fun b => .pv (.bool b)) ρ)).bind fun x ρ => R.ofO (truB x) ρ) _ := q2
      rw [dd_bind, R.bind_bind] at q2
      refine ⟨e, F2, ρ2, rel2, (Post.bind q2).imp fun dz ρ3 F3 H3 ex3 rel3 q3 z hz => ?_⟩
      rw [dd_ofO] at q3
      obtain ⟨u, hu, q4⟩ := (Post.bind q3).ofO
      obtain ⟨w', hw', rfl⟩ := Option.map_eq_some_iff.mp hu
      exact k' H3 dy dz w' y z _ hw' ((hy.mono ex3).mono rel3.sub) (hz.mono rel3.sub) ⟨w', rfl, q4 F3 H3 (Ex.refl _) rel3 F3 H3 (Ex.refl _) rel3⟩
theorem truV_ok {K : PySem.W.Frag} {H : Hp} {x : V} {d : D} {b : Bool} (h : Rep K H x d) (e : truB d = some b) : TruV K x H b := by
  cases h with
  | non => cases e; rfl
  | bl c => cases e; rfl
  | int i => cases e; rfl
  | str x => cases e
  | lst h1 h2 =>
    cases e
    refine .inl ⟨_, .inl (.inl h1), ?_⟩
    cases h2 <;> rfl
  | tup h1 h2 =>
    cases e
    refine .inr (.inl ⟨_, h1, ?_⟩)
    cases h2 <;> rfl
  | dic h1 h2 h3 => cases e
theorem pt_val' {ev : Env → R D} (h : PE X a (tP X.K xa W ev)) (he : ∀ whole, isTrue a X.env whole = (do let v ← whole; standAt a.pos; holding [v] (truthy v))) :
    PT X a (tBo X.K xa W fun ρ => (ev ρ).bind fun x ρ => R.ofO (truB x) ρ) := by
  refine pt_weak (pt_truth h he) fun σ H Q ⟨e, F, ρ, rel, post⟩ => ⟨e, F, ρ, rel, ?_⟩
  refine (Post.bind post).imp fun dx ρ1 F1 H1 ex1 rel1 q x hx => ?_
  obtain ⟨w, hw, q2⟩ := q.ofO
  exact ⟨w, truV_ok (hx.rep rel1.sub) hw, q2 F1 H1 (Ex.refl _) rel1⟩
theorem pw_and' {rest : List Expr} {ea eb : Env → R Bool} (ha : PT X a (tBo X.K xa W ea)) (hb : PW X (.BoolOp .And (b :: rest) pos) (tBo X.K xa W eb)) :
    PW X (.BoolOp .And (a :: b :: rest) pos) (tBo X.K xa W fun ρ => (ea ρ).bind fun x ρ => iteR x (eb ρ) (.ok false ρ)) := by
  refine pw_weak (pw_and ha hb) fun σ H Q ⟨e, F, ρ, rel, post⟩ => ⟨e, F, ρ, rel, (Post.bind post).imp fun x ρ1 F1 H1 ex1 rel1 q => ?_⟩
  cases x with
  | true => exact iteT ⟨e, F1, ρ1, rel1, q⟩
  | false => exact iteF (q F1 H1 (Ex.refl _) rel1)
theorem pw_or' {rest : List Expr} {ea eb : Env → R Bool} (ha : PT X a (tBo X.K xa W ea)) (hb : PW X (.BoolOp .Or (b :: rest) pos) (tBo X.K xa W eb)) :
    PW X (.BoolOp .Or (a :: b :: rest) pos) (tBo X.K xa W fun ρ => (ea ρ).bind fun x ρ => iteR x (.ok true ρ) (eb ρ)) := by
  refine pw_weak (pw_or ha hb) fun σ H Q ⟨e, F, ρ, rel, post⟩ => ⟨e, F, ρ, rel, (Post.bind post).imp fun x ρ1 F1 H1 ex1 rel1 q => ?_⟩
  cases x with
  | true => exact iteT (q F1 H1 (Ex.refl _) rel1)
  | false => exact iteF ⟨e, F1, ρ1, rel1, q⟩
theorem pt_not' {ea : Env → R Bool} (ha : PT X a (tBo X.K xa W ea)) : PT X (.UnaryOp .Not a pos) (tBo X.K xa W fun ρ => (ea ρ).bind fun x ρ => .ok (!x) ρ) := by
  refine pt_weak (pt_not ha) fun σ H Q ⟨e, F, ρ, rel, post⟩ => ⟨e, F, ρ, rel, (Post.bind post).imp fun x ρ1 F1 H1 ex1 rel1 q => q F1 H1 (Ex.refl _) rel1⟩
/-! .. as values -/
theorem pe_and' {rest : List Expr} {ea eb : Env → R Val} (ha : PE X a (tV X.K xa W ea)) (hb : PE X (.BoolOp .And (b :: rest) pos) (tV X.K xa W eb)) :
    PE X (.BoolOp .And (a :: b :: rest) pos) (tV X.K xa W fun ρ => bindD (ea ρ) fun x ρ => andD x (eb ρ) ρ) := by
  refine pe_weak (pe_and (pe_toD ha) hb) fun σ H Q ⟨e, F, ρ, rel, post⟩ => ?_
  simp only [bindD_dd] at post
  refine ⟨e, F, ρ, rel, (Post.bind post).imp fun x ρ1 F1 H1 ex1 rel1 q v hv => ?_⟩
  unfold andD at q
  split at q
  · exact ⟨true, hv.bool_inv, iteT ⟨e, F1, ρ1, rel1, q⟩⟩
  · exact ⟨false, hv.bool_inv, iteF (q F1 H1 (Ex.refl _) rel1 _ (.bl false))⟩
  · exact q.elim
theorem pe_or' {rest : List Expr} {ea eb : Env → R Val} (ha : PE X a (tV X.K xa W ea)) (hb : PE X (.BoolOp .Or (b :: rest) pos) (tV X.K xa W eb)) :
    PE X (.BoolOp .Or (a :: b :: rest) pos) (tV X.K xa W fun ρ => bindD (ea ρ) fun x ρ => orD x (eb ρ) ρ) := by
  refine pe_weak (pe_or (pe_toD ha) hb) fun σ H Q ⟨e, F, ρ, rel, post⟩ => ?_
  simp only [bindD_dd] at post
  refine ⟨e, F, ρ, rel, (Post.bind post).imp fun x ρ1 F1 H1 ex1 rel1 q v hv => ?_⟩
  unfold orD at q
  split at q
  · exact ⟨false, hv.bool_inv, iteF ⟨e, F1, ρ1, rel1, q⟩⟩
  · exact ⟨true, hv.bool_inv, iteT (q F1 H1 (Ex.refl _) rel1 _ (.bl true))⟩
  · exact q.elim
theorem pe_not' {ea : Env → R Val} (ha : PE X a (tV X.K xa W ea)) : PE X (.UnaryOp .Not a pos) (tV X.K xa W fun ρ => bindD (ea ρ) fun x ρ => R.ofO ((notD x).map .pv) ρ) := by
  refine pe_weak (pe_not (pe_toD ha)) fun σ H Q ⟨e, F, ρ, rel, post⟩ => ?_
  simp only [bindD_dd] at post
  refine ⟨e, F, ρ, rel, (Post.bind post).imp fun x ρ1 F1 H1 ex1 rel1 q v hv => ?_⟩
  cases x <;> first | exact q.elim | skip
  exact ⟨_, hv.bool_inv, q F1 H1 (Ex.refl _) rel1 _ (.bl _)⟩
theorem pe_neg' {ea : Env → R Val} (ha : PE X a (tV X.K xa W ea)) : PE X (.UnaryOp .USub a pos) (tV X.K xa W fun ρ => bindD (ea ρ) fun x ρ => R.ofO ((negD x).map .pv) ρ) := by
  refine pe_weak (pe_un un_neg (pe_toD ha)) fun σ H Q ⟨e, F, ρ, rel, post⟩ => ?_
  simp only [bindD_dd] at post
  refine ⟨e, F, ρ, rel, (Post.bind post).imp fun x ρ1 F1 H1 ex1 rel1 q v hv => ?_⟩
  cases x <;> first | exact q.elim | skip
  exact ⟨_, hv.int_inv, q F1 H1 (Ex.refl _) rel1 _ (.int _)⟩
theorem pe_ife' {ec : Env → R Bool} {ea eb : Env → R Val} (hc : PT X c (tBo X.K xa W ec)) (ha : PE X a (tV X.K xa W ea)) (hb : PE X b (tV X.K xa W eb)) :
    PE X (.IfExp c a b pos) (tV X.K xa W fun ρ => (ec ρ).bind fun t ρ => iteR t (ea ρ) (eb ρ)) := by
  refine pe_weak (pe_ifExp hc ha hb) fun σ H Q ⟨e, F, ρ, rel, post⟩ => ⟨e, F, ρ, rel, (Post.bind post).imp fun x ρ1 F1 H1 ex1 rel1 q => ?_⟩
  cases x with
  | true => exact iteT ⟨e, F1, ρ1, rel1, q⟩
  | false => exact iteF ⟨e, F1, ρ1, rel1, q⟩
/-! ### arguments, displays -/
theorem pa_nil' : PA X [] (tL X.K xa W fun ρ => .ok [] ρ) := pa_weak pa_nil fun σ H Q ⟨e, F, ρ, rel, post⟩ => post F H (Ex.refl F) rel [] .nil
theorem pa_cons' {es : List Expr} {ea : Env → R Val} {el : Env → R (List D)} (ha : PE X a (tV X.K xa W ea)) (hr : PA X es (tL X.K xa W el)) (hs : starEach (a :: es) X.env = (false, eval a X.env) :: starEach es X.env) :
    PA X (a :: es) (tL X.K xa W fun ρ => bindD (ea ρ) fun x ρ => (el ρ).bind fun xs ρ => .ok (x :: xs) ρ) := by
  refine pa_weak (pa_cons (pe_toD ha) hr hs) fun σ H Q ⟨e, F, ρ, rel, post⟩ => ?_
  simp only [bindD_dd] at post
  refine ⟨e, F, ρ, rel, (Post.bind post).imp fun x ρ1 F1 H1 ex1 rel1 q v hv => ⟨e, F1, ρ1, rel1, (Post.bind q).imp fun xs ρ2 F2 H2 ex2 rel2 q2 vs hvs => ?_⟩⟩
  exact q2 F2 H2 (Ex.refl _) rel2 _ (.cons (hv.mono ex2) hvs)
theorem pe_tup' {es : List Expr} {k : Nat} {el : Env → R (List D)} (h : PA X es (tL X.K xa W el)) : PE X (.Tuple es k pos) (tV X.K xa W fun ρ => (el ρ).bind fun ds ρ => tupV ds ρ) := by
  refine pe_weak (pe_tup h) fun σ H Q ⟨e, F, ρ, rel, post⟩ => ⟨e, F, ρ, rel, (Post.bind post).imp fun ds ρ1 F1 H1 ex1 rel1 q vs hvs => ?_⟩
  unfold tupV at q
  split at q
  · rename_i hl
    refine ⟨by rw [hvs.length]; exact lim_size hl, fun p hp => ?_⟩
    have hF := rel1.noneF hp
    exact q _ _ (Ex.new hF) (rel1.new hp) _ (.tup (.inl (.inl upd_same)) (Reps.mono (Ex.new hF) hvs))
  · exact q.elim
theorem pe_lst' {es : List Expr} {el : Env → R (List D)} (h : PA X es (tL X.K xa W el)) : PE X (.List es pos) (tV X.K xa W fun ρ => (el ρ).bind fun ds ρ => lstV ds ρ) := by
  refine pe_weak (pe_lst h) fun σ H Q ⟨e, F, ρ, rel, post⟩ => ⟨e, F, ρ, rel, (Post.bind post).imp fun ds ρ1 F1 H1 ex1 rel1 q vs hvs => ?_⟩
  unfold lstV at q
  split at q
  · rename_i hl
    refine ⟨by rw [hvs.length]; exact lim_size hl, fun p hp => ?_⟩
    exact q _ _ (Ex.refl F1) (rel1.laid hp) _ (frNew rel1 hp hvs)
  · exact q.elim
end
end Pv

namespace Pv
open PySem L2 PyProof.Rows
/-! ### sum, max, min, sorted of tuples -/
section
variable {prog : Program} {w : World} {A : Around} {E : Value → Shared → Prop} {s : Shared} {l : Addr} {xs : Array (Int × Tok)} {its : List Value} {ns : List Int} {Q : Value → Shared → Prop}
/-- the walk of a tuple of ints -/
theorem walk_tupI (hh : A.handled = none) (tt : s.heap.IsTuple l (intItems xs)) {R : Value → Shared → Prop}
    (go : ∀ s₂ : Shared, s₂ = { s with heap := s.heap.push { cls := .type "tuple_iterator", data := .fields #[.ref l, .int 0 0] } } → Walks prog w A s.heap.objs.size [s.heap.objs.size, l] [s.heap.objs.size] xs.size (fun i v => (intItems xs)[i]? = some v) (fun i h => h.IsTupleIter s.heap.objs.size l i ∧ h.IsTuple l (intItems xs)) →
      (s₂.heap.IsTupleIter s.heap.objs.size l 0 ∧ s₂.heap.IsTuple l (intItems xs)) → (∀ b ∈ [s.heap.objs.size, l], b < s₂.heap.objs.size) → R (.ref s.heap.objs.size) s₂) :
    wpAny (model prog w) A (pyIter (.ref l)) R E s := by
  obtain ⟨o, ho, _, _⟩ := id tt
  have lt := Heap.lt_size ho
  have sz : (intItems xs).size = xs.size := by simp [intItems]
  have W := Walks.tuple (prog := prog) (w := w) (A := A) hh s.heap.objs.size l (Nat.ne_of_lt lt) (intItems xs)
  rw [sz] at W
  refine wpAny_pyIter_tuple tt (go _ rfl W ⟨⟨_, Heap.get?_push_size _ rfl, rfl, rfl⟩, tt.push _⟩ fun b hb => ?_)
  show b < (s.heap.push _).objs.size
  rw [Heap.size_push]
  simp only [List.mem_cons, List.not_mem_nil, or_false] at hb
  rcases hb with h | h
  · rw [h]; exact Nat.lt_succ_self _
  · rw [h]; exact Nat.lt_succ_of_lt lt
theorem kept_tup {h' : Heap} (hk : ∀ b o, b ∉ [s.heap.objs.size] → (s.heap.push { cls := .type "tuple_iterator", data := .fields #[.ref l, .int 0 0] }).get? b = some o → h'.get? b = some o) : ∀ b o, s.heap.get? b = some o → h'.get? b = some o := fun b o e =>
  hk b o (fun z => Nat.lt_irrefl _ ((List.mem_singleton.mp z) ▸ Heap.lt_size e)) (Heap.get?_push_of_some _ e)
theorem max_tupI (hh : A.handled = none) (tt : s.heap.IsTuple l its.toArray) (hi : IntsAre its ns) (pos : 0 < ns.length)
    (go : ∀ h' tk M t', (∀ b o, s.heap.get? b = some o → h'.get? b = some o) → M ∈ ns → (∀ a ∈ ns, a ≤ M) → Q (.int M t') { s with heap := h', toks := tk }) : wpAny (model prog w) A (call (.builtin "max") [.ref l]) Q E s := by
  obtain ⟨xs, e⟩ := hi.allInts.items
  have en : numsOf (intItems xs).toList = ns := by rw [← e]; exact hi.numsOf
  rw [nums_intItems] at en
  subst en
  rw [e] at tt
  have px : 0 < xs.size := by simpa using pos
  refine call_max_walk (walk_tupI (A := A.in1) hh tt fun s₂ e W st fpb => ?_)
  subst e
  refine ⟨_, _, _, _, _, _, _, rfl, W, st, fpb, px, CmpOf.ints_gt (numAt xs) (fun _ _ => intItems_at), fun v h' tk hP hk => ?_⟩
  obtain ⟨t, rfl⟩ := intItems_at hP
  obtain ⟨a1, a2⟩ := argBest_gt (numAt xs) (xs.size - 1)
  refine go h' tk _ t (kept_tup hk) ?_ fun a ha => ?_
  · rw [numAt_eq]
    exact PySem.getD_mem (by rw [List.length_map, Array.length_toList]; omega)
  · obtain ⟨j, hj, rfl⟩ := mem_getD ha
    rw [List.length_map, Array.length_toList] at hj
    rw [← numAt_eq]
    exact a2 j (by omega)
theorem min_tupI (hh : A.handled = none) (tt : s.heap.IsTuple l its.toArray) (hi : IntsAre its ns) (pos : 0 < ns.length)
    (go : ∀ h' tk M t', (∀ b o, s.heap.get? b = some o → h'.get? b = some o) → M ∈ ns → (∀ a ∈ ns, M ≤ a) → Q (.int M t') { s with heap := h', toks := tk }) : wpAny (model prog w) A (call (.builtin "min") [.ref l]) Q E s := by
  obtain ⟨xs, e⟩ := hi.allInts.items
  have en : numsOf (intItems xs).toList = ns := by rw [← e]; exact hi.numsOf
  rw [nums_intItems] at en
  subst en
  rw [e] at tt
  have px : 0 < xs.size := by simpa using pos
  refine call_min_walk (walk_tupI (A := A.in1) hh tt fun s₂ e W st fpb => ?_)
  subst e
  refine ⟨_, _, _, _, _, _, _, rfl, W, st, fpb, px, CmpOf.ints_lt (numAt xs) (fun _ _ => intItems_at), fun v h' tk hP hk => ?_⟩
  obtain ⟨t, rfl⟩ := intItems_at hP
  obtain ⟨a1, a2⟩ := argBest_lt (numAt xs) (xs.size - 1)
  refine go h' tk _ t (kept_tup hk) ?_ fun a ha => ?_
  · rw [numAt_eq]
    exact PySem.getD_mem (by rw [List.length_map, Array.length_toList]; omega)
  · obtain ⟨j, hj, rfl⟩ := mem_getD ha
    rw [List.length_map, Array.length_toList] at hj
    rw [← numAt_eq]
    exact a2 j (by omega)
theorem sum_tupI (hh : A.handled = none) (tt : s.heap.IsTuple l its.toArray) (hi : IntsAre its ns)
    (go : ∀ h' tk t', (∀ b o, s.heap.get? b = some o → h'.get? b = some o) → Q (.int ns.sum t') { s with heap := h', toks := tk }) : wpAny (model prog w) A (call (.builtin "sum") [.ref l]) Q E s := by
  obtain ⟨xs, e⟩ := hi.allInts.items
  have en : numsOf (intItems xs).toList = ns := by rw [← e]; exact hi.numsOf
  rw [nums_intItems] at en
  rw [e] at tt
  refine PySem.W.ktm_sumG hh tt fun h' tk t' hk => ?_
  have z := go h' tk t' hk
  rw [← en] at z
  rw [preSum_eq, List.take_of_length_le (by simp)]
  exact z
/-- a tuple's items in a new list, as sorted asks -/
theorem collect_tupI {R : List Value → Shared → Prop} (tt : s.heap.IsTuple l its.toArray) (hz : its.length ≤ sizeLine)
    (go : R its { s with heap := (s.heap.push (seqObj "list" #[] 0)).update s.heap.objs.size (Obj.mapSeq (· ++ its.toArray)) }) : wpAny (model prog w) A (collect (.ref l)) R E s := by
  obtain ⟨o, ho, ct, n, dt⟩ := id tt
  have lp : (s.heap.push (seqObj "list" #[] 0)).get? l = some o := Heap.get?_push_of_some _ ho
  have new : (s.heap.push (seqObj "list" #[] 0)).get? s.heap.objs.size = some (seqObj "list" #[] 0) := Heap.get?_push_size _ rfl
  unfold collect
  refine wpAny_bind (wpAny_runValue (codeAny_builtin entry_proto_collect' ?_))
  refine wpAny_bind (m := newList []) (wpAny_newList (wpAny_pure ⟨Code.quiet_builtin _ (by decide +kernel), codeAny_builtin entry_list_iadd' ?_⟩))
  show wpAny (model prog w) _ (Builtin.List.listExtendWith (.ref s.heap.objs.size) (.ref l) (.ref s.heap.objs.size)) _ _ _
  unfold Builtin.List.listExtendWith
  refine wpAny_bind (wpAny_typeOf (T := "tuple") ⟨o, lp, ct⟩ ?_)
  rw [if_pos (by simp)]
  refine wpAny_bind (listItems_at lp dt ?_)
  refine wpAny_bind (listItems_at (xs := #[]) (n := 0) new rfl ?_)
  rw [if_neg (by simp)]
  refine wpAny_bind (listUpdate_at (xs := #[]) (n := 0) new rfl ?_ (Nat.zero_le _) (by simp only [Array.size_append, List.size_toArray]; show 0 + _ ≤ _; omega))
  refine wpAny_pure ?_
  refine wpAny_bind (m := load s.heap.objs.size) (wpAny_load (get?_update_seq new _) ?_)
  refine wpAny_pure ?_
  rw [show ((#[] : Array Value) ++ its.toArray).toList = its by simp]
  exact go
/-- sorted of a tuple, by any order of its items -/
theorem sorted_tupO {ltv : Value → Value → Bool} (O : SrtO.Swo ltv) (tt : s.heap.IsTuple l its.toArray) (hz : its.length ≤ sizeLine)
    (srt : 2 ≤ its.length → ∀ (g : Heap) (a : Addr), g.get? a = some (seqObj "list" its.toArray 0) → (∀ b o, s.heap.get? b = some o → b ≠ a ∧ g.get? b = some o) → SrtO.SortableO prog w A.in1.in1 { s with heap := g } a its ltv)
    (go : ∀ out : List Value, SrtO.Srtd ltv out → SrtO.Stb ltv out its → Q (.ref (s.heap.objs.size + 1)) { s with heap := sortedAll s.heap its out.toArray }) : wpAny (model prog w) A (call (.builtin "sorted") [.ref l]) Q E s := by
  refine Calls.call_function_entry kind_sorted plain_sorted entry_sorted (args_sorted1 _) ?_
  unfold Builtin.«sorted»
  refine wpAny_bind (m := checkCount "sorted" 1 1 _) (wpAny_pure ?_)
  refine wpAny_bind (collect_tupI tt hz ?_)
  refine wpAny_bind (wpAny_newList ?_ hz)
  generalize hg : (s.heap.push (seqObj "list" #[] 0)).update s.heap.objs.size (Obj.mapSeq (· ++ its.toArray)) = g1
  have n1 : g1.objs.size = s.heap.objs.size + 1 := by rw [← hg, Heap.size_update, size_push']
  have new : (g1.push (seqObj "list" its.toArray 0)).get? (s.heap.objs.size + 1) = some (seqObj "list" its.toArray 0) := by
    rw [← n1]
    exact Heap.get?_push_size _ rfl
  have old : ∀ b o, s.heap.get? b = some o → b ≠ s.heap.objs.size + 1 ∧ (g1.push (seqObj "list" its.toArray 0)).get? b = some o := fun b o q => by
    have lb : b < s.heap.objs.size := Heap.lt_size q
    refine ⟨Nat.ne_of_lt (Nat.lt_succ_of_lt lb), Heap.get?_push_of_some _ ?_⟩
    rw [← hg, Heap.get?_update_ne _ _ _ _ (Nat.ne_of_lt lb)]
    exact Heap.get?_push_of_some _ q
  show wpAny _ _ _ _ _ { s with heap := g1.push (seqObj "list" its.toArray 0) }
  rw [n1]
  refine wpAny_bind (wpAny_holding (wpAny_call_entry slot_list_sort ⟨_, new, rfl⟩ entry_list_sort ?_ (args_list_sort _)))
  refine SrtO.list_sort_ord O new hz (fun h2 => srt h2 _ _ new old) fun out hs hb => ⟨_, rfl, wpAny_pure ⟨_, rfl, ?_⟩⟩
  have fin := go out hs hb
  unfold sortedAll at fin
  rw [hg] at fin
  exact fin
end
section
variable {X : Cx}
def rSumT (K : PySem.W.Frag) : List V → Hp → VK → Prop := fun vs H Q => ∃ (a : Addr) (ns : List Int), vs = [V.ref a] ∧ SqT K H a (ns.map V.int) ∧ Q (.int ns.sum) H
theorem cr_sumT (hc : X.calm = true) : CallR X (.builtin "sum") (rSumT X.K) := by
  rintro pins s σ H vs us Q I r ⟨a, ns, rfl, hs, q⟩
  obtain ⟨its, rv, tt, _⟩ := I.tuple hs
  rw [Vals.ref1 r]
  exact sum_tupI (its := its) (I.ok.hd hc) tt rv.ints fun h' tk t' hk => ⟨.int _, H, I.kept hk, ⟨_, rfl⟩, q⟩
def rMaxT (K : PySem.W.Frag) : List V → Hp → VK → Prop := fun vs H Q => ∃ (a : Addr) (ns : List Int), vs = [V.ref a] ∧ SqT K H a (ns.map V.int) ∧ 0 < ns.length ∧ ∀ m, m ∈ ns → (∀ a ∈ ns, a ≤ m) → Q (.int m) H
def rMinT (K : PySem.W.Frag) : List V → Hp → VK → Prop := fun vs H Q => ∃ (a : Addr) (ns : List Int), vs = [V.ref a] ∧ SqT K H a (ns.map V.int) ∧ 0 < ns.length ∧ ∀ m, m ∈ ns → (∀ a ∈ ns, m ≤ a) → Q (.int m) H
theorem cr_maxT (hc : X.calm = true) : CallR X (.builtin "max") (rMaxT X.K) := by
  rintro pins s σ H vs us Q I r ⟨a, ns, rfl, hs, pos, q⟩
  obtain ⟨its, rv, tt, _⟩ := I.tuple hs
  rw [Vals.ref1 r]
  exact max_tupI (its := its) (I.ok.hd hc) tt rv.ints pos fun h' tk m t' hk h1 h2 => ⟨.int _, H, I.kept hk, ⟨_, rfl⟩, q m h1 h2⟩
theorem cr_minT (hc : X.calm = true) : CallR X (.builtin "min") (rMinT X.K) := by
  rintro pins s σ H vs us Q I r ⟨a, ns, rfl, hs, pos, q⟩
  obtain ⟨its, rv, tt, _⟩ := I.tuple hs
  rw [Vals.ref1 r]
  exact min_tupI (its := its) (I.ok.hd hc) tt rv.ints pos fun h' tk m t' hk h1 h2 => ⟨.int _, H, I.kept hk, ⟨_, rfl⟩, q m h1 h2⟩
def rSrtTI (K : PySem.W.Frag) : List V → Hp → VK → Prop := fun vs H Q => ∃ (a : Addr) (ns : List Int), vs = [V.ref a] ∧ SqT K H a (ns.map V.int) ∧
  ∀ (ms : List Int) (p : Addr), ms.Perm ns → ms.Pairwise (· ≤ ·) → H p = none → Q (.ref p) (upd H p (.lst (ms.map V.int)))
theorem cr_srtTI : CallR X (.builtin "sorted") (rSrtTI X.K) := by
  rintro pins s σ H vs us Q I r ⟨a, ns, rfl, hs, q⟩
  obtain ⟨its, rv, tt, hz⟩ := I.tuple hs
  rw [Vals.ref1 r]
  have hi := rv.ints
  refine sorted_tupO SrtO.swo_int tt (Nat.le_trans (Nat.le_of_eq rv.length.symm) hz) (fun h2 g b _ _ => SrtO.ints_sortable hi h2) fun out h1 h2 => ?_
  obtain ⟨k1, k2, k3⟩ := SrtO.ints_out hi h1 h2
  obtain ⟨ep, at_⟩ := PyProof.Rows.sortedAll_at s.heap its out.toArray
  have ln : ((out.map SrtO.iv).map V.int).length ≤ sizeLine := by
    rw [List.length_map, k2.length_eq]
    simpa using hz
  refine ⟨.ref _, upd H (s.heap.objs.size + 1) (.lst ((out.map SrtO.iv).map V.int)), ?_, rfl, q _ _ k2 k3 (I.hok.fresh (Nat.le_succ _))⟩
  exact I.laid (t' := s.toks) (fun _ _ => PyProof.Rows.sortedAll_old) (Nat.le_succ _) ⟨ln, out, ep, vals_of_ints k1, at_⟩
end
end Pv

/-! ### sorted -/
namespace Pv
open PySem L2 PySem.Spec PyProof.Rows
theorem insI_perm (x : Int) : ∀ l, (insI x l).Perm (x :: l)
  | [] => List.Perm.refl _
  | y :: r => by
    unfold insI
    split
    · exact List.Perm.refl _
    · exact ((insI_perm x r).cons y).trans (List.Perm.swap x y r)
theorem sortI_perm : ∀ l, (sortI l).Perm l
  | [] => List.Perm.refl _
  | x :: r => (insI_perm x _).trans ((sortI_perm r).cons x)
theorem insI_sorted {x : Int} : ∀ {l : List Int}, l.Pairwise (· ≤ ·) → (insI x l).Pairwise (· ≤ ·)
  | [], _ => List.pairwise_singleton _ _
  | y :: r, h => by
    obtain ⟨h1, h2⟩ := List.pairwise_cons.mp h
    unfold insI
    split
    · rename_i c
      refine List.pairwise_cons.mpr ⟨fun z hz => ?_, h⟩
      rcases List.mem_cons.mp hz with rfl | hz
      · exact c
      · exact Int.le_trans c (h1 z hz)
    · rename_i c
      refine List.pairwise_cons.mpr ⟨fun z hz => ?_, insI_sorted h2⟩
      rcases List.mem_cons.mp ((insI_perm x r).mem_iff.mp hz) with rfl | hz
      · omega
      · exact h1 z hz
theorem sortI_sorted : ∀ l, (sortI l).Pairwise (· ≤ ·)
  | [] => List.Pairwise.nil
  | x :: r => insI_sorted (sortI_sorted r)
theorem sortI_uniq {ns ms : List Int} (p : ms.Perm ns) (s : ms.Pairwise (· ≤ ·)) : ms = sortI ns :=
  List.Perm.eq_of_pairwise (fun a b _ _ h1 h2 => by omega) s (sortI_sorted ns) (p.trans (sortI_perm ns).symm)
theorem leP_iff {p q : Int × Int} : leP p q = true ↔ p.1 < q.1 ∨ (p.1 = q.1 ∧ p.2 ≤ q.2) := by
  unfold leP
  simp
theorem insP_perm (x : Int × Int) : ∀ l, (insP x l).Perm (x :: l)
  | [] => List.Perm.refl _
  | y :: r => by
    unfold insP
    split
    · exact List.Perm.refl _
    · exact ((insP_perm x r).cons y).trans (List.Perm.swap x y r)
theorem sortP_perm : ∀ l, (sortP l).Perm l
  | [] => List.Perm.refl _
  | x :: r => (insP_perm x _).trans ((sortP_perm r).cons x)
theorem insP_sorted {x : Int × Int} : ∀ {l : List (Int × Int)}, l.Pairwise (fun p q => leP p q = true) → (insP x l).Pairwise (fun p q => leP p q = true)
  | [], _ => List.pairwise_singleton _ _
  | y :: r, h => by
    obtain ⟨h1, h2⟩ := List.pairwise_cons.mp h
    unfold insP
    split
    · rename_i c
      refine List.pairwise_cons.mpr ⟨fun z hz => ?_, h⟩
      rcases List.mem_cons.mp hz with rfl | hz
      · exact c
      · have a1 := leP_iff.mp c
        have a2 := leP_iff.mp (h1 z hz)
        exact leP_iff.mpr (by omega)
    · rename_i c
      refine List.pairwise_cons.mpr ⟨fun z hz => ?_, insP_sorted h2⟩
      rcases List.mem_cons.mp ((insP_perm x r).mem_iff.mp hz) with rfl | hz
      · have a1 : ¬ (z.1 < y.1 ∨ (z.1 = y.1 ∧ z.2 ≤ y.2)) := fun w => c (leP_iff.mpr w)
        exact leP_iff.mpr (by omega)
      · exact h1 z hz
theorem sortP_sorted : ∀ l, (sortP l).Pairwise (fun p q => leP p q = true)
  | [] => List.Pairwise.nil
  | x :: r => insP_sorted (sortP_sorted r)
theorem sortP_uniq {ns ms : List (Int × Int)} (p : ms.Perm ns) (s : ms.Pairwise (fun p q => leP p q = true)) : ms = sortP ns :=
  List.Perm.eq_of_pairwise (fun a b _ _ h1 h2 => by
    have a1 := leP_iff.mp h1
    have a2 := leP_iff.mp h2
    exact Prod.ext (by omega) (by omega)) s (sortP_sorted ns) (p.trans (sortP_perm ns).symm)
/-- sorted(xs), pairs of ints: as the data's own sort tells -/
def rSrtP (K : PySem.W.Frag) : List V → Hp → VK → Prop := fun vs H Q => ∃ (a : Addr) (xs : List V) (F : Hp) (ps : List (Int × Int)), vs = [V.ref a] ∧ SqL K H a xs ∧ Ex F H ∧ Reps K F xs (ps.map prD) ∧ ∀ ys p, Reps K F ys ((sortP ps).map prD) → H p = none → Q (.ref p) (upd H p (.lst ys))
theorem isPair_uniq {h : Heap} {v : Value} {x y x' y' : Int} (p : Srt.IsPair h v x y) (q : Srt.IsPair h v x' y') : x = x' ∧ y = y' := by
  obtain ⟨a, o, t, u, n, rfl, ho, _, hd⟩ := p
  obtain ⟨a2, o2, t2, u2, n2, e, ho2, _, hd2⟩ := q
  cases e
  rw [ho] at ho2
  cases ho2
  rw [hd] at hd2
  cases hd2
  exact ⟨rfl, rfl⟩
open Classical in
noncomputable def keyP (h : Heap) (v : Value) : Int × Int := if e : ∃ p : Int × Int, Srt.IsPair h v p.1 p.2 then e.choose else (0, 0)
theorem keyP_eq {h : Heap} {v : Value} {p : Int × Int} (q : Srt.IsPair h v p.1 p.2) : keyP h v = p := by
  have e : ∃ p : Int × Int, Srt.IsPair h v p.1 p.2 := ⟨p, q⟩
  unfold keyP
  rw [dif_pos e]
  obtain ⟨e1, e2⟩ := isPair_uniq e.choose_spec q
  exact Prod.ext e1 e2
section
variable {X : Cx} {pins : List (Addr × Obj)} {σ : L2.St} {H F : Hp} {s : Shared}
theorem pair_in (I : Inv X pins σ H s) (ex : Ex F H) {x : V} {v : Value} {p : Int × Int} (r : RelV x v) (h : Rep X.K F x (prD p)) : ∃ t, v = .ref t ∧ x = .ref t ∧ Srt.IsPair s.heap v p.1 p.2 := by
  obtain ⟨a, us, rfl, h1, h2⟩ := h.tup_inv
  cases r
  obtain ⟨its, rv, ht, _⟩ := I.tuple (ex.sqT h1)
  cases h2 with
  | cons i1 h2 =>
    cases h2 with
    | cons i2 h2 =>
      cases h2
      have e1 := i1.int_inv
      have e2 := i2.int_inv
      subst e1 e2
      obtain ⟨u1, u2, eu, ri, rj⟩ := vals2 rv
      obtain ⟨t1, rfl⟩ := ri
      obtain ⟨t2, rfl⟩ := rj
      subst eu
      obtain ⟨o, ho, hc, n, hd⟩ := ht
      exact ⟨a, rfl, rfl, a, o, t1, t2, n, rfl, ho, hc, hd⟩
theorem pairs_in (I : Inv X pins σ H s) (ex : Ex F H) : ∀ {xs : List V} {its : List Value} {ps : List (Int × Int)}, Vals xs its → Reps X.K F xs (ps.map prD) → its.map (keyP s.heap) = ps ∧ ∀ v ∈ its, (∃ t, v = .ref t) ∧ Srt.IsPair s.heap v (keyP s.heap v).1 (keyP s.heap v).2 ∧ Rep X.K F (backV v) (prD (keyP s.heap v))
  | _, _, [], .nil, _ => ⟨rfl, fun v hv => nomatch hv⟩
  | _, _, _ :: _, .nil, h => by cases h
  | _, _, [], .cons _ _, h => by cases h
  | _, _, p :: ps, .cons r rs, h => by
    cases h with
    | cons h hs =>
      obtain ⟨t, e1, e2, e3⟩ := pair_in I ex r h
      obtain ⟨i1, i2⟩ := pairs_in I ex rs hs
      have ek := keyP_eq e3
      refine ⟨by rw [List.map_cons, ek, i1], fun v hv => ?_⟩
      rcases List.mem_cons.mp hv with rfl | hv
      · rw [ek]
        refine ⟨⟨t, e1⟩, e3, ?_⟩
        rw [e1]
        rw [e2] at h
        exact h
      · exact i2 v hv
theorem cr_srtP : CallR X (.builtin "sorted") (rSrtP X.K) := by
  intro pins s σ H vs us Q I r h
  obtain ⟨a, xs, F, ps, rfl, hs, ex, hx, q⟩ := h
  obtain ⟨its, rv, hl, hz⟩ := id (I.list hs)
  obtain ⟨u, rfl, ru⟩ := vals1 r
  obtain rfl : u = Value.ref a := ru
  obtain ⟨k1, k2⟩ := pairs_in I ex rv hx
  refine SrtO.sorted_pairsO (k := keyP s.heap) hl.isList (by rw [← rv.length]; exact hz) (fun v hv => (k2 v hv).2.1) fun h' d out h1 h2 kp hd hn => ?_
  obtain ⟨n, hn⟩ := hn
  have mem : ∀ u ∈ out, u ∈ its := fun u hu => h2.perm.mem_iff.mp hu
  have es : out.map (keyP s.heap) = sortP ps := by
    refine sortP_uniq ?_ (List.pairwise_map.mpr (h1.imp fun {x y} h => ?_))
    · have := h2.perm.map (keyP s.heap)
      rwa [k1] at this
    · have a1 := SrtO.lexB_no.mp h
      exact leP_iff.mpr (by omega)
  have rp : ∀ l : List Value, (∀ u ∈ l, u ∈ its) → Reps X.K F (l.map backV) ((l.map (keyP s.heap)).map prD) := fun l => by
    induction l with
    | nil => intro _; exact .nil
    | cons u l ih => intro hu; exact .cons (k2 u (hu u List.mem_cons_self)).2.2 (ih fun w hw => hu w (List.mem_cons_of_mem _ hw))
  have rp := rp out mem
  rw [es] at rp
  refine ⟨.ref d, upd H d (.lst (out.map backV)), I.laid (t' := s.toks) kp hd ⟨?_, out, n, vals_back fun u hu => (k2 u (mem u hu)).1, hn⟩, rfl, q _ d rp (I.hok.fresh hd)⟩
  rw [List.length_map, h2.len, ← rv.length]
  exact hz
end
end Pv
namespace Pv
open PySem L2 PyProof.Rows

/-! ### built-ins on one thing -/
def CallK (X : Cx) (r : List V → Hp → VK → Prop) (g : D → Option D) (w : D → Val) : Prop := ∀ {τ : Tls} (e : Ent τ) (F H : Hp) (ρ : Env) (σ : L2.St) (dx z : D) (x : V) (Q : VK), g dx = some z → Rel X.K e F H ρ σ → PkR X.K F H x dx →
  (∀ F' H' v, Ex F F' → Rel X.K e F' H' ρ σ → VR X.K e F' H' ρ σ v (w z) → Q v H') → r [x] H Q
def CallK2 (X : Cx) (r : List V → Hp → VK → Prop) (g : D → D → Option D) : Prop := ∀ (F H : Hp) (dx dy z : D) (x y : V) (Q : VK), g dx dy = some z → Rep X.K F x dx → Rep X.K F y dy → (∀ v, Rep X.K F v z → Q v H) → r [x, y] H Q
section
variable {X : Cx} {a b : Expr} {xa : XAt τ} {W : WX} {p pos : Pos} {r : List V → Hp → VK → Prop} {g : D → Option D} {w : D → Val} {nm : Str} {id T : String} {ep : Env → R D}
theorem pe_one_of (k : CallK X r g w) (h : PE X a (tCB r (tCons (tP X.K xa W ep) tNil))) : PE X a (tV X.K xa W fun ρ => (ep ρ).bind fun x ρ => R.ofO ((g x).map w) ρ) := by
  refine pe_weak h fun σ H Q ⟨e, F, ρ, rel, post⟩ => ⟨e, F, ρ, rel, (Post.bind post).imp fun dx ρ1 F1 H1 ex1 rel1 q x hx => ?_⟩
  obtain ⟨z, hz, q2⟩ := q.ofO
  obtain ⟨z', hz', rfl⟩ := Option.map_eq_some_iff.mp hz
  exact k e F1 H1 ρ1 σ dx z' x Q hz' rel1 hx fun F' H' v ex rel' rep => q2 F' H' ex rel' v rep
theorem CallR.orK {f : Value} {r r' : List V → Hp → VK → Prop} {g g' k : D → Option D} (h : CallR X f r) (h' : CallR X f r') (c : CallK X r g w) (c' : CallK X r' g' w) (hk : ∀ x z, k x = some z → g x = some z ∨ g' x = some z) : CallR X f (fun xs H Q => r xs H Q ∨ r' xs H Q) ∧ CallK X (fun xs H Q => r xs H Q ∨ r' xs H Q) k w :=
  ⟨h.or h', fun e F H ρ σ dx z x Q hz rel hx q => (hk dx z hz).elim (fun hz => .inl (c e F H ρ σ dx z x Q hz rel hx q)) fun hz => .inr (c' e F H ρ σ dx z x Q hz rel hx q)⟩
/-- the built-in's rule -/
def BltR (X : Cx) (f : Value) (g : D → Option D) (w : D → Val) : Prop := ∃ r, CallR X f r ∧ CallK X r g w
theorem BltR.or {f : Value} {g g' k : D → Option D} (h : BltR X f g w) (h' : BltR X f g' w) (hk : ∀ x z, k x = some z → g x = some z ∨ g' x = some z) : BltR X f k w := by
  obtain ⟨r, h1, h2⟩ := h
  obtain ⟨r', h3, h4⟩ := h'
  exact ⟨_, CallR.orK h1 h3 h2 h4 hk⟩
theorem BltR.of {f : Value} {g k : D → Option D} (h : BltR X f g w) (hk : ∀ x z, k x = some z → g x = some z) : BltR X f k w := h.or h fun x z q => .inl (hk x z q)
end
section
variable {X : Cx}
theorem sq_pk {K : PySem.W.Frag} {F H : Hp} {x : V} {xs : List D} (e : Ex F H) (h : PkR K F H x (.list xs)) : ∃ a us, x = .ref a ∧ SqL K H a us ∧ Reps K F us xs := by
  obtain ⟨a, us, rfl, h1, h2⟩ := h.list e
  exact ⟨a, us, rfl, .inl h1, h2⟩
theorem tq_pk {K : PySem.W.Frag} {F H : Hp} {x : V} {xs : List D} (e : Ex F H) (h : PkR K F H x (.tuple xs)) : ∃ a us, x = .ref a ∧ SqT K H a us ∧ SqT K F a us ∧ Reps K F us xs := by
  obtain ⟨a, us, rfl, h1, h2⟩ := (h.plain fun ys z => nomatch z).tup_inv
  exact ⟨a, us, rfl, e.sqT h1, h1, h2⟩
def gLenS : D → Option D
  | .list xs => some (.int xs.length)
  | .tuple xs => some (.int xs.length)
  | _ => none
theorem blt_len1 : BltR X (.builtin "len") gLenS .pv := by
  refine ⟨_, call_len_seq, fun e F H ρ σ dx z x Q hz rel hx q => ?_⟩
  cases dx <;> first | (cases hz; done) | skip
  · cases hz
    obtain ⟨a, us, rfl, h1, h2⟩ := sq_pk rel.sub hx
    refine ⟨a, us, rfl, .inl h1, ?_⟩
    rw [h2.length]
    exact q F H _ (Ex.refl F) rel (.int _)
  · cases hz
    obtain ⟨a, us, rfl, h1, h2, h3⟩ := tq_pk rel.sub hx
    refine ⟨a, us, rfl, .inr h1, ?_⟩
    rw [h3.length]
    exact q F H _ (Ex.refl F) rel (.int _)
def gLenT : D → Option D
  | .str s => if s.length ≤ LIM then some (.int s.length) else none
  | _ => none
theorem blt_len2 : BltR X (.builtin "len") gLenT .pv := by
  refine ⟨_, call_len_str, fun e F H ρ σ dx z x Q hz rel hx q => ?_⟩
  cases dx <;> first | (cases hz; done) | skip
  simp only [gLenT] at hz
  split at hz
  · rename_i hl
    cases hz
    exact ⟨_, by rw [(hx.plain fun ys z => nomatch z).str_inv], lim_size hl, q F H _ (Ex.refl F) rel (.int _)⟩
  · cases hz
theorem blt_len : BltR X (.builtin "len") (fun x => bltD .len [x]) (bltV .len) := by
  have e1 : bltV .len = .pv := by funext d; cases d <;> rfl
  rw [e1]
  refine blt_len1.or blt_len2 fun x z h => ?_
  cases x <;> first | (cases h; done) | (left; exact h) | (right; exact h)
theorem blt_abs : BltR X (.builtin "abs") (fun x => bltD .abs [x]) (bltV .abs) := by
  refine ⟨_, call_abs, fun e F H ρ σ dx z x Q hz rel hx q => ?_⟩
  cases dx <;> first | (cases hz; done) | skip
  cases hz
  exact ⟨_, by rw [(hx.plain fun ys z => nomatch z).int_inv], q F H _ (Ex.refl F) rel (.int _)⟩
theorem blt_int : BltR X (.type "int") (fun x => bltD .int [x]) (bltV .int) := by
  refine ⟨_, call_int1, fun e F H ρ σ dx z x Q hz rel hx q => ?_⟩
  cases dx <;> first | (cases hz; done) | skip
  · cases hz
    exact .inr ⟨_, by rw [(hx.plain fun ys z => nomatch z).bool_inv], q F H _ (Ex.refl F) rel (.int _)⟩
  · cases hz
    exact .inl ⟨_, by rw [(hx.plain fun ys z => nomatch z).int_inv], q F H _ (Ex.refl F) rel (.int _)⟩
theorem blt_tuple : BltR X (.type "tuple") (fun x => bltD .tuple [x]) (bltV .tuple) := by
  refine ⟨_, call_tuple_of, fun e F H ρ σ dx z x Q hz rel hx q => ?_⟩
  cases dx <;> first | (cases hz; done) | skip
  · cases hz
    obtain ⟨a, us, rfl, h1, h2⟩ := sq_pk rel.sub hx
    refine ⟨a, us, rfl, .inl ⟨h1, fun p hp => ?_⟩⟩
    have hF := rel.noneF hp
    exact q _ _ _ (Ex.new hF) (rel.new hp) (.tup (.inl (.inl upd_same)) (Reps.mono (Ex.new hF) h2))
  · cases hz
    obtain ⟨a, us, rfl, h1, h2, h3⟩ := tq_pk rel.sub hx
    exact ⟨a, us, rfl, .inr ⟨h1, q F H _ (Ex.refl F) rel (.tup h2 h3)⟩⟩
theorem blt_list : BltR X (.type "list") (fun x => bltD .list [x]) (bltV .list) := by
  refine ⟨_, call_list_of, fun e F H ρ σ dx z x Q hz rel hx q => ?_⟩
  cases dx <;> first | (cases hz; done) | skip
  · cases hz
    obtain ⟨a, us, rfl, h1, h2⟩ := sq_pk rel.sub hx
    exact ⟨a, us, rfl, .inl h1, fun p hp => q _ _ _ (Ex.refl F) (rel.laid hp) (frNew rel hp h2)⟩
  · cases hz
    obtain ⟨a, us, rfl, h1, h2, h3⟩ := tq_pk rel.sub hx
    exact ⟨a, us, rfl, .inr h1, fun p hp => q _ _ _ (Ex.refl F) (rel.laid hp) (frNew rel hp h3)⟩
def gSum1 : D → Option D
  | .list xs => (intsOf xs).map fun ns => .int ns.sum
  | _ => none
def gSum2 : D → Option D
  | .tuple xs => (intsOf xs).map fun ns => .int ns.sum
  | _ => none
theorem blt_sum1 (hc : X.calm = true) : BltR X (.builtin "sum") gSum1 .pv := by
  refine ⟨_, cr_sum hc, fun e F H ρ σ dx z x Q hz rel hx q => ?_⟩
  cases dx <;> first | (cases hz; done) | skip
  obtain ⟨ns, h, rfl⟩ := Option.map_eq_some_iff.mp hz
  obtain ⟨a, us, rfl, h1, h2⟩ := sq_pk rel.sub hx
  rw [h2.intsOf h] at h1
  exact ⟨a, ns, rfl, h1, q F H _ (Ex.refl F) rel (.int _)⟩
theorem blt_sum2 (hc : X.calm = true) : BltR X (.builtin "sum") gSum2 .pv := by
  refine ⟨_, cr_sumT hc, fun e F H ρ σ dx z x Q hz rel hx q => ?_⟩
  cases dx <;> first | (cases hz; done) | skip
  obtain ⟨ns, h, rfl⟩ := Option.map_eq_some_iff.mp hz
  obtain ⟨a, us, rfl, h1, _, h2⟩ := tq_pk rel.sub hx
  rw [h2.intsOf h] at h1
  exact ⟨a, ns, rfl, h1, q F H _ (Ex.refl F) rel (.int _)⟩
theorem blt_sum (hc : X.calm = true) : BltR X (.builtin "sum") (fun x => bltD .sum [x]) (bltV .sum) :=
  (blt_sum1 hc).or (blt_sum2 hc) fun x z h => by
    cases x <;> first | (cases h; done) | exact .inl h | exact .inr h
theorem leastI_spec : ∀ (r : List Int) (m : Int), (leastI r m = m ∨ leastI r m ∈ r) ∧ leastI r m ≤ m ∧ ∀ y ∈ r, leastI r m ≤ y
  | [], m => ⟨.inl rfl, Int.le_refl _, fun _ h => nomatch h⟩
  | x :: r, m => by
    unfold leastI
    by_cases h : x < m
    · rw [if_pos h]
      obtain ⟨a, b, c⟩ := leastI_spec r x
      refine ⟨.inr ?_, by omega, fun y hy => ?_⟩
      · rcases a with a | a
        · rw [a]; exact List.mem_cons_self
        · exact List.mem_cons_of_mem _ a
      · rcases List.mem_cons.mp hy with rfl | hy
        · exact b
        · exact c y hy
    · rw [if_neg h]
      obtain ⟨a, b, c⟩ := leastI_spec r m
      refine ⟨a.imp id (List.mem_cons_of_mem _), b, fun y hy => ?_⟩
      rcases List.mem_cons.mp hy with rfl | hy
      · omega
      · exact c y hy
theorem mostI_spec : ∀ (r : List Int) (m : Int), (mostI r m = m ∨ mostI r m ∈ r) ∧ m ≤ mostI r m ∧ ∀ y ∈ r, y ≤ mostI r m
  | [], m => ⟨.inl rfl, Int.le_refl _, fun _ h => nomatch h⟩
  | x :: r, m => by
    unfold mostI
    by_cases h : m < x
    · rw [if_pos h]
      obtain ⟨a, b, c⟩ := mostI_spec r x
      refine ⟨.inr ?_, by omega, fun y hy => ?_⟩
      · rcases a with a | a
        · rw [a]; exact List.mem_cons_self
        · exact List.mem_cons_of_mem _ a
      · rcases List.mem_cons.mp hy with rfl | hy
        · exact b
        · exact c y hy
    · rw [if_neg h]
      obtain ⟨a, b, c⟩ := mostI_spec r m
      refine ⟨a.imp id (List.mem_cons_of_mem _), b, fun y hy => ?_⟩
      rcases List.mem_cons.mp hy with rfl | hy
      · omega
      · exact c y hy
def gMin1 : D → Option D
  | .list xs => (intsOf xs).bind fun ns => (minL ns).map .int
  | _ => none
def gMin2 : D → Option D
  | .tuple xs => (intsOf xs).bind fun ns => (minL ns).map .int
  | _ => none
theorem blt_min1 (hc : X.calm = true) : BltR X (.builtin "min") gMin1 .pv := by
  refine ⟨_, cr_min hc, fun e F H ρ σ dx z x Q hz rel hx q => ?_⟩
  cases dx <;> first | (cases hz; done) | skip
  obtain ⟨ns, h, hz⟩ := Option.bind_eq_some_iff.mp hz
  obtain ⟨m, hm, rfl⟩ := Option.map_eq_some_iff.mp hz
  obtain ⟨a, us, rfl, h1, h2⟩ := sq_pk rel.sub hx
  rw [h2.intsOf h] at h1
  cases ns with
  | nil => cases hm
  | cons y r =>
    cases hm
    obtain ⟨s1, s2, s3⟩ := leastI_spec r y
    refine ⟨a, _, rfl, h1, by simp, fun m hm hle => ?_⟩
    have e1 : m = leastI r y := by
      have h4 := hle y List.mem_cons_self
      rcases List.mem_cons.mp hm with rfl | hm
      · rcases s1 with s1 | s1
        · exact s1.symm
        · have := hle _ (List.mem_cons_of_mem _ s1); omega
      · have h5 := s3 m hm
        rcases s1 with s1 | s1
        · omega
        · have := hle _ (List.mem_cons_of_mem _ s1); omega
    rw [e1]
    exact q F H _ (Ex.refl F) rel (.int _)
theorem blt_min2 (hc : X.calm = true) : BltR X (.builtin "min") gMin2 .pv := by
  refine ⟨_, cr_minT hc, fun e F H ρ σ dx z x Q hz rel hx q => ?_⟩
  cases dx <;> first | (cases hz; done) | skip
  obtain ⟨ns, h, hz⟩ := Option.bind_eq_some_iff.mp hz
  obtain ⟨m, hm, rfl⟩ := Option.map_eq_some_iff.mp hz
  obtain ⟨a, us, rfl, h1, _, h2⟩ := tq_pk rel.sub hx
  rw [h2.intsOf h] at h1
  cases ns with
  | nil => cases hm
  | cons y r =>
    cases hm
    obtain ⟨s1, s2, s3⟩ := leastI_spec r y
    refine ⟨a, _, rfl, h1, by simp, fun m hm hle => ?_⟩
    have e1 : m = leastI r y := by
      have h4 := hle y List.mem_cons_self
      rcases List.mem_cons.mp hm with rfl | hm
      · rcases s1 with s1 | s1
        · exact s1.symm
        · have := hle _ (List.mem_cons_of_mem _ s1); omega
      · have h5 := s3 m hm
        rcases s1 with s1 | s1
        · omega
        · have := hle _ (List.mem_cons_of_mem _ s1); omega
    rw [e1]
    exact q F H _ (Ex.refl F) rel (.int _)
theorem blt_min (hc : X.calm = true) : BltR X (.builtin "min") (fun x => bltD .min [x]) (bltV .min) :=
  (blt_min1 hc).or (blt_min2 hc) fun x z h => by
    cases x <;> first | (cases h; done) | exact .inl h | exact .inr h
def gMax1 : D → Option D
  | .list xs => (intsOf xs).bind fun ns => (maxL ns).map .int
  | _ => none
def gMax2 : D → Option D
  | .tuple xs => (intsOf xs).bind fun ns => (maxL ns).map .int
  | _ => none
theorem blt_max1 (hc : X.calm = true) : BltR X (.builtin "max") gMax1 .pv := by
  refine ⟨_, cr_max hc, fun e F H ρ σ dx z x Q hz rel hx q => ?_⟩
  cases dx <;> first | (cases hz; done) | skip
  obtain ⟨ns, h, hz⟩ := Option.bind_eq_some_iff.mp hz
  obtain ⟨m, hm, rfl⟩ := Option.map_eq_some_iff.mp hz
  obtain ⟨a, us, rfl, h1, h2⟩ := sq_pk rel.sub hx
  rw [h2.intsOf h] at h1
  cases ns with
  | nil => cases hm
  | cons y r =>
    cases hm
    obtain ⟨s1, s2, s3⟩ := mostI_spec r y
    refine ⟨a, _, rfl, h1, by simp, fun m hm hle => ?_⟩
    have e1 : m = mostI r y := by
      have h4 := hle y List.mem_cons_self
      rcases List.mem_cons.mp hm with rfl | hm
      · rcases s1 with s1 | s1
        · exact s1.symm
        · have := hle _ (List.mem_cons_of_mem _ s1); omega
      · have h5 := s3 m hm
        rcases s1 with s1 | s1
        · omega
        · have := hle _ (List.mem_cons_of_mem _ s1); omega
    rw [e1]
    exact q F H _ (Ex.refl F) rel (.int _)
theorem blt_max2 (hc : X.calm = true) : BltR X (.builtin "max") gMax2 .pv := by
  refine ⟨_, cr_maxT hc, fun e F H ρ σ dx z x Q hz rel hx q => ?_⟩
  cases dx <;> first | (cases hz; done) | skip
  obtain ⟨ns, h, hz⟩ := Option.bind_eq_some_iff.mp hz
  obtain ⟨m, hm, rfl⟩ := Option.map_eq_some_iff.mp hz
  obtain ⟨a, us, rfl, h1, _, h2⟩ := tq_pk rel.sub hx
  rw [h2.intsOf h] at h1
  cases ns with
  | nil => cases hm
  | cons y r =>
    cases hm
    obtain ⟨s1, s2, s3⟩ := mostI_spec r y
    refine ⟨a, _, rfl, h1, by simp, fun m hm hle => ?_⟩
    have e1 : m = mostI r y := by
      have h4 := hle y List.mem_cons_self
      rcases List.mem_cons.mp hm with rfl | hm
      · rcases s1 with s1 | s1
        · exact s1.symm
        · have := hle _ (List.mem_cons_of_mem _ s1); omega
      · have h5 := s3 m hm
        rcases s1 with s1 | s1
        · omega
        · have := hle _ (List.mem_cons_of_mem _ s1); omega
    rw [e1]
    exact q F H _ (Ex.refl F) rel (.int _)
theorem blt_max (hc : X.calm = true) : BltR X (.builtin "max") (fun x => bltD .max [x]) (bltV .max) :=
  (blt_max1 hc).or (blt_max2 hc) fun x z h => by
    cases x <;> first | (cases h; done) | exact .inl h | exact .inr h
theorem blt_all (hc : X.calm = true) : BltR X (.builtin "all") (fun x => bltD .all [x]) (bltV .all) := by
  refine ⟨_, cr_all hc, fun e F H ρ σ dx z x Q hz rel hx q => ?_⟩
  cases dx <;> first | (cases hz; done) | skip
  obtain ⟨ns, h, rfl⟩ := Option.map_eq_some_iff.mp hz
  obtain ⟨a, us, rfl, h1, h2⟩ := sq_pk rel.sub hx
  rw [h2.boolsOf h] at h1
  exact ⟨a, ns, rfl, h1, q F H _ (Ex.refl F) rel (.bl _)⟩
theorem blt_any (hc : X.calm = true) : BltR X (.builtin "any") (fun x => bltD .any [x]) (bltV .any) := by
  refine ⟨_, cr_any hc, fun e F H ρ σ dx z x Q hz rel hx q => ?_⟩
  cases dx <;> first | (cases hz; done) | skip
  obtain ⟨ns, h, rfl⟩ := Option.map_eq_some_iff.mp hz
  obtain ⟨a, us, rfl, h1, h2⟩ := sq_pk rel.sub hx
  rw [h2.boolsOf h] at h1
  exact ⟨a, ns, rfl, h1, q F H _ (Ex.refl F) rel (.bl _)⟩
end
section
variable {X : Cx}
def gSrt1 : D → Option D
  | .list xs => (intsOf xs).map fun ns => .list ((sortI ns).map .int)
  | _ => none
def gSrt2 : D → Option D
  | .list xs => (pairsOf xs).map fun ps => .list ((sortP ps).map prD)
  | _ => none
theorem reps_srt {K : PySem.W.Frag} {F : Hp} : ∀ ns : List Int, Reps K F (ns.map V.int) (ns.map PyData.int)
  | [] => .nil
  | i :: r => .cons (.int i) (reps_srt r)
theorem pairsOf_eq : ∀ {xs : List D} {ps : List (Int × Int)}, pairsOf xs = some ps → xs = ps.map prD
  | [], ps, h => by cases h; rfl
  | x :: xs, ps, h => by
    unfold pairsOf at h
    split at h
    · rename_i e
      cases e
    · rename_i a b r e
      cases e
      cases hr : pairsOf xs with
      | none => rw [hr] at h; cases h
      | some qs =>
        rw [hr] at h
        cases h
        rw [pairsOf_eq hr]
        rfl
    · cases h
theorem blt_srt1 : BltR X (.builtin "sorted") gSrt1 (bltV .sorted) := by
  refine ⟨_, cr_sortedI, fun e F H ρ σ dx z x Q hz rel hx q => ?_⟩
  cases dx <;> first | (cases hz; done) | skip
  obtain ⟨ns, h, rfl⟩ := Option.map_eq_some_iff.mp hz
  obtain ⟨a, us, rfl, h1, h2⟩ := sq_pk rel.sub hx
  rw [h2.intsOf h] at h1
  refine ⟨a, ns, rfl, h1, fun ms p hp hs hn => ?_⟩
  rw [sortI_uniq hp hs]
  exact q F _ _ (Ex.refl F) (rel.laid hn) (frNew rel hn (reps_srt _))
theorem blt_srt2 : BltR X (.builtin "sorted") gSrt2 (bltV .sorted) := by
  refine ⟨_, cr_srtP, fun e F H ρ σ dx z x Q hz rel hx q => ?_⟩
  cases dx <;> first | (cases hz; done) | skip
  obtain ⟨ps, h, rfl⟩ := Option.map_eq_some_iff.mp hz
  obtain ⟨a, us, rfl, h1, h2⟩ := sq_pk rel.sub hx
  rw [pairsOf_eq h] at h2
  exact ⟨a, us, F, ps, rfl, h1, rel.sub, h2, fun ys p hr hn => q F _ _ (Ex.refl F) (rel.laid hn) (frNew rel hn hr)⟩
def gSrt3 : D → Option D
  | .tuple xs => (intsOf xs).map fun ns => .list ((sortI ns).map .int)
  | _ => none
theorem blt_srt3 : BltR X (.builtin "sorted") gSrt3 (bltV .sorted) := by
  refine ⟨_, cr_srtTI, fun e F H ρ σ dx z x Q hz rel hx q => ?_⟩
  cases dx <;> first | (cases hz; done) | skip
  obtain ⟨ns, h, rfl⟩ := Option.map_eq_some_iff.mp hz
  obtain ⟨a, us, rfl, h1, _, h2⟩ := tq_pk rel.sub hx
  rw [h2.intsOf h] at h1
  refine ⟨a, ns, rfl, h1, fun ms p hp hs hn => ?_⟩
  rw [sortI_uniq hp hs]
  exact q F _ _ (Ex.refl F) (rel.laid hn) (frNew rel hn (reps_srt _))
def gSrt12 : D → Option D
  | .list xs => sortD xs
  | _ => none
theorem blt_srt12 : BltR X (.builtin "sorted") gSrt12 (bltV .sorted) := by
  refine blt_srt1.or blt_srt2 fun x z h => ?_
  cases x <;> first | (cases h; done) | skip
  rename_i xs
  have h : sortD xs = some z := h
  unfold sortD at h
  cases hi : intsOf xs with
  | some ns =>
    rw [hi] at h
    left
    show (intsOf xs).map _ = some z
    rw [hi]
    exact h
  | none =>
    rw [hi] at h
    right
    exact h
theorem blt_sorted : BltR X (.builtin "sorted") (fun x => bltD .sorted [x]) (bltV .sorted) :=
  blt_srt12.or blt_srt3 fun x z h => by
    cases x <;> first | (cases h; done) | exact .inl h | exact .inr h
end
def bltName : Blt → Str
  | .len => "len"
  | .abs => "abs"
  | .int => "int"
  | .tuple => "tuple"
  | .list => "list"
  | .sum => "sum"
  | .min => "min"
  | .max => "max"
  | .all => "all"
  | .any => "any"
  | .sorted => "sorted"
def bltVal : Blt → Value
  | .len => .builtin "len"
  | .abs => .builtin "abs"
  | .int => .type "int"
  | .tuple => .type "tuple"
  | .list => .type "list"
  | .sum => .builtin "sum"
  | .min => .builtin "min"
  | .max => .builtin "max"
  | .all => .builtin "all"
  | .any => .builtin "any"
  | .sorted => .builtin "sorted"
theorem blt_rule {X : Cx} (hc : X.calm = true) (b : Blt) : BltR X (bltVal b) (fun x => bltD b [x]) (bltV b) := by
  cases b with
  | len => exact blt_len
  | abs => exact blt_abs
  | int => exact blt_int
  | tuple => exact blt_tuple
  | list => exact blt_list
  | sum => exact blt_sum hc
  | min => exact blt_min hc
  | max => exact blt_max hc
  | all => exact blt_all hc
  | any => exact blt_any hc
  | sorted => exact blt_sorted
theorem blt_boot (b : Blt) : bootBuiltins (bltName b) = some (bltVal b) := by cases b <;> decide +kernel
theorem blt_nn (b : Blt) : bltName b ≠ "__name__" := by cases b <;> decide
theorem blt_nd (b : Blt) : (bltName b == ("__debug__" : Str)) = false := by cases b <;> decide
section
variable {X : Cx} {a c : Expr} {xa : XAt τ} {W : WX} {p pos : Pos} {ep : Env → R D}
theorem pe_b1 {b : Blt} (hc : X.calm = true) (hg : Gl X (bltName b)) (hm : X.mg (bltName b) = none) (ha : PE X a (tP X.K xa W ep)) (hs : starEach [a] X.env = (false, eval a X.env) :: starEach [] X.env) :
    PE X (.Call (.Name (bltName b) p) [a] [] pos) (tV X.K xa W fun ρ => (ep ρ).bind fun x ρ => R.ofO ((bltD b [x]).map (bltV b)) ρ) := by
  obtain ⟨r, h1, h2⟩ := blt_rule hc b
  have hbt := blt_boot b
  have key : PE X (.Call (.Name (bltName b) p) [a] [] pos) (tCB r (tCons (tP X.K xa W ep) tNil)) := by
    cases b with
    | len => exact pe_callB h1 hg hm hbt (pa_cons ha pa_nil hs) (blt_nn _) (blt_nd _) hs rfl
    | abs => exact pe_callB h1 hg hm hbt (pa_cons ha pa_nil hs) (blt_nn _) (blt_nd _) hs rfl
    | int => exact pe_callTy h1 hg hm hbt (pa_cons ha pa_nil hs) (blt_nn _) (blt_nd _) hs rfl
    | tuple => exact pe_callTy h1 hg hm hbt (pa_cons ha pa_nil hs) (blt_nn _) (blt_nd _) hs rfl
    | list => exact pe_callTy h1 hg hm hbt (pa_cons ha pa_nil hs) (blt_nn _) (blt_nd _) hs rfl
    | sum => exact pe_callB h1 hg hm hbt (pa_cons ha pa_nil hs) (blt_nn _) (blt_nd _) hs rfl
    | min => exact pe_callB h1 hg hm hbt (pa_cons ha pa_nil hs) (blt_nn _) (blt_nd _) hs rfl
    | max => exact pe_callB h1 hg hm hbt (pa_cons ha pa_nil hs) (blt_nn _) (blt_nd _) hs rfl
    | all => exact pe_callB h1 hg hm hbt (pa_cons ha pa_nil hs) (blt_nn _) (blt_nd _) hs rfl
    | any => exact pe_callB h1 hg hm hbt (pa_cons ha pa_nil hs) (blt_nn _) (blt_nd _) hs rfl
    | sorted => exact pe_callB h1 hg hm hbt (pa_cons ha pa_nil hs) (blt_nn _) (blt_nd _) hs rfl
  exact pe_one_of h2 key
end
end Pv

namespace Pv
open PySem L2 PySem.Spec PyProof.Rows
/-! ### t[::-1] of a tuple -/
theorem adj_back (m : Nat) : Builtin.Slice.sliceAdjust none none (-1) (m : Int) = ((m : Int) - 1, -1) := by
  unfold Builtin.Slice.sliceAdjust
  simp
theorem plc_back (m : Nat) : Builtin.Slice.slicePlaces ((m : Int) - 1) (-1) (-1) = m := by
  unfold Builtin.Slice.slicePlaces
  rw [if_neg (by omega)]
  by_cases h : (m : Int) - 1 > -1
  · rw [if_pos h, show -(-1 : Int) = 1 from rfl, Int.ediv_one]
    omega
  · rw [if_neg h]
    omega
theorem pick_back (xs : Array Value) : ((List.range xs.size).filterMap fun (m : Nat) => xs[(((xs.size : Int) - 1) + (m : Int) * (-1)).toNat]?) = xs.toList.reverse := by
  have e : (List.range xs.size).map (fun (m : Nat) => xs[(((xs.size : Int) - 1) + (m : Int) * (-1)).toNat]?) = xs.toList.reverse.map some := by
    apply List.ext_getElem
    · simp
    · intro i h1 h2
      simp at h1 h2
      simp only [List.getElem_map, List.getElem_range, List.getElem_reverse, Array.length_toList]
      have e2 : (((xs.size : Int) - 1) + (i : Int) * (-1)).toNat = xs.size - 1 - i := by omega
      rw [e2, Array.getElem?_eq_getElem (by omega)]
      simp
  have key : ∀ (l : List Nat) (f : Nat → Option Value) (r : List Value), l.map f = r.map some → l.filterMap f = r := by
    intro l f
    induction l with
    | nil =>
      intro r h
      cases r with
      | nil => rfl
      | cons _ _ => simp at h
    | cons a l ih =>
      intro r h
      cases r with
      | nil => simp at h
      | cons b r =>
        simp only [List.map_cons, List.cons.injEq] at h
        rw [List.filterMap_cons, h.1]
        simp only
        rw [ih r h.2]
  exact key _ _ _ e
section
variable {prog : Program} {w : World} {A : Around} {E : Value → Shared → Prop} {s : Shared}
theorem applied_back {sl : Addr} {m : Nat} {u : Tok} {Q : Int × Int × Nat → Shared → Prop} (hs : s.heap.IsSliceOf sl .none .none (.int (-1) u))
    (h : Q ((m : Int) - 1, -1, m) s) : wpAny (model prog w) A (Builtin.Slice.sliceApplied (.ref sl) (pure (m : Int))) Q E s := by
  obtain ⟨ob, g1, g2, g3⟩ := id hs
  unfold Builtin.Slice.sliceApplied Builtin.Slice.sliceFields
  refine wpAny_bind (wpAny_bind (wpAny_field g1 g3 (x := .none) rfl (wpAny_bind (wpAny_field g1 g3 (x := .none) rfl (wpAny_bind (wpAny_field g1 g3 (x := .int (-1) u) rfl (wpAny_pure ?_)))))))
  refine wpAny_bind (slicePart_int ?_)
  show wpAny _ _ (if ((-1 : Int) == 0) = true then _ else _) _ _ s
  rw [if_neg (by decide)]
  refine wpAny_bind (slicePart_none (wpAny_bind (slicePart_none (wpAny_bind (wpAny_pure ?_)))))
  show wpAny _ _ (match Builtin.Slice.sliceAdjust none none (-1) (m : Int) with | (lo, hi) => pure (lo, (-1 : Int), Builtin.Slice.slicePlaces lo hi (-1))) _ _ s
  rw [adj_back]
  show wpAny _ _ (pure ((m : Int) - 1, (-1 : Int), Builtin.Slice.slicePlaces ((m : Int) - 1) (-1) (-1))) _ _ s
  rw [plc_back]
  exact wpAny_pure h
theorem tup_back {t sl : Addr} {items : Array Value} {u : Tok} {Q : Value → Shared → Prop} (ht : IsTup s.heap t items) (hs : s.heap.IsSliceOf sl .none .none (.int (-1) u))
    (h : Q (.ref s.heap.objs.size) { s with heap := s.heap.push { cls := .type "tuple", data := .seq items.toList.reverse.toArray } })
    (hz : items.size ≤ sizeLine) : wpAny (model prog w) A (getItem (.ref t) (.ref sl)) Q E s := by
  have hfit : sizeOk (.seq items.toList.reverse.toArray) := by
    show items.toList.reverse.toArray.size ≤ sizeLine
    rw [List.size_toArray, List.length_reverse, Array.length_toList]
    exact hz
  obtain ⟨ob, g1, g2, g3⟩ := id hs
  have isS : s.TypeIs (.ref sl) "slice" := ⟨ob, g1, g2⟩
  unfold getItem
  try with_reducible refine wpAny_holding ?_
  first | refine wpAny_bind (wpAny_pure ?_) | skip
  refine wpAny_bind (wpAny_sequenceKey ht.typeIs (by decide) ?_)
  refine wpAny_bind (wpAny_callSpecial?_slot (name := Str.ofString "__getitem__") ht.typeIs slot_tuple_getitem (wpAny_call_entry slot_tuple_getitem ht.typeIs entry_tuple_getitem ?_ (args_tuple_getitem _ _)))
  show wpAny _ _ (Builtin.Tuple.tupleItemsOf (.ref t) >>= _) _ _ s
  refine wpAny_bind (tupleItemsOf_ ht (wpAny_bind (wpAny_typeOf isS ?_)))
  rw [if_pos (by decide)]
  refine wpAny_bind (applied_back (m := items.size) hs ?_)
  have no1 : ¬ ((((items.size : Int) - 1) == 0 && (-1 : Int) == 1 && items.size == items.size) = true) := by simp
  show wpAny _ _ (if (((items.size : Int) - 1) == 0 && (-1 : Int) == 1 && items.size == items.size) = true then _ else _) _ _ s
  rw [if_neg no1, pick_back]
  first
    | exact wpAny_bind (m := Builtin.Tuple.tupleExact _) (wpAny_newObj_type (wpAny_pure ⟨_, rfl, wpAny_pure h⟩) hfit)
    | exact wpAny_bind (m := Builtin.Tuple.tupleExact _) (wpAny_newObj_type (wpAny_bind (wpAny_pure (wpAny_pure ⟨_, rfl, wpAny_pure h⟩))) hfit)
    | exact wpAny_bind (wpAny_bind (m := Builtin.Tuple.tupleExact _) (wpAny_newObj_type (wpAny_pure (wpAny_pure ⟨_, rfl, wpAny_pure h⟩)) hfit))
    | exact wpAny_bind (wpAny_bind (m := Builtin.Tuple.tupleExact _) (wpAny_newObj_type (wpAny_pure ⟨_, rfl, wpAny_pure h⟩) hfit))
end
/-- either of the two, turned -/
def tBack (K : PySem.W.Frag) (te : TE) : TE := fun σ H Q => te σ H fun x H1 => (∃ a xs, x = .ref a ∧ SqL K H1 a xs ∧ ∀ p, H1 p = none → Q (.ref p) (upd H1 p (.lst xs.reverse))) ∨ (∃ a xs, x = .ref a ∧ SqT K H1 a xs ∧ ∀ p, H1 p = none → Q (.ref p) (upd H1 p (.tup xs.reverse)))
theorem pe_back {X : Cx} {e : Expr} {te : TE} {k : Nat} {p1 p2 p3 pos : Pos} (he : PE X e te) : PE X (.Subscript e (.Slice none none (some (.UnaryOp .USub (.Constant (.int 1) k p1) p2)) p3) pos) (tBack X.K te) := by
  refine ⟨fun pins s σ H Q I h => Subscript_ (thn (he.run pins s σ H _ I h) fun v s1 ⟨x, H1, I1, r1, q1⟩ => ?_)⟩
  have part : PO X (some (.UnaryOp .USub (.Constant (.int 1) k p1) p2)) (tPart (tUn (rU fun i => .int (-i)) (tC (.int 1)))) := po_some (pe_un un_neg pe_int)
  refine wpAny_Slice (thn (po_none.run pins s1 σ H1 (fun o H2 => o = none ∧ H2 = H1) I1 ⟨rfl, rfl⟩) fun w1 s2 ⟨o1, H2, I2, c1, d1, f1⟩ => ?_)
  subst d1 f1
  refine thn (po_none.run pins s2 σ H2 (fun o H3 => o = none ∧ H3 = H2) I2 ⟨rfl, rfl⟩) fun w2 s3 ⟨o2, H3, I3, c2, d2, f2⟩ => ?_
  subst d2 f2
  refine thn (part.run pins s3 σ H3 (fun o H4 => o = some (-1) ∧ H4 = H3) I3 ⟨1, rfl, -1, rfl, rfl, rfl⟩) fun w3 s4 ⟨o3, H4, I4, c3, d3, f3⟩ => ?_
  subst d3 f3
  have I5 : Inv X pins σ H4 { s4 with heap := s4.heap.push { cls := .type "slice", data := .fields #[w1, w2, w3] } } := I4.kept (t' := s4.toks) fun b ob q => Heap.get?_push_of_some _ q
  have old : ∀ (b : Addr) (ob u : Obj), ({ s4 with heap := s4.heap.push { cls := .type "slice", data := .fields #[w1, w2, w3] } } : Shared).heap.get? b = some ob → (({ s4 with heap := s4.heap.push { cls := .type "slice", data := .fields #[w1, w2, w3] } } : Shared).heap.push u).get? b = some ob := fun b ob u q => Heap.get?_push_of_some _ q
  rcases q1 with ⟨a, xs, ex, hx, q⟩ | ⟨a, xs, ex, hx, q⟩
  · subst ex
    cases r1
    obtain ⟨its, r, ht, hz⟩ := I5.list hx
    have hlen := r.length
    show wpAny _ _ (subscriptTail e (.Slice none none (some (.UnaryOp .USub (.Constant (.int 1) k p1) p2)) p3) (.ref a) (.ref s4.heap.objs.size)) _ _ _
    refine tail_any (ops := [.ref a, .ref s4.heap.objs.size]) ht.isList.typeIs (PySem.slot_list_getitem.lookup) ?_ (by with_unfolding_all rfl)
    refine wpAny_getItem_list_slice ht.isList (Heap.IsSliceOf.new _ w1 w2 w3) c1 c2 c3 (by decide) ?_ (by rw [List.size_toArray]; omega)
    rw [PySem.W.krv_pick]
    refine ⟨.ref _, _, I5.laid (t' := s4.toks) (o := .lst xs.reverse) (fun b ob q => old b ob _ q) (Nat.le_refl _) ?_, rfl, q _ (I5.hok.fresh (Nat.le_refl _))⟩
    exact ⟨by rw [List.length_reverse]; exact hz, _, 0, r.reverse, Heap.get?_push_size _ rfl⟩
  · subst ex
    cases r1
    obtain ⟨its, r, ht, hz⟩ := I5.tuple hx
    have hlen := r.length
    cases c1
    cases c2
    cases c3 with
    | int _ u =>
      show wpAny _ _ (subscriptTail e (.Slice none none (some (.UnaryOp .USub (.Constant (.int 1) k p1) p2)) p3) (.ref a) (.ref s4.heap.objs.size)) _ _ _
      refine tail_any (ops := [.ref a, .ref s4.heap.objs.size]) ht.typeIs (slot_tuple_getitem.lookup) ?_ (by with_unfolding_all rfl)
      refine tup_back ht (Heap.IsSliceOf.new _ .none .none (.int (-1) u)) ?_ (by rw [List.size_toArray]; omega)
      refine ⟨.ref _, _, I5.laid (t' := s4.toks) (o := .tup xs.reverse) (fun b ob q => old b ob _ q) (Nat.le_refl _) ?_, rfl, q _ (I5.hok.fresh (Nat.le_refl _))⟩
      exact ⟨by rw [List.length_reverse]; exact hz, _, r.reverse, IsTup.new _ _⟩
end Pv
namespace Pv
open PySem L2 PyProof.Rows

section
variable {X : Cx} {a c : Expr} {xa : XAt τ} {W : WX} {p pos : Pos}
/-! ### min, max of two -/
theorem pe_min2 {ea eb : Env → R Val} (hc : X.calm = true) (hg : Gl X "min") (hm : X.mg "min" = none) (ha : PE X a (tV X.K xa W ea)) (hb : PE X c (tV X.K xa W eb)) (hs : starEach [a, c] X.env = (false, eval a X.env) :: starEach [c] X.env) (hs2 : starEach [c] X.env = (false, eval c X.env) :: starEach [] X.env)
    (hpl : (backTo pos (starEach [c] X.env)).any (·.1) = false) :
    PE X (.Call (.Name "min" p) [a, c] [] pos) (tV X.K xa W fun ρ => bindD (ea ρ) fun x ρ => bindD (eb ρ) fun y ρ => R.ofO ((bltD .min [x, y]).map .pv) ρ) := by
  refine pe_weak (pe_callB (call_min2 hc) hg hm (by decide +kernel) (pa_cons (pe_toD ha) (pa_cons (pe_toD hb) pa_nil hs2) hs) (by decide) (by decide) hs hpl) fun σ H Q ⟨e, F, ρ, rel, post⟩ => ?_
  simp only [bindD_dd] at post
  refine ⟨e, F, ρ, rel, (Post.bind post).imp fun dx ρ1 F1 H1 ex1 rel1 q x hx => ⟨e, F1, ρ1, rel1, (Post.bind q).imp fun dy ρ2 F2 H2 ex2 rel2 q2 y hy => ?_⟩⟩
  cases dx <;> cases dy <;> first | exact q2.elim | skip
  exact ⟨_, _, by rw [hx.int_inv, hy.int_inv], q2 F2 H2 (Ex.refl _) rel2 _ (.int _)⟩
theorem pe_max2 {ea eb : Env → R Val} (hc : X.calm = true) (hg : Gl X "max") (hm : X.mg "max" = none) (ha : PE X a (tV X.K xa W ea)) (hb : PE X c (tV X.K xa W eb)) (hs : starEach [a, c] X.env = (false, eval a X.env) :: starEach [c] X.env) (hs2 : starEach [c] X.env = (false, eval c X.env) :: starEach [] X.env)
    (hpl : (backTo pos (starEach [c] X.env)).any (·.1) = false) :
    PE X (.Call (.Name "max" p) [a, c] [] pos) (tV X.K xa W fun ρ => bindD (ea ρ) fun x ρ => bindD (eb ρ) fun y ρ => R.ofO ((bltD .max [x, y]).map .pv) ρ) := by
  refine pe_weak (pe_callB (call_max2 hc) hg hm (by decide +kernel) (pa_cons (pe_toD ha) (pa_cons (pe_toD hb) pa_nil hs2) hs) (by decide) (by decide) hs hpl) fun σ H Q ⟨e, F, ρ, rel, post⟩ => ?_
  simp only [bindD_dd] at post
  refine ⟨e, F, ρ, rel, (Post.bind post).imp fun dx ρ1 F1 H1 ex1 rel1 q x hx => ⟨e, F1, ρ1, rel1, (Post.bind q).imp fun dy ρ2 F2 H2 ex2 rel2 q2 y hy => ?_⟩⟩
  cases dx <;> cases dy <;> first | exact q2.elim | skip
  exact ⟨_, _, by rw [hx.int_inv, hy.int_inv], q2 F2 H2 (Ex.refl _) rel2 _ (.int _)⟩
end

/-! ### isinstance -/
def tyName : D → String
  | .none => "NoneType"
  | .bool _ => "bool"
  | .int _ => "int"
  | .str _ => "str"
  | .list _ => "list"
  | .tuple _ => "tuple"
  | .dict _ => "dict"
def tyStr : Ty → String
  | .int => "int"
  | .bool => "bool"
  | .str => "str"
  | .tup => "tuple"
  | .lst => "list"
  | .dic => "dict"
  | .non => "NoneType"
theorem kit_all (t : Ty) (d : D) : kitB (tyName d) (tyStr t) = some (t.is d) := by
  cases d <;> cases t <;> (simp only [tyName, tyStr, Ty.is]; decide +kernel)
theorem tyx_of {K : PySem.W.Frag} {H : Hp} {x : V} {d : D} (h : Rep K H x d) : TyX K H x (.type (tyName d)) := by
  cases h with
  | non => exact .base .non
  | bl b => exact .base (.bl b)
  | int i => exact .base (.int i)
  | str s => exact .base (.str s)
  | lst h1 h2 => exact .base (.lst h1)
  | tup h1 h2 =>
    rcases h1 with (h1 | ⟨o, h1⟩) | ⟨o, its, n, h1, h3, _⟩
    · exact .base (.tup h1)
    · exact .fTuple h1
    · exact .kTuple h1 h3
  | dic h1 h2 h3 => exact .base (.dK h1)
/-- a name of a built-in class -/
structure TyNm (X : Cx) (t : Ty) (e : Expr) : Prop where
  pe : PE X e (tC (.ty (tyStr t)))
inductive TyNms (X : Cx) : List Ty → List Expr → Prop
  | nil : TyNms X [] []
  | cons {t : Ty} {ts : List Ty} {e : Expr} {es : List Expr} : PE X e (tC (.ty (tyStr t))) → starEach (e :: es) X.env = (false, eval e X.env) :: starEach es X.env → TyNms X ts es → TyNms X (t :: ts) (e :: es)
section
variable {X : Cx} {a c : Expr} {xa : XAt τ} {W : WX} {p pos : Pos} {ep : Env → R D}
theorem pe_isi1 {t : Ty} (hg : Gl X "isinstance") (hm : X.mg "isinstance" = none) (ha : PE X a (tP X.K xa W ep)) (hc : PE X c (tC (.ty (tyStr t)))) (hs : starEach [a, c] X.env = (false, eval a X.env) :: starEach [c] X.env) (hs2 : starEach [c] X.env = (false, eval c X.env) :: starEach [] X.env)
    (hpl : (backTo pos (starEach [c] X.env)).any (·.1) = false) :
    PE X (.Call (.Name "isinstance" p) [a, c] [] pos) (tV X.K xa W fun ρ => (ep ρ).bind fun x ρ => .ok (.pv (.bool ([t].any fun t => t.is x))) ρ) := by
  refine pe_weak (pe_callB call_isi hg hm (by decide +kernel) (pa_cons ha (pa_cons hc pa_nil hs2) hs) (by decide) (by decide) hs hpl) fun σ H Q ⟨e, F, ρ, rel, post⟩ => ⟨e, F, ρ, rel, (Post.bind post).imp fun d ρ1 F1 H1 ex1 rel1 q x hx => ?_⟩
  refine ⟨x, _, _, _, _, rfl, .ty _, tyx_of (hx.rep rel1.sub), kit_ty (kit_all t d), ?_⟩
  have q := q F1 H1 (Ex.refl _) rel1 _ (.bl _)
  simpa using q
theorem kitAny_all {K : PySem.W.Frag} (d : D) : ∀ ts : List Ty, PySem.W.kitAny K (.type (tyName d)) (ts.map fun t => .type (tyStr t)) = some (ts.any fun t => t.is d)
  | [] => rfl
  | t :: ts => by
    have ih := kitAny_all (K := K) d ts
    refine kitAny_cons (kit_ty (kit_all t d)) (fun hb => ?_) (fun hb => ?_)
    · rw [ih, List.any_cons, hb, Bool.false_or]
    · rw [List.any_cons, hb, Bool.true_or]
def tTys : List Ty → TA
  | [] => tNil
  | t :: ts => tCons (tC (.ty (tyStr t))) (tTys ts)
theorem pa_tys {ts : List Ty} {es : List Expr} (h : TyNms X ts es) : PA X es (tTys ts) := by
  induction h with
  | nil => exact pa_nil
  | cons h1 h2 _ ih => exact pa_cons h1 ih h2
theorem tTys_run : ∀ (ts : List Ty) {σ : L2.St} {H : Hp} {Q : List V → Hp → Prop}, Q (ts.map fun t => .ty (tyStr t)) H → tTys ts σ H Q
  | [], _, _, _, h => h
  | t :: ts, σ, H, Q, h => tTys_run ts (Q := fun xs H2 => Q (.ty (tyStr t) :: xs) H2) h
theorem cls_tys : ∀ ts : List Ty, Paired ClsV (ts.map fun t => V.ty (tyStr t)) (ts.map fun t => .type (tyStr t))
  | [] => .nil
  | t :: ts => .cons (.ty _) (cls_tys ts)
theorem pe_isiT {ts : List Ty} {es : List Expr} {k : Nat} {p2 : Pos} (hg : Gl X "isinstance") (hm : X.mg "isinstance" = none) (ha : PE X a (tP X.K xa W ep)) (hc : TyNms X ts es) (hl : ts.length ≤ LIM) (hs : starEach [a, .Tuple es k p2] X.env = (false, eval a X.env) :: starEach [.Tuple es k p2] X.env)
    (hpl : (backTo pos (starEach [.Tuple es k p2] X.env)).any (·.1) = false) :
    PE X (.Call (.Name "isinstance" p) [a, .Tuple es k p2] [] pos) (tV X.K xa W fun ρ => (ep ρ).bind fun x ρ => .ok (.pv (.bool (ts.any fun t => t.is x))) ρ) := by
  refine pe_weak (pe_callB call_isiT hg hm (by decide +kernel) (pa_cons ha (pa_cons (pe_tup (pa_tys hc)) pa_nil rfl) hs) (by decide) (by decide) hs hpl) fun σ H Q ⟨e, F, ρ, rel, post⟩ => ⟨e, F, ρ, rel, (Post.bind post).imp fun d ρ1 F1 H1 ex1 rel1 q x hx => ?_⟩
  refine tTys_run ts ⟨by rw [List.length_map]; exact lim_size hl, fun tp htp => ?_⟩
  refine ⟨x, tp, _, _, _, _, rfl, upd_same, cls_tys ts, tyx_of ((hx.rep rel1.sub).mono (Ex.new htp)), kitAny_all d ts, ?_⟩
  exact q F1 _ (Ex.refl _) (rel1.laid htp) _ (.bl _)
end

/-! ### items, slices -/
section
variable {X : Cx} {a b : Expr} {xa : XAt τ} {W : WX} {pos : Pos}
theorem atI_map {α β : Type} (f : α → β) (xs : List α) (i : Int) : atI (xs.map f) i = (atI xs i).map f := by
  unfold atI
  rw [List.length_map]
  cases ixN xs.length i with
  | none => rfl
  | some j => simp
theorem ix_ok {F H : Hp} {dx dy z : D} {x y : V} {Q : VK} (hz : ixD dx dy = some z) (ex : Ex F H) (hx : PkR X.K F H x dx) (hy : Rep X.K F y dy) (q : ∀ v, Rep X.K F v z → Q v H) : rIx X.K x y H Q := by
  cases dx <;> cases dy <;> first | (cases hz; done) | skip
  · rename_i s i
    simp only [ixD] at hz
    split at hz
    · rename_i hl
      obtain ⟨c, hc, rfl⟩ := Option.map_eq_some_iff.mp hz
      exact .inr (.inr ⟨s, i, c, (hx.plain fun ys z => nomatch z).str_inv, hy.int_inv, lim_size hl, hc, q _ (.str _)⟩)
    · cases hz
  · rename_i xs i
    obtain ⟨l, us, rfl, h1, h2⟩ := sq_pk ex hx
    obtain ⟨v, hv, rv⟩ := h2.atI hz
    exact .inl ⟨l, us, i, v, rfl, hy.int_inv, h1, hv, q v rv⟩
  · rename_i xs i
    obtain ⟨l, us, rfl, h1, _, h2⟩ := tq_pk ex hx
    obtain ⟨v, hv, rv⟩ := h2.atI hz
    exact .inr (.inl ⟨l, us, i, v, rfl, hy.int_inv, h1, hv, q v rv⟩)
theorem pe_ixE {ea eb : Env → R Val} (ha : PE X a (tV X.K xa W ea)) (hb : PE X b (tV X.K xa W eb)) (hs : PlainIx b) :
    PE X (.Subscript a b pos) (tV X.K xa W fun ρ => bindD (ea ρ) fun x ρ => bindD (eb ρ) fun y ρ => R.ofO ((ixD x y).map .pv) ρ) := by
  refine pe_weak (pe_ix ix_seq (pe_toD ha) (pe_toD hb) hs) fun σ H Q ⟨e, F, ρ, rel, post⟩ => ?_
  simp only [bindD_dd] at post
  refine ⟨e, F, ρ, rel, (Post.bind post).imp fun dx ρ1 F1 H1 ex1 rel1 q x hx => ⟨e, F1, ρ1, rel1, (Post.bind q).imp fun dy ρ2 F2 H2 ex2 rel2 q2 y hy => ?_⟩⟩
  obtain ⟨z, hz, q3⟩ := q2.ofO
  obtain ⟨w, hw, rfl⟩ := Option.map_eq_some_iff.mp hz
  exact ix_ok hw rel2.sub (.inl (hx.mono ex2)) hy fun v hv => q3 F2 H2 (Ex.refl _) rel2 v hv
theorem lookV_some {ρ : Env} {j : Nat} {K : PySem.W.Frag} {e : Ent τ} {σ : L2.St} {F : Hp} {α : Type} {f : D → Env → R α} {Q : α → Env → Hp → Hp → Prop} {xa : XAt τ} {W : WX} (h : Post K xa W e σ F ((lookV ρ j).bind f) Q) : ∃ s, ρ[j]? = some (some s) ∧ ((∀ xs, s ≠ .raw xs) ∧ ∀ a, s ≠ .xc a) ∧ Post K xa W e σ F (f s.dat ρ) Q := by
  unfold lookV at h
  split at h
  · exact h.elim
  · exact h.elim
  · rename_i s hn hn2 hs
    exact ⟨s, hs, ⟨fun xs z => hn xs (by rw [z]), fun a z => hn2 a (by rw [z])⟩, h⟩
  · exact h.elim
theorem pe_ixv {j : Nat} {eb : Env → R Val} (ha : PE X a (tVar j)) (hb : PE X b (tV X.K xa W eb)) (hs : PlainIx b) :
    PE X (.Subscript a b pos) (tV X.K xa W fun ρ => (lookV ρ j).bind fun _ ρ => bindD (eb ρ) fun y ρ => (lookV ρ j).bind fun x ρ => R.ofO ((ixD x y).map .pv) ρ) := by
  refine pe_weak (pe_ix ix_seq ha (pe_toD hb) hs) fun σ H Q ⟨e, F, ρ, rel, post⟩ => ?_
  simp only [bindD_dd] at post
  obtain ⟨s, hs, hn, post⟩ := lookV_some post
  obtain ⟨v, hv, _⟩ := rel.look hs hn
  refine ⟨v, hv, e, F, ρ, rel, (Post.bind post).imp fun dy ρ1 F1 H1 ex1 rel1 q y hy => ?_⟩
  obtain ⟨s', hs', hn', q2⟩ := lookV_some q
  obtain ⟨v', hv', pk⟩ := rel1.look hs' hn'
  have ev : v' = v := by rw [hv] at hv'; cases hv'; rfl
  subst ev
  obtain ⟨z, hz, q3⟩ := q2.ofO
  obtain ⟨w, hw, rfl⟩ := Option.map_eq_some_iff.mp hz
  exact ix_ok hw rel1.sub pk hy fun v hv => q3 F1 H1 (Ex.refl _) rel1 v hv
/-- a slice's bound -/
def tO (K : PySem.W.Frag) (xa : XAt τ) (W : WX) (ev : Env → R (Option Int)) : TO := fun σ H Q => ∃ e F ρ, Rel K e F H ρ σ ∧ Post K xa W e σ F (ev ρ) fun o ρ' F' H' => Q o H'
theorem po_weak {oe : Option Expr} {t t' : TO} (h : PO X oe t) (k : ∀ σ H Q, t' σ H Q → t σ H Q) : PO X oe t' := ⟨fun pins s σ H Q I hq => h.run pins s σ H Q I (k σ H Q hq)⟩
theorem po_none' : PO X none (tO X.K xa W fun ρ => partR true (.ok (.pv .none) ρ)) := po_weak po_none fun σ H Q ⟨e, F, ρ, rel, post⟩ => post F H (Ex.refl F) rel
theorem po_some' {ea : Env → R Val} (ha : PE X a (tV X.K xa W ea)) : PO X (some a) (tO X.K xa W fun ρ => partR false (ea ρ)) := by
  refine po_weak (po_some (pe_toD ha)) fun σ H Q ⟨e, F, ρ, rel, post⟩ => ?_
  have post : Post X.K xa W e σ F (partR false (ea ρ)) _ := post
  unfold partR at post
  rw [bindD_dd] at post
  refine ⟨e, F, ρ, rel, (Post.bind post).imp fun d ρ1 F1 H1 ex1 rel1 q v hv => ?_⟩
  cases d <;> first | exact q.elim | skip
  exact ⟨_, hv.int_inv, q F1 H1 (Ex.refl _) rel1⟩
theorem cut_rep {K : PySem.W.Frag} {F : Hp} {us : List V} {ds : List D} (h : Reps K F us ds) (lo hi : Option Int) : Reps K F (cutV us lo hi) (cut ds lo hi) := by
  unfold cutV cut
  rw [h.length]
  exact (h.drop _).take _
theorem cut_whole {ds : List D} {lo hi : Option Int} (h : HT.sIx ds.length 0 lo = 0 ∧ HT.sIx ds.length ds.length hi = ds.length) : cut ds lo hi = ds := by
  unfold cut
  rw [h.1, h.2, List.drop_zero, Nat.sub_zero, List.take_length]
theorem sl_ok {e : Ent τ} {F H : Hp} {ρ : Env} {σ : L2.St} {dx z : D} {x : V} {lo hi : Option Int} {Q : VK} (hz : slD dx lo hi = some z) (rel : Rel X.K e F H ρ σ) (hx : PkR X.K F H x dx)
    (q : ∀ F' H' v, Ex F F' → Rel X.K e F' H' ρ σ → VR X.K e F' H' ρ σ v (frV z) → Q v H') : rSlL X.K x lo hi H Q ∨ rSlA X.K x lo hi H Q := by
  cases dx <;> first | (cases hz; done) | skip
  · cases hz
    obtain ⟨l, us, rfl, h1, h2⟩ := sq_pk rel.sub hx
    exact .inl ⟨l, us, rfl, h1, fun p hp => q _ _ _ (Ex.refl F) (rel.laid hp) (frNew rel hp (cut_rep h2 lo hi))⟩
  · rename_i xs
    cases hz
    obtain ⟨l, us, rfl, h1, h3, h2⟩ := tq_pk rel.sub hx
    refine .inr ⟨l, us, rfl, h1, fun hw => ?_, fun _ p hp => ?_⟩
    · refine q F H _ (Ex.refl F) rel ?_
      rw [h2.length] at hw
      rw [cut_whole hw]
      exact .tup h3 h2
    · have hF := rel.noneF hp
      exact q _ _ _ (Ex.new hF) (rel.new hp) (.tup (.inl (.inl upd_same)) (Reps.mono (Ex.new hF) (cut_rep h2 lo hi)))
theorem pe_slE {ea : Env → R Val} {el eh : Env → R (Option Int)} {lo hi : Option Expr} {p2 : Pos} (ha : PE X a (tV X.K xa W ea)) (hl : PO X lo (tO X.K xa W el)) (hh : PO X hi (tO X.K xa W eh)) :
    PE X (.Subscript a (.Slice lo hi none p2) pos) (tV X.K xa W fun ρ => bindD (ea ρ) fun x ρ => (el ρ).bind fun l ρ => (eh ρ).bind fun h ρ => R.ofO ((slD x l h).map frV) ρ) := by
  refine pe_weak (pe_slice (sl_list.or sl_tupA) (pe_toD ha) hl hh) fun σ H Q ⟨e, F, ρ, rel, post⟩ => ?_
  simp only [bindD_dd] at post
  refine ⟨e, F, ρ, rel, (Post.bind post).imp fun dx ρ1 F1 H1 ex1 rel1 q x hx => ⟨e, F1, ρ1, rel1, (Post.bind q).imp fun l ρ2 F2 H2 ex2 rel2 q2 => ⟨e, F2, ρ2, rel2, (Post.bind q2).imp fun h ρ3 F3 H3 ex3 rel3 q3 => ?_⟩⟩⟩
  obtain ⟨z, hz, q4⟩ := q3.ofO
  obtain ⟨w, hw, rfl⟩ := Option.map_eq_some_iff.mp hz
  exact sl_ok hw rel3 (.inl (hx.mono (ex2.trans ex3))) fun F' H' v ex rel' rep => q4 F' H' ex rel' v rep
theorem pe_slv {j : Nat} {el eh : Env → R (Option Int)} {lo hi : Option Expr} {p2 : Pos} (ha : PE X a (tVar j)) (hl : PO X lo (tO X.K xa W el)) (hh : PO X hi (tO X.K xa W eh)) :
    PE X (.Subscript a (.Slice lo hi none p2) pos) (tV X.K xa W fun ρ => (lookV ρ j).bind fun _ ρ => (el ρ).bind fun l ρ => (eh ρ).bind fun h ρ => (lookV ρ j).bind fun x ρ => R.ofO ((slD x l h).map frV) ρ) := by
  refine pe_weak (pe_slice (sl_list.or sl_tupA) ha hl hh) fun σ H Q ⟨e, F, ρ, rel, post⟩ => ?_
  obtain ⟨s, hs, hn, post⟩ := lookV_some post
  obtain ⟨v, hv, _⟩ := rel.look hs hn
  refine ⟨v, hv, e, F, ρ, rel, (Post.bind post).imp fun l ρ2 F2 H2 ex2 rel2 q2 => ⟨e, F2, ρ2, rel2, (Post.bind q2).imp fun h ρ3 F3 H3 ex3 rel3 q3 => ?_⟩⟩
  obtain ⟨s', hs', hn', q4⟩ := lookV_some q3
  obtain ⟨v', hv', pk⟩ := rel3.look hs' hn'
  have ev : v' = v := by rw [hv] at hv'; cases hv'; rfl
  subst ev
  obtain ⟨z, hz, q5⟩ := q4.ofO
  obtain ⟨w, hw, rfl⟩ := Option.map_eq_some_iff.mp hz
  exact sl_ok hw rel3 pk fun F' H' v ex rel' rep => q5 F' H' ex rel' v rep
/-- a[::-1] -/
theorem pe_rev' {ep : Env → R D} {k : Nat} {p1 p2 p3 : Pos} (ha : PE X a (tP X.K xa W ep)) : PE X (.Subscript a (.Slice none none (some (.UnaryOp .USub (.Constant (.int 1) k p1) p2)) p3) pos) (tV X.K xa W fun ρ => (ep ρ).bind fun x ρ => R.ofO ((revD x).map frV) ρ) := by
  refine pe_weak (pe_back ha) fun σ H Q ⟨e, F, ρ, rel, post⟩ => ⟨e, F, ρ, rel, (Post.bind post).imp fun dx ρ1 F1 H1 ex1 rel1 q x hx => ?_⟩
  obtain ⟨z, hz, q2⟩ := q.ofO
  obtain ⟨w, hw, rfl⟩ := Option.map_eq_some_iff.mp hz
  cases dx <;> first | (cases hw; done) | skip
  · cases hw
    obtain ⟨l, us, rfl, h1, h2⟩ := sq_pk rel1.sub hx
    exact .inl ⟨l, us, rfl, h1, fun p hp => q2 _ _ (Ex.refl F1) (rel1.laid hp) _ (frNew rel1 hp h2.reverse)⟩
  · cases hw
    obtain ⟨l, us, rfl, h1, h3, h2⟩ := tq_pk rel1.sub hx
    refine .inr ⟨l, us, rfl, h1, fun p hp => ?_⟩
    have hF := rel1.noneF hp
    exact q2 _ _ (Ex.new hF) (rel1.new hp) _ (.tup (.inl (.inl upd_same)) (Reps.mono (Ex.new hF) h2.reverse))
end

/-! ### calls -/
def ArgR (K : PySem.W.Frag) (F H : Hp) : List V → List Slot → Prop
  | [], [] => True
  | v :: vs, .v d :: ss => Rep K F v d ∧ ArgR K F H vs ss
  | v :: vs, .io xs :: ss => (∃ p us, v = .ref p ∧ F p = none ∧ H p = some (.lst us) ∧ Reps K F us xs) ∧ ArgR K F H vs ss
  | v :: vs, .raw xs :: ss => (∃ p us, v = .ref p ∧ SqL K F p us ∧ Reps K F us xs) ∧ ArgR K F H vs ss
  | _, _ => False
def ioAddr : List V → List Slot → Option Addr
  | .ref p :: _, .io _ :: _ => some p
  | _, _ => none
structure Frame (τ : Tls) (F H : Hp) (pI : Option Addr) (F' H' : Hp) : Prop where
  frm : ∀ a o, H a = some o → (∀ ps, o ≠ .tbl ps) → pI ≠ some a → H' a = some o
  old : ∀ a, F a = none → ¬ NT H a → pI ≠ some a → F' a = none
  tab : LamX.Tabs τ H'
  nt : ∀ a ps, F' a ≠ some (.tbl ps)
theorem Frame.lst {τ : Tls} {F H : Hp} {pI : Option Addr} {F' H' : Hp} (f : Frame τ F H pI F' H') {a : Addr} {us : List V} (h : H a = some (.lst us)) (n : pI ≠ some a) : H' a = some (.lst us) := f.frm a _ h (fun _ z => nomatch z) n
theorem Frame.new {τ : Tls} {F H : Hp} {pI : Option Addr} {F' H' : Hp} (f : Frame τ F H pI F' H') {a : Addr} {us : List V} (hF : F a = none) (h : H a = some (.lst us)) (n : pI ≠ some a) : F' a = none := f.old a hF (NT.lst h) n
def OutR (K : PySem.W.Frag) (F' H' : Hp) (pI : Option Addr) : Option Slot → Prop
  | none => pI = none
  | some (.io xs) => ∃ p us, pI = some p ∧ F' p = none ∧ H' p = some (.lst us) ∧ Reps K F' us xs
  | some (.fz xs) => ∃ p, pI = some p ∧ Rep K F' (.ref p) (.list xs) ∧ ∃ us, F' p = some (.lst us)
  | _ => False
def VRc (K : PySem.W.Frag) (H F' H' : Hp) (pI : Option Addr) (v : V) : Val → Prop
  | .pv d => Rep K F' v d
  | .fr xs => ∃ p us, v = .ref p ∧ F' p = none ∧ H' p = some (.lst us) ∧ Reps K F' us xs ∧ NT H p ∧ pI ≠ some p
/-- what a call promises: what the pure run tells -/
def spOf {τ : Tls} (K : PySem.W.Frag) (xa : XAt τ) (call : Nat → List Slot → FR) (j : Nat) : Sp := fun vs H Q E => ∃ (F : Hp) (as : List Slot), (Ex F H ∧ LamX.Tabs τ H ∧ ∀ a ps, F a ≠ some (.tbl ps)) ∧ ArgR K F H vs as ∧ match call j as with
  | .ret x o => ∀ F' H' v, Ex F F' → Ex F' H' → Frame τ F H (ioAddr vs as) F' H' → OutR K F' H' (ioAddr vs as) o → VRc K H F' H' (ioAddr vs as) v x → Q v H'
  | .exc c x o => ∀ F' H' d, Ex F F' → Ex F' H' → Frame τ F H (ioAddr vs as) F' H' → OutR K F' H' (ioAddr vs as) o → XR K F' x d → E (.ref (xa c)) d H'
  | .bad => False
theorem argR_v {K : PySem.W.Frag} {F H : Hp} : ∀ {vs : List V} {ds : List D}, Reps K F vs ds → ArgR K F H vs (ds.map .v)
  | _, _, .nil => trivial
  | _, _, .cons h hs => ⟨h, argR_v hs⟩
theorem ioAddr_v (vs : List V) (ds : List D) : ioAddr vs (ds.map .v) = none := by
  cases ds with
  | nil => cases vs <;> (first | rfl | (rename_i v vs; cases v <;> rfl))
  | cons d ds => cases vs <;> (first | rfl | (rename_i v vs; cases v <;> rfl))
section
variable {τ : Tls} {K : PySem.W.Frag} {e : Ent τ} {F F' H H' : Hp} {ρ : Env} {σ : L2.St}
/-- behind a call that was handed none of the lists -/
theorem Rel.called (r : Rel K e F H ρ σ) (ex : Ex F F') (ex' : Ex F' H') (fr : Frame τ F H none F' H') : Rel K e F' H' ρ σ where
  len := r.len
  sub0 := r.sub0.trans ex
  sub := ex'
  slot := fun i s hs => by
    obtain ⟨v, hv, q⟩ := r.slot i s hs
    refine ⟨v, hv, ?_⟩
    cases s with
    | v d => exact q.mono ex
    | own xs =>
      obtain ⟨b, us, rfl, q1, q2, q3, q4⟩ := q
      exact ⟨b, us, rfl, fr.new q1 q2 (fun z => nomatch z), fr.lst q2 (fun z => nomatch z), q3.mono ex, q4⟩
    | io xs =>
      obtain ⟨b, us, rfl, q1, q2, q3, q4⟩ := q
      exact ⟨b, us, rfl, fr.new q1 q2 (fun z => nomatch z), fr.lst q2 (fun z => nomatch z), q3.mono ex, q4⟩
    | fz xs =>
      obtain ⟨b, rfl, q1, q2⟩ := q
      exact ⟨b, rfl, q1, q2.mono ex⟩
    | raw xs =>
      obtain ⟨b, us, rfl, q1, q2⟩ := q
      exact ⟨b, us, rfl, ex.sqL q1, q2.mono ex⟩
    | xc a => exact q
  dis := r.dis
  frm := fun a o h1 h2 h3 => fr.frm a o (r.frm a o h1 h2 h3) h2 (fun z => nomatch z)
  old := fun a h1 h2 h3 => by
    obtain ⟨o, h, ho⟩ := NT.not h2
    exact fr.old a (r.old a h1 h2 h3) (NT.not_some (r.frm a o h ho h3) ho) (fun z => nomatch z)
  mh := fun p hp => by
    obtain ⟨us, h⟩ := r.mh p hp
    exact ⟨us, fr.lst h (fun z => nomatch z)⟩
  pm := r.pm
  tab := fr.tab
  nt := fr.nt
/-- behind a call that was handed the list at p, the place i: what the list has become -/
theorem Rel.calledIo {p : Addr} {i : Nat} {s s' : Slot} (r : Rel K e F H ρ σ) (ex : Ex F F') (ex' : Ex F' H') (fr : Frame τ F H (some p) F' H') (hs : ρ[i]? = some (some s)) (hm : s.isM = true) (hσ : σ[i]? = some (some (.ref p)))
    (hn : SlotR K e F' H' s' (.ref p)) (hpn : ∃ us, H' p = some (.lst us)) : Rel K e F' H' (ρ.set i (some s')) σ := by
  have hi : i < ρ.length := (List.getElem?_eq_some_iff.mp hs).1
  have hp0 : e.M p ∨ NT e.H0 p := by
    obtain ⟨v, hv, q⟩ := r.slot i s hs
    rw [hσ] at hv
    cases hv
    cases s with
    | v d => cases hm
    | own xs => obtain ⟨b, us, eb, _, _, _, q4, _⟩ := q; cases eb; exact q4
    | io xs => obtain ⟨b, us, eb, _, _, _, q4, _⟩ := q; cases eb; exact .inl q4
    | fz xs => cases hm
    | raw xs => cases hm
    | xc a => cases hm
  have ne : ∀ a o, e.H0 a = some o → (∀ ps, o ≠ .tbl ps) → ¬ e.M a → (some p : Option Addr) ≠ some a := fun a o h1 ho h2 z => by
    cases z
    rcases hp0 with h | h
    · exact h2 h
    · exact NT.not_some h1 ho h
  exact {
    len := by rw [List.length_set]; exact r.len
    sub0 := r.sub0.trans ex
    sub := ex'
    slot := fun j t ht => by
      by_cases hj : i = j
      · subst hj
        rw [List.getElem?_set_self hi] at ht
        cases ht
        exact ⟨_, hσ, hn⟩
      · rw [List.getElem?_set_ne hj] at ht
        obtain ⟨v, hv, q⟩ := r.slot j t ht
        refine ⟨v, hv, ?_⟩
        cases t with
        | v d => exact q.mono ex
        | own xs =>
          obtain ⟨b, us, rfl, q1, q2, q3, q4⟩ := q
          have nb : (some p : Option Addr) ≠ some b := fun z => by cases z; exact r.dis i j _ _ _ hj hs ht hm rfl hσ hv
          exact ⟨b, us, rfl, fr.new q1 q2 nb, fr.lst q2 nb, q3.mono ex, q4⟩
        | io xs =>
          obtain ⟨b, us, rfl, q1, q2, q3, q4⟩ := q
          have nb : (some p : Option Addr) ≠ some b := fun z => by cases z; exact r.dis i j _ _ _ hj hs ht hm rfl hσ hv
          exact ⟨b, us, rfl, fr.new q1 q2 nb, fr.lst q2 nb, q3.mono ex, q4⟩
        | fz xs =>
          obtain ⟨b, rfl, q1, q2⟩ := q
          exact ⟨b, rfl, q1, q2.mono ex⟩
        | raw xs =>
          obtain ⟨b, us, rfl, q1, q2⟩ := q
          exact ⟨b, us, rfl, ex.sqL q1, q2.mono ex⟩
        | xc a => exact q
    dis := fun j k t u b hjk h1 h2 m1 m2 => by
      by_cases hj : i = j
      · subst hj
        have hk : i ≠ k := hjk
        rw [List.getElem?_set_ne hk] at h2
        exact r.dis i k s u b hjk hs h2 hm m2
      · by_cases hk : i = k
        · subst hk
          rw [List.getElem?_set_ne hj] at h1
          exact r.dis j i t s b hjk h1 hs m1 hm
        · rw [List.getElem?_set_ne hj] at h1
          rw [List.getElem?_set_ne hk] at h2
          exact r.dis j k t u b hjk h1 h2 m1 m2
    frm := fun a o h1 h2 h3 => fr.frm a o (r.frm a o h1 h2 h3) h2 (ne a o h1 h2 h3)
    old := fun a h1 h2 h3 => by
      obtain ⟨o, h, ho⟩ := NT.not h2
      exact fr.old a (r.old a h1 h2 h3) (NT.not_some (r.frm a o h ho h3) ho) (ne a o h ho h3)
    mh := fun q hq => by
      by_cases hqp : q = p
      · subst hqp
        exact hpn
      · obtain ⟨us, h⟩ := r.mh q hq
        exact ⟨us, fr.lst h (fun z => by cases z; exact hqp rfl)⟩
    pm := r.pm
    tab := fr.tab
    nt := fr.nt }

end
section
variable {τ : Tls} {X : Cx} {CX : CXT} {k : Nat} {f : Addr} {fd : FuncData} {ps : List Str} {x : Str} {p pos : Pos} {a : Expr} {es : List Expr} {xa : XAt τ} {W : WX} {call : Nat → List Slot → FR} {j : Nat} {el : Env → R (List D)}
/-- a call's reading, from the promise: nothing of ours is handed over -/
theorem call_plain {e : Ent τ} {F H : Hp} {ρ : Env} {σ : L2.St} {vs : List V} {ds : List D} {Q : VK} (rel : Rel X.K e F H ρ σ) (h : Reps X.K F vs ds)
    (q : Post X.K xa W e σ F (backR none ρ (call j (ds.map .v))) fun x ρ' F' H' => ∀ v, VR X.K e F' H' ρ' σ v x → Q v H') : spOf X.K xa call j vs H Q (WE W σ) := by
  refine ⟨F, ds.map .v, ⟨rel.sub, rel.tab, rel.nt⟩, argR_v h, ?_⟩
  rw [ioAddr_v]
  cases hc : call j (ds.map .v) with
  | ret x o =>
    rw [hc] at q
    intro F' H' v ex ex' fr out vr
    have rel' := rel.called ex ex' fr
    refine q F' H' ex rel' v ?_
    cases x with
    | pv d => exact vr
    | fr xs =>
      obtain ⟨p, us, rfl, h1, h2, h3, h4, _⟩ := vr
      exact ⟨p, us, rfl, h1, h2, h3, (rel.none0' h4).resolve_right (rel.fresh' h4).1, (rel.fresh' h4).1, (rel.fresh' h4).2, rel.apart' h4⟩
  | exc c x o =>
    rw [hc] at q
    intro F' H' d ex ex' fr out xr
    exact q F' H' d ex (rel.called ex ex' fr) xr
  | bad => rw [hc] at q; exact q.elim
theorem pe_callE (G : FnOk X.prog X.w X.K X.mg X.base (L2.CX X.prog X.w) k f fd ps (spOf X.K xa call j)) (hr : Room k X.A) (hg : Gl X x) (hm : X.mg x = some (.ref f)) (hk : PySem.W.keepIn X.K (.ref f) = true) (hb : Binds X.K fd ps []) (tk : Takes X W)
    (ha : PA X (a :: es) (tL X.K xa W el)) (hdb : (x == ("__debug__" : Str)) = false) (he : starEach (a :: es) X.env = (false, eval a X.env) :: starEach es X.env) (hpl : (backTo pos (starEach es X.env)).any (·.1) = false) :
    PE X (.Call (.Name x p) (a :: es) [] pos) (tV X.K xa W fun ρ => (el ρ).bind fun ds ρ => backR none ρ (call j (ds.map .v))) := by
  refine pe_weak (pe_callS (E := WE W) G hr hg hm hk hb (fun σ => passAt tk σ) ha hdb he hpl) fun σ H Q ⟨e, F, ρ, rel, post⟩ => ⟨e, F, ρ, rel, (Post.bind post).imp fun ds ρ1 F1 H1 ex1 rel1 q vs hvs => ?_⟩
  exact call_plain rel1 hvs q
theorem ioArg_some {ρ : Env} {i : Nat} {xs : List D} (h : ioArg ρ i = some xs) : (ρ[i]? = some (some (.own xs)) ∨ ρ[i]? = some (some (.io xs))) := by
  unfold ioArg at h
  split at h
  · cases h; exact .inl (by assumption)
  · cases h; exact .inr (by assumption)
  · cases h
/-- .. the place i is handed over -/
theorem call_io {e : Ent τ} {F H : Hp} {ρ : Env} {σ : L2.St} {v0 : V} {vs : List V} {ds : List D} {xs : List D} {i : Nat} {Q : VK} (rel : Rel X.K e F H ρ σ) (hv : σ[i]? = some (some v0)) (hi : ioArg ρ i = some xs) (h : Reps X.K F vs ds)
    (q : Post X.K xa W e σ F (backR (some i) ρ (call j (.io xs :: ds.map .v))) fun x ρ' F' H' => ∀ v, VR X.K e F' H' ρ' σ v x → Q v H') : spOf X.K xa call j (v0 :: vs) H Q (WE W σ) := by
  have key : ∃ s p us, ρ[i]? = some (some s) ∧ (s = .own xs ∨ s = .io xs) ∧ v0 = .ref p ∧ F p = none ∧ H p = some (.lst us) ∧ Reps X.K F us xs := by
    rcases ioArg_some hi with hs | hs
    · obtain ⟨v, hv', p, us, rfl, q1, q2, q3, _⟩ := rel.slot i _ hs
      rw [hv] at hv'; cases hv'
      exact ⟨_, p, us, hs, .inl rfl, rfl, q1, q2, q3⟩
    · obtain ⟨v, hv', p, us, rfl, q1, q2, q3, _⟩ := rel.slot i _ hs
      rw [hv] at hv'; cases hv'
      exact ⟨_, p, us, hs, .inr rfl, rfl, q1, q2, q3⟩
  obtain ⟨s, p, us, hs, hss, rfl, q1, q2, q3⟩ := key
  have hm : s.isM = true := by rcases hss with rfl | rfl <;> rfl
  refine ⟨F, .io xs :: ds.map .v, ⟨rel.sub, rel.tab, rel.nt⟩, ⟨⟨p, us, rfl, q1, q2, q3⟩, argR_v h⟩, ?_⟩
  have back : ∀ {F' H' : Hp} {o : Option Slot}, Ex F F' → Ex F' H' → Frame τ F H (some p) F' H' → OutR X.K F' H' (some p) o → ∃ ρ', backS ρ (some i) o = some ρ' ∧ Rel X.K e F' H' ρ' σ := by
    intro F' H' o ex ex' fr out
    have slotAt : ∃ v, σ[i]? = some (some v) ∧ SlotR X.K e F H s v := rel.slot i s hs
    obtain ⟨v, hv', sl⟩ := slotAt
    rw [hv] at hv'; cases hv'
    cases o with
    | none => exact absurd out (fun z => nomatch z)
    | some s' =>
      cases s' with
      | v d => exact out.elim
      | own ys => exact out.elim
      | raw ys => exact out.elim
      | xc a => exact out.elim
      | io ys =>
        obtain ⟨p', us', ep, o1, o2, o3⟩ := out
        cases ep
        rcases hss with rfl | rfl
        · refine ⟨ρ.set i (some (.own ys)), by simp only [backS, hs], rel.calledIo ex ex' fr hs hm hv ?_ ⟨_, o2⟩⟩
          obtain ⟨b, _, eb, _, _, _, q4, q5⟩ := sl
          cases eb
          exact ⟨p, us', rfl, o1, o2, o3, q4, q5⟩
        · refine ⟨ρ.set i (some (.io ys)), by simp only [backS, hs], rel.calledIo ex ex' fr hs hm hv ?_ ⟨_, o2⟩⟩
          obtain ⟨b, _, eb, _, _, _, q4, q5⟩ := sl
          cases eb
          exact ⟨p, us', rfl, o1, o2, o3, q4, q5⟩
      | fz ys =>
        obtain ⟨p', ep, o1, o2⟩ := out
        cases ep
        have hpn : ∃ us, H' p = some (.lst us) := o2.imp fun _ h => ex' _ _ h
        rcases hss with rfl | rfl
        · exact ⟨ρ.set i (some (.v (.list ys))), by simp only [backS, hs], rel.calledIo ex ex' fr hs hm hv o1 hpn⟩
        · refine ⟨ρ.set i (some (.fz ys)), by simp only [backS, hs], rel.calledIo ex ex' fr hs hm hv ?_ hpn⟩
          obtain ⟨b, _, eb, _, _, _, q4, q5⟩ := sl
          cases eb
          exact ⟨p, rfl, q5, o1⟩
  show match call j (.io xs :: ds.map .v) with
    | .ret x o => ∀ F' H' v, Ex F F' → Ex F' H' → Frame τ F H (some p) F' H' → OutR X.K F' H' (some p) o → VRc X.K H F' H' (some p) v x → Q v H'
    | .exc c x o => ∀ F' H' d, Ex F F' → Ex F' H' → Frame τ F H (some p) F' H' → OutR X.K F' H' (some p) o → XR X.K F' x d → WE W σ (.ref (xa c)) d H'
    | .bad => False
  cases hc : call j (.io xs :: ds.map .v) with
  | ret x o =>
    rw [hc] at q
    intro F' H' v ex ex' fr out vr
    obtain ⟨ρ', hb, rel'⟩ := back ex ex' fr out
    simp only [backR, hb] at q
    refine q F' H' ex rel' v ?_
    cases x with
    | pv d => exact vr
    | fr xs =>
      obtain ⟨p, us, rfl, h1, h2, h3, h4, h5⟩ := vr
      refine ⟨p, us, rfl, h1, h2, h3, (rel.none0' h4).resolve_right (rel.fresh' h4).1, (rel.fresh' h4).1, (rel.fresh' h4).2, fun m t ht htm hσ => ?_⟩
      by_cases hmi : i = m
      · subst hmi
        rw [hv] at hσ
        cases hσ
        exact h5 rfl
      · have ht' : ρ[m]? = some (some t) := by
          cases o with
          | none => exact absurd out (fun z => nomatch z)
          | some s' =>
            cases s' with
            | v d => exact out.elim
            | own ys => exact out.elim
            | raw ys => exact out.elim
            | xc a => exact out.elim
            | io ys => rcases hss with rfl | rfl <;> (simp only [backS, hs] at hb; cases hb; rwa [List.getElem?_set_ne hmi] at ht)
            | fz ys => rcases hss with rfl | rfl <;> (simp only [backS, hs] at hb; cases hb; rwa [List.getElem?_set_ne hmi] at ht)
        exact rel.apart' h4 m t ht' htm hσ
  | exc c x o =>
    rw [hc] at q
    intro F' H' d ex ex' fr out xr
    obtain ⟨ρ', hb, rel'⟩ := back ex ex' fr out
    simp only [backR, hb] at q
    exact q F' H' d ex rel' xr
  | bad => rw [hc] at q; exact q.elim
theorem pe_cioE {i : Nat} (G : FnOk X.prog X.w X.K X.mg X.base (L2.CX X.prog X.w) k f fd ps (spOf X.K xa call j)) (hr : Room k X.A) (hg : Gl X x) (hm : X.mg x = some (.ref f)) (hk : PySem.W.keepIn X.K (.ref f) = true) (hb : Binds X.K fd ps []) (tk : Takes X W)
    (hv : PE X a (tVar i)) (ha : PA X es (tL X.K xa W el)) (hdb : (x == ("__debug__" : Str)) = false) (he : starEach (a :: es) X.env = (false, eval a X.env) :: starEach es X.env) (hpl : (backTo pos (starEach es X.env)).any (·.1) = false) :
    PE X (.Call (.Name x p) (a :: es) [] pos) (tV X.K xa W fun ρ => cioGo (call j) i el ρ) := by
  refine pe_weak (pe_callS (E := WE W) G hr hg hm hk hb (fun σ => passAt tk σ) (pa_cons hv ha he) hdb he hpl) fun σ H Q ⟨e, F, ρ, rel, post⟩ => ?_
  have post : Post X.K xa W e σ F (cioGo (call j) i el ρ) _ := post
  unfold cioGo at post
  cases hi : ioArg ρ i with
  | some xs0 =>
    rw [hi] at post
    have hs : ∃ s, ρ[i]? = some (some s) ∧ (∀ xs, s ≠ .raw xs) ∧ ∀ a, s ≠ .xc a := by
      rcases ioArg_some hi with h | h <;> exact ⟨_, h, (fun _ z => nomatch z), fun _ z => nomatch z⟩
    obtain ⟨s, hs, hn⟩ := hs
    obtain ⟨v, hv, _⟩ := rel.look hs hn
    refine ⟨v, hv, e, F, ρ, rel, (Post.bind post).imp fun ds ρ1 F1 H1 ex1 rel1 q vs hvs => ?_⟩
    cases hi1 : ioArg ρ1 i with
    | none => rw [hi1] at q; exact q.elim
    | some xs =>
      rw [hi1] at q
      exact call_io rel1 hv hi1 hvs q
  | none =>
    rw [hi] at post
    have post : Post X.K xa W e σ F (bindD (readV ρ i) fun x ρ => (el ρ).bind fun ds ρ => backR none ρ (call j (.v x :: ds.map .v))) _ := post
    unfold readV at post
    split at post
    · exact post.elim
    · exact post.elim
    · rename_i s hn hn2 hs
      obtain ⟨F1, v, ex1, hv, rep, rel1⟩ := rel.freeze hs ⟨fun xs z => hn xs (by rw [z]), fun a z => hn2 a (by rw [z])⟩
      have post : Post X.K xa W e σ F ((el (ρ.set i (some s.frozen))).bind fun ds ρ => backR none ρ (call j (.v s.dat :: ds.map .v))) _ := post
      refine ⟨v, hv, e, F1, _, rel1, (Post.bind (Post.weak ex1 post)).imp fun ds ρ2 F2 H2 ex2 rel2 q vs hvs => ?_⟩
      exact call_plain (ds := s.dat :: ds) rel2 (.cons (rep.mono ex2) hvs) q
    · exact post.elim
/-- the script handed over -/
theorem pe_craw {i : Nat} (G : FnOk X.prog X.w X.K X.mg X.base (L2.CX X.prog X.w) k f fd ps (spOf X.K xa call j)) (hr : Room k X.A) (hg : Gl X x) (hm : X.mg x = some (.ref f)) (hk : PySem.W.keepIn X.K (.ref f) = true) (hb : Binds X.K fd ps []) (tk : Takes X W)
    (hv : PE X a (tVar i)) (hdb : (x == ("__debug__" : Str)) = false) (he : starEach [a] X.env = (false, eval a X.env) :: starEach [] X.env) (hpl : (backTo pos (starEach [] X.env)).any (·.1) = false) :
    PE X (.Call (.Name x p) [a] [] pos) (tV X.K xa W fun ρ => crawGo (call j) i ρ) := by
  refine pe_weak (pe_callS (E := WE W) G hr hg hm hk hb (fun σ => passAt tk σ) (pa_cons hv pa_nil he) hdb he hpl) fun σ H Q ⟨e, F, ρ, rel, post⟩ => ?_
  have post : Post X.K xa W e σ F (crawGo (call j) i ρ) _ := post
  unfold crawGo at post
  split at post
  · rename_i xs hs
    obtain ⟨v, hv, q, us, rfl, q1, q2⟩ := rel.slot i _ hs
    refine ⟨_, hv, F, [.raw xs], ⟨rel.sub, rel.tab, rel.nt⟩, ⟨⟨q, us, rfl, q1, q2⟩, trivial⟩, ?_⟩
    show match call j [.raw xs] with
      | .ret x o => ∀ F' H' v, Ex F F' → Ex F' H' → Frame τ F H none F' H' → OutR X.K F' H' none o → VRc X.K H F' H' none v x → Q v H'
      | .exc c x o => ∀ F' H' d, Ex F F' → Ex F' H' → Frame τ F H none F' H' → OutR X.K F' H' none o → XR X.K F' x d → WE W σ (.ref (xa c)) d H'
      | .bad => False
    cases hc : call j [.raw xs] with
    | ret x o =>
      rw [hc] at post
      intro F' H' v ex ex' fr out vr
      refine post F' H' ex (rel.called ex ex' fr) v ?_
      cases x with
      | pv d => exact vr
      | fr xs =>
        obtain ⟨p, us, rfl, h1, h2, h3, h4, _⟩ := vr
        exact ⟨p, us, rfl, h1, h2, h3, (rel.none0' h4).resolve_right (rel.fresh' h4).1, (rel.fresh' h4).1, (rel.fresh' h4).2, rel.apart' h4⟩
    | exc c x o =>
      rw [hc] at post
      intro F' H' d ex ex' fr out xr
      exact post F' H' d ex (rel.called ex ex' fr) xr
    | bad => rw [hc] at post; exact post.elim
  · exact post.elim
/-- the script cut -/
theorem pe_scr {i : Nat} {n : Int} {b : Expr} {p2 : Pos} (ha : PE X a (tVar i)) (hb : PE X b (tC (.int n))) : PE X (.Subscript a (.Slice none (some b) none p2) pos) (tV X.K xa W fun ρ => scrV ρ i n) := by
  refine pe_weak (pe_slice sl_list ha po_none (po_some hb)) fun σ H Q ⟨e, F, ρ, rel, post⟩ => ?_
  have post : Post X.K xa W e σ F (scrV ρ i n) _ := post
  unfold scrV at post
  split at post
  · rename_i xs hs
    obtain ⟨v, hv, q, us, rfl, q1, q2⟩ := rel.slot i _ hs
    refine ⟨_, hv, n, rfl, q, us, rfl, rel.sub.sqL q1, fun p hp => ?_⟩
    exact post F _ (Ex.refl F) (rel.laid hp) _ (frNew rel hp (cut_rep q2 none (some n)))
  · exact post.elim
end
end Pv

/-! ### enumerate of a tuple -/
namespace Pv
open PySem L2 PySem.Spec PyProof.Rows
theorem drawsT {prog : Program} {w : World} {A : Around} (hh : A.handled = none) (it t : Addr) (hne : t ≠ it) (items : Array Value) :
    Draws prog w A it [it, t] items.size (fun i v => items[i]? = some v) (fun i h => h.IsTupleIter it t i ∧ h.IsTuple t items) where
  live := fun _ _ st => let ⟨o, ho, _⟩ := st.1; ⟨o, ho⟩
  frame := fun _ _ _ st hk => by
    obtain ⟨⟨o, ho, h1⟩, p, hp, h2⟩ := st
    exact ⟨⟨o, hk it (by simp) o ho, h1⟩, p, hk t (by simp) p hp, h2⟩
  item := fun i s Q E hi st hQ => by
    refine RZ.nextOf_tuple_item st.1 st.2 (x := items[i]) (by simp [hi]) fun h' hit' hs' => ?_
    obtain ⟨p, hp, h2⟩ := st.2
    exact hQ _ h' s.toks (by simp [hi]) ⟨hit', p, hs'.extBut t p hne hp, h2⟩ hs'
  done := fun s Q E st hE => RZ.nextOf_tuple_end hh st.1 st.2 (by simp) hE
set_option maxHeartbeats 1000000 in
theorem meets_enum_tup (l : Addr) (items : Array Value) (n : Nat) (dct : Option Addr) (sl : Array (Option Value)) :
    Meets (Builtin.«enumerate.__new__» ⟨[.type "enumerate", .ref l], []⟩) (fun _ R s => s.heap.get? l = some { cls := .type "tuple", dict := dct, data := .seq items n, slots := sl } ∧
      R (.ok (.ret (.ref (s.heap.push { cls := .type "tuple_iterator", data := .fields #[.ref l, .int 0 0] }).objs.size)))
        { s with heap := (s.heap.push { cls := .type "tuple_iterator", data := .fields #[.ref l, .int 0 0] }).push { cls := .type "enumerate", data := .fields #[.none, .bool false, .ref s.heap.objs.size, rawInt 0, .none, .none] } }) :=
  .of_wp fun prog w A R s h => by
    obtain ⟨hp, g, d, tk, os⟩ := s
    obtain ⟨hl, h⟩ := h
    have hsub := sub_enumerate
    have hT : Heap.IsTuple (Shared.heap ⟨hp, g, d, tk, os⟩) l items := ⟨_, hl, rfl, n, rfl⟩
    wp_walk using AutoSeq1.wpAny_loadPart' hl
    refine wpAny_stack_any fun st => wpAny_pure ?_
    split
    · rename_i c _ _ _ _ _
      cases (c == Value.type "enumerate")
      · wp_walk using AutoSeq1.wpAny_loadPart' hl, wpAny_pyIter_tuple hT
        exact ⟨_, rfl, h⟩
      · wp_walk using AutoSeq1.wpAny_loadPart' hl, wpAny_pyIter_tuple hT
        exact ⟨_, rfl, h⟩
    · wp_walk using AutoSeq1.wpAny_loadPart' hl, wpAny_pyIter_tuple hT
      exact ⟨_, rfl, h⟩
end Pv
namespace Pv
open PySem L2 PySem.Spec PyProof.Rows
section
variable {prog : Program} {w : World} {A : Around} {E : Value → Shared → Prop} {s : Shared}
theorem call_enum_tup {l : Addr} {items : Array Value} {Q : Value → Shared → Prop} (hL : s.heap.IsTuple l items)
    (h : ∀ h', IsEnum h' (s.heap.objs.size + 1) s.heap.objs.size 0 .none → h'.IsTupleIter s.heap.objs.size l 0 → (∀ b o, s.heap.get? b = some o → h'.get? b = some o) → Q (.ref (s.heap.objs.size + 1)) { s with heap := h' }) :
    wpAny (model prog w) A (call (.type "enumerate") [.ref l]) Q E s := by
  obtain ⟨⟨c, dct, dt, sl⟩, hl, hc, n, hd⟩ := hL
  replace hc : c = .type "tuple" := hc
  replace hd : dt = .seq items n := hd
  subst hc hd
  refine callType_new F.called_enumerate (by decide) (F.typeCall_enumerate_1 _) (F.newCall_enumerate_1 _) (fun obj => F.args_object_init_2 obj _) F.entry_enumerate_new (meets_enum_tup l items n dct sl) ⟨hl, ?_⟩
  have hz : (s.heap.push { cls := .type "tuple_iterator", data := .fields #[.ref l, .int 0 0] }).objs.size = s.heap.objs.size + 1 := Heap.size_push ..
  show _ ∧ _
  rw [hz]
  have he : IsEnum ((s.heap.push { cls := .type "tuple_iterator", data := .fields #[.ref l, .int 0 0] }).push { cls := .type "enumerate", data := .fields #[.none, .bool false, .ref s.heap.objs.size, rawInt 0, .none, .none] }) (s.heap.objs.size + 1) s.heap.objs.size 0 .none := by
    have q := Heap.get?_push_size (s.heap.push { cls := .type "tuple_iterator", data := .fields #[.ref l, .int 0 0] }) (o := { cls := .type "enumerate", data := .fields #[.none, .bool false, .ref s.heap.objs.size, rawInt 0, .none, .none] }) rfl
    rw [hz] at q
    exact q
  exact ⟨⟨_, he, rfl⟩, h _ he ⟨_, Heap.get?_push_of_some _ (Heap.get?_push_size _ rfl), rfl, rfl⟩ fun b o x => Heap.get?_push_of_some _ (Heap.get?_push_of_some _ x)⟩
end
/-- the tuple at a, each item in a new pair -/
def Itet (K : PySem.W.Frag) (a : Addr) : L2.It :=
  ⟨fun i H => ∃ (xs : List V) (x : V), SqT K H a xs ∧ xs[i]? = some x, fun i H v H' => ∃ T x, v = .ref T ∧ H T = none ∧ H' = upd H T (.tup [.int (i : Nat), x]) ∧ ∀ xs, SqT K H a xs → xs[i]? = some x, fun i H => ∃ xs : List V, SqT K H a xs ∧ xs.length ≤ i⟩
theorem isTupleIter_keep {h h' : Heap} {it t : Addr} {i : Nat} (x : h.IsTupleIter it t i) (k : ∀ o, h.get? it = some o → h'.get? it = some o) : h'.IsTupleIter it t i := by
  obtain ⟨o, ho, h1⟩ := x
  exact ⟨o, k o ho, h1⟩
theorem turn_enumT {P : Program} {w : World} {K : PySem.W.Frag} {elts : List Expr} {kk : Nat} {tpos : Pos} (a e it : Addr) :
    Turn P w K (.Tuple elts kk tpos) (Itet K a) [e, it] e (fun i h => (∃ old, IsEnum h e it ((i : Nat) : Int) old) ∧ h.IsTupleIter it a i ∧ e ≠ it) where
  mem := by simp
  obj := fun i h st b hb => by
    obtain ⟨⟨old, he⟩, ⟨o, ho, hc, hd⟩, _⟩ := st
    have e' : b = e ∨ b = it := by simpa using hb
    rcases e' with z | z
    · rw [z]; exact ⟨_, he, fun v q => nomatch q⟩
    · rw [z]; exact ⟨o, ho, fun v q => by rw [hd] at q; cases q⟩
  keep := fun i h h' st k => by
    obtain ⟨⟨old, he⟩, hi, hne⟩ := st
    exact ⟨⟨old, k e (by simp) _ he⟩, isTupleIter_keep hi fun o q => k it (by simp) o q, hne⟩
  item := by
    intro X hP hw hK hc i pins s σ H E I hf st hg
    subst hP hw hK
    obtain ⟨⟨old, he⟩, hit, hne⟩ := st
    obtain ⟨xs, x, hq, hx⟩ := hg
    obtain ⟨its, rv, p, hz⟩ := I.tuple hq
    obtain ⟨u, hu, ru⟩ := rv.get hx
    have hel : e < s.heap.objs.size := Heap.lt_size he
    have hil : it < s.heap.objs.size := by obtain ⟨_, q, _⟩ := hit; exact Heap.lt_size q
    have hi : i < its.toArray.size := by
      have := (List.getElem?_eq_some_iff.mp hu).1
      simpa using this
    have ha1 : a ≠ it := fun z => by
      obtain ⟨o1, q1, c1, _⟩ := hit
      obtain ⟨o2, q2, c2, _⟩ := p
      rw [z, q1] at q2
      cases q2
      rw [c1] at c2
      exact absurd (Value.type.inj c2) (by decide)
    have ha2 : a ≠ e := fun z => by
      obtain ⟨o2, q2, c2, _⟩ := p
      rw [z, he] at q2
      cases q2
      exact absurd (Value.type.inj c2) (by decide)
    refine wpAny_pyNext_enum_itemD (drawsT (prog := X.prog) (w := X.w) (A := X.A.in1) (I.ok.hd hc) it a ha1 its.toArray) he ⟨hit, p⟩ hi hne (by simp; exact ⟨hne, Ne.symm ha2⟩) fun x1 h' tk hx1 ho hst hT hsz hk => ?_
    have ex : x1 = u := by
      have hu' : its.toArray[i]? = some u := by simpa using hu
      rw [hu'] at hx1
      exact (Option.some.inj hx1).symm
    subst ex
    refine ⟨_, rfl, wpAny_letOwnedTupleGo_enum (s := { s with heap := h', toks := tk + 1 }) ho fun h'' he' sb => ?_⟩
    have hT2 : h''.get? s.heap.objs.size = some { cls := .type "tuple", data := .seq #[.int i tk, x1] } := (sb.2 _ (Nat.ne_of_gt hel)).trans hT
    have new : ObjOk X.prog X.w (upd H s.heap.objs.size (.tup [.int (i : Nat), x])) h'' s.heap.objs.size (.tup [.int (i : Nat), x]) :=
      ⟨by show 2 ≤ sizeLine; decide, [.int i tk, x1], .cons ⟨_, rfl⟩ (.cons ru .nil), ⟨_, hT2, rfl, _, rfl⟩⟩
    have I1 : Inv X pins σ (upd H s.heap.objs.size (.tup [.int (i : Nat), x])) { s with heap := h'', toks := tk + 1 } :=
      I.turnedNew (ch := [e, it]) (fun b ob hb q => (sb.2 b (fun z => hb (by simp [z]))).trans (hk b ob (fun z => hb (by simp [z])) (fun z => hb (by simp [z])) q)) hf (Nat.le_refl _) new
    have inj : ∀ ys, SqT X.K H a ys → ys = xs := fun ys hy => I.tuple_inj hy hq
    refine ⟨.ref s.heap.objs.size, _, I1, rfl, ⟨_, x, rfl, I.hok.fresh (Nat.le_refl _), rfl, fun ys hy => by rw [inj ys hy]; exact hx⟩, ⟨⟨x1, ?_⟩, isTupleIter_keep hst.1 fun o q => (sb.2 it (Ne.symm hne)).trans q, hne⟩, fun b hb => ?_⟩
    · rw [show ((i + 1 : Nat) : Int) = (i : Int) + 1 by omega]; exact he'
    · have hb' : b < s.heap.objs.size := by
        rcases (show b = e ∨ b = it by simpa using hb) with z | z
        · rw [z]; exact hel
        · rw [z]; exact hil
      rw [upd_ne (Nat.ne_of_lt hb')]
      exact (hf b hb).1
  done := by
    intro X hP hw hK hc i pins s σ H E I hf st hg
    subst hP hw hK
    obtain ⟨⟨old, he⟩, hit, hne⟩ := st
    obtain ⟨xs, hq, hx⟩ := hg
    obtain ⟨its, rv, p, hz⟩ := I.tuple hq
    obtain ⟨f0, f1, f2, f3, f4, f5⟩ := hf it (by simp)
    have hl := rv.length
    have D : Draws X.prog X.w X.A.in1 it [it, a] i (fun _ _ => False) (fun j h => j = i ∧ h.IsTupleIter it a i ∧ h.IsTuple a its.toArray) := {
      live := fun _ _ st => let ⟨o, ho, _⟩ := st.2.1; ⟨o, ho⟩
      frame := fun _ _ _ st hk => by
        obtain ⟨e1, ⟨o, ho, h1⟩, p, hp, h2⟩ := st
        exact ⟨e1, ⟨o, hk it (by simp) o ho, h1⟩, p, hk a (by simp) p hp, h2⟩
      item := fun j s Q E hj st _ => absurd st.1 (Nat.ne_of_lt hj)
      done := fun s Q E st hE => RZ.nextOf_tuple_end (I.ok.hd hc) st.2.1 st.2.2 (by simp; omega) hE }
    exact wpAny_pyNext_enum_endD D he ⟨rfl, hit, p⟩ fun h' eb => ⟨rfl, I.turned (t' := s.toks) (fun b o hb q => eb b o hb q) f0 f1 f3 f4 f5⟩
  self := fun A i s Q E st h => let ⟨⟨_, he⟩, _⟩ := st; wpAny_pyIter_enum he h
def iEnumT (K : PySem.W.Frag) (ta : TA) : TI := fun σ H R => ta σ H fun vs H1 => ∃ a xs, vs = [.ref a] ∧ SqT K H1 a xs ∧ R (Itet K a) H1
theorem pi_enumT {X : Cx} {e : Expr} {ta : TA} {p pos tpos : Pos} {elts : List Expr} {kk : Nat} (hg : Gl X "enumerate") (hm : X.mg "enumerate" = none) (ha : PA X [e] ta) (hs : starEach [e] X.env = [(false, eval e X.env)]) :
    PI X (.Tuple elts kk tpos) (.Call (.Name "enumerate" p) [e] [] pos) (iEnumT X.K ta) := by
  refine ⟨fun pins s σ H R I h => Call_ (ld_blt I hg hm boot_enumerate (PyProof.Rows.callWith_type1 (thn (ha.run pos pins s σ H _ I h) fun us s1 ⟨vs, H1, I1, r1, q1⟩ => ?_) hs rfl))⟩
  obtain ⟨a, xs, ex, hq, q⟩ := q1
  subst ex
  cases r1 with
  | cons r rr =>
    cases rr
    cases r
    obtain ⟨its, rv, p', hz⟩ := I1.tuple hq
    refine call_enum_tup p' fun h' he hit hk => wpAny_pyIter_enum he ?_
    have I2 : Inv X pins σ H1 { s1 with heap := h' } := I1.kept (t' := s1.toks) hk
    refine ⟨s1.heap.objs.size + 1, [s1.heap.objs.size + 1, s1.heap.objs.size], _, _, H1, rfl, I2, turn_enumT a (s1.heap.objs.size + 1) s1.heap.objs.size, ⟨⟨.none, he⟩, hit, Nat.succ_ne_self _⟩, fun b hb => ?_, q⟩
    have hle : s1.heap.objs.size ≤ b := by
      rcases (show b = s1.heap.objs.size + 1 ∨ b = s1.heap.objs.size by simpa using hb) with z | z
      · rw [z]; exact Nat.le_add_right _ _
      · rw [z]; exact Nat.le_refl _
    exact I1.fpOk hle (I1.hok.fresh hle)
end Pv
namespace Pv
open PySem L2 PyProof.Rows

/-! ### places stored -/
section
variable {τ : Tls} {K : PySem.W.Frag} {e : Ent τ} {F F' H H' : Hp} {ρ ρ' : Env} {σ σ' : L2.St} {v : V} {i : Nat}
theorem Rel.put {x : Val} (r : Rel K e F H ρ σ) (h : VR K e F H ρ σ v x) (hp : putV ρ i x = .ok () ρ') : Rel K e F H ρ' (σ.set i (some v)) ∧ i < σ.length := by
  unfold putV at hp
  split at hp
  · rename_i hf
    have hi : i < ρ.length := by
      unfold freeAt at hf
      cases hx : ρ[i]? with
      | none => rw [hx] at hf; cases hf
      | some s => exact (List.getElem?_eq_some_iff.mp hx).1
    have hiσ : i < σ.length := by rw [← r.len]; exact hi
    refine ⟨?_, hiσ⟩
    cases hp
    cases x with
    | pv d =>
      refine ⟨by rw [List.length_set, List.length_set]; exact r.len, r.sub0, r.sub, fun j t ht => ?_, fun j k t u p hjk h1 h2 m1 m2 hσ => ?_, r.frm, r.old, r.mh, r.pm, r.tab, r.nt⟩
      · by_cases hj : i = j
        · subst hj
          rw [List.getElem?_set_self hi] at ht
          cases ht
          exact ⟨v, List.getElem?_set_self hiσ, h⟩
        · rw [List.getElem?_set_ne hj] at ht
          rw [List.getElem?_set_ne hj]
          exact r.slot j t ht
      · have hj : i ≠ j := fun z => by subst z; rw [List.getElem?_set_self hi] at h1; cases h1; cases m1
        have hk : i ≠ k := fun z => by subst z; rw [List.getElem?_set_self hi] at h2; cases h2; cases m2
        rw [List.getElem?_set_ne hj] at h1 hσ
        rw [List.getElem?_set_ne hk] at h2 ⊢
        exact r.dis j k t u p hjk h1 h2 m1 m2 hσ
    | fr xs =>
      obtain ⟨q, us, rfl, q1, q2, q3, q4, q5, q6, q7⟩ := h
      refine ⟨by rw [List.length_set, List.length_set]; exact r.len, r.sub0, r.sub, fun j t ht => ?_, fun j k t u p hjk h1 h2 m1 m2 hσ => ?_, r.frm, r.old, r.mh, r.pm, r.tab, r.nt⟩
      · by_cases hj : i = j
        · subst hj
          rw [List.getElem?_set_self hi] at ht
          cases ht
          exact ⟨_, List.getElem?_set_self hiσ, q, us, rfl, q1, q2, q3, .inr q4, q6⟩
        · rw [List.getElem?_set_ne hj] at ht
          rw [List.getElem?_set_ne hj]
          exact r.slot j t ht
      · by_cases hj : i = j
        · subst hj
          have hk : i ≠ k := hjk
          rw [List.getElem?_set_self hiσ] at hσ
          rw [List.getElem?_set_ne hk] at h2 ⊢
          cases hσ
          exact q7 k u h2 m2
        · by_cases hk : i = k
          · subst hk
            rw [List.getElem?_set_ne hj] at h1 hσ
            rw [List.getElem?_set_self hiσ]
            intro z
            cases z
            exact q7 j t h1 m1 hσ
          · rw [List.getElem?_set_ne hj] at h1 hσ
            rw [List.getElem?_set_ne hk] at h2 ⊢
            exact r.dis j k t u p hjk h1 h2 m1 m2 hσ
  · cases hp
/-- a list of our own is changed -/
theorem Rel.write {p : Addr} {us' : List V} {xs' : List D} {s s' : Slot} (r : Rel K e F H ρ σ) (hs : ρ[i]? = some (some s)) (hss : (∃ xs, s = .own xs ∧ s' = .own xs') ∨ ∃ xs, s = .io xs ∧ s' = .io xs') (hσ : σ[i]? = some (some (.ref p))) (hq : Reps K F us' xs') :
    Rel K e F (upd H p (.lst us')) (ρ.set i (some s')) σ := by
  have hi : i < ρ.length := (List.getElem?_eq_some_iff.mp hs).1
  have hm : s.isM = true := by rcases hss with ⟨xs, rfl, _⟩ | ⟨xs, rfl, _⟩ <;> rfl
  obtain ⟨v, hv, sl⟩ := r.slot i s hs
  rw [hσ] at hv
  cases hv
  have hF : F p = none := by rcases hss with ⟨xs, rfl, _⟩ | ⟨xs, rfl, _⟩ <;> (obtain ⟨b, us, eb, q1, _⟩ := sl; cases eb; exact q1)
  have hp0 : e.M p ∨ NT e.H0 p := by
    rcases hss with ⟨xs, rfl, _⟩ | ⟨xs, rfl, _⟩
    · obtain ⟨b, us, eb, _, _, _, q4, _⟩ := sl; cases eb; exact q4
    · obtain ⟨b, us, eb, _, _, _, q4, _⟩ := sl; cases eb; exact .inl q4
  have hH : ∃ us, H p = some (.lst us) := by rcases hss with ⟨xs, rfl, _⟩ | ⟨xs, rfl, _⟩ <;> (obtain ⟨b, us, eb, _, q2, _⟩ := sl; cases eb; exact ⟨us, q2⟩)
  obtain ⟨us0, hH⟩ := hH
  refine ⟨by rw [List.length_set]; exact r.len, r.sub0, fun a o h => ?_, fun j t ht => ?_, fun j k t u b hjk h1 h2 m1 m2 => ?_, fun a o h1 ho h2 => ?_, r.old, fun q hq' => ?_, r.pm, tabs_lst r.tab hH, r.nt⟩
  · have ha : a ≠ p := fun z => by subst z; rw [hF] at h; cases h
    rw [upd_ne ha]
    exact r.sub a o h
  · by_cases hj : i = j
    · subst hj
      rw [List.getElem?_set_self hi] at ht
      cases ht
      refine ⟨_, hσ, ?_⟩
      rcases hss with ⟨xs, rfl, rfl⟩ | ⟨xs, rfl, rfl⟩
      · obtain ⟨b, us, eb, q1, q2, q3, q4, q5⟩ := sl
        cases eb
        exact ⟨p, us', rfl, hF, upd_same, hq, q4, q5⟩
      · obtain ⟨b, us, eb, q1, q2, q3, q4, q5⟩ := sl
        cases eb
        exact ⟨p, us', rfl, hF, upd_same, hq, q4, q5⟩
    · rw [List.getElem?_set_ne hj] at ht
      obtain ⟨v, hv, q⟩ := r.slot j t ht
      refine ⟨v, hv, ?_⟩
      cases t with
      | v d => exact q
      | own xs =>
        obtain ⟨b, us, rfl, q1, q2, q3⟩ := q
        have nb : b ≠ p := fun z => by subst z; exact r.dis i j _ _ _ hj hs ht hm rfl hσ hv
        exact ⟨b, us, rfl, q1, by rw [upd_ne nb]; exact q2, q3⟩
      | io xs =>
        obtain ⟨b, us, rfl, q1, q2, q3⟩ := q
        have nb : b ≠ p := fun z => by subst z; exact r.dis i j _ _ _ hj hs ht hm rfl hσ hv
        exact ⟨b, us, rfl, q1, by rw [upd_ne nb]; exact q2, q3⟩
      | fz xs => exact q
      | raw xs => exact q
      | xc a => exact q
  · by_cases hj : i = j
    · subst hj
      rw [List.getElem?_set_ne hjk] at h2
      exact r.dis i k s u b hjk hs h2 hm m2
    · by_cases hk : i = k
      · subst hk
        rw [List.getElem?_set_ne hj] at h1
        exact r.dis j i t s b hjk h1 hs m1 hm
      · rw [List.getElem?_set_ne hj] at h1
        rw [List.getElem?_set_ne hk] at h2
        exact r.dis j k t u b hjk h1 h2 m1 m2
  · have ha : a ≠ p := fun z => by
      subst z
      rcases hp0 with h | h
      · exact h2 h
      · exact NT.not_some h1 ho h
    rw [upd_ne ha]
    exact r.frm a o h1 ho h2
  · by_cases hqp : q = p
    · subst hqp; exact ⟨_, upd_same⟩
    · rw [upd_ne hqp]; exact r.mh q hq'
/-- another list, that is nobody's here, is changed -/
theorem Rel.apartUpd {p : Addr} {us us' : List V} (r : Rel K e F H ρ σ) (hF : F p = none) (hH : H p = some (.lst us)) (h0 : NT e.H0 p) (ap : Apart ρ σ p) : Rel K e F (upd H p (.lst us')) ρ σ := by
  refine ⟨r.len, r.sub0, fun a u h => ?_, fun j t ht => ?_, r.dis, fun a u h1 ho h2 => ?_, r.old, fun q hq => ?_, r.pm, tabs_lst r.tab hH, r.nt⟩
  · have ha : a ≠ p := fun z => by subst z; rw [hF] at h; cases h
    rw [upd_ne ha]
    exact r.sub a u h
  · obtain ⟨v, hv, q⟩ := r.slot j t ht
    refine ⟨v, hv, ?_⟩
    cases t with
    | v d => exact q
    | own xs =>
      obtain ⟨b, us, rfl, q1, q2, q3⟩ := q
      have nb : b ≠ p := fun z => by subst z; exact ap j _ ht rfl hv
      exact ⟨b, us, rfl, q1, by rw [upd_ne nb]; exact q2, q3⟩
    | io xs =>
      obtain ⟨b, us, rfl, q1, q2, q3⟩ := q
      have nb : b ≠ p := fun z => by subst z; exact ap j _ ht rfl hv
      exact ⟨b, us, rfl, q1, by rw [upd_ne nb]; exact q2, q3⟩
    | fz xs => exact q
    | raw xs => exact q
    | xc a => exact q
  · have ha : a ≠ p := fun z => by subst z; exact NT.not_some h1 ho h0
    rw [upd_ne ha]
    exact r.frm a u h1 ho h2
  · by_cases hqp : q = p
    · subst hqp; exact ⟨_, upd_same⟩
    · rw [upd_ne hqp]; exact r.mh q hq
end

/-! ### targets -/
def Chg (is : List Nat) (σ σ' : L2.St) : Prop := σ'.length = σ.length ∧ ∀ j, j ∉ is → σ'[j]? = σ[j]?
def PostU {τ : Tls} (K : PySem.W.Frag) (e : Ent τ) (F H : Hp) (is : List Nat) (σ : L2.St) (r : R Unit) (Q : L2.St → Hp → Prop) : Prop := match r with
  | .ok () ρ' => ∀ σ', Chg is σ σ' → Rel K e F H ρ' σ' → Q σ' H
  | _ => False
def tG (τ : Tls) (K : PySem.W.Frag) (t : Tg) : TG := fun v σ H Q => ∃ (e : Ent τ) (F : Hp) (ρ : Env) (d : D), Rel K e F H ρ σ ∧ Rep K F v d ∧ PostU K e F H t.slots σ (putT ρ t d) Q
theorem Chg.set (i : Nat) (is : List Nat) (h : i ∈ is) (σ : L2.St) (v : Option V) : Chg is σ (σ.set i v) := ⟨List.length_set, fun j hj => List.getElem?_set_ne fun z => by subst z; exact hj h⟩
theorem Chg.trans {is : List Nat} {σ σ1 σ2 : L2.St} (a : Chg is σ σ1) (b : Chg is σ1 σ2) : Chg is σ σ2 := ⟨b.1.trans a.1, fun j hj => (b.2 j hj).trans (a.2 j hj)⟩
theorem Chg.mono {is js : List Nat} {σ σ1 : L2.St} (a : Chg is σ σ1) (h : ∀ i ∈ is, i ∈ js) : Chg js σ σ1 := ⟨a.1, fun j hj => a.2 j fun z => hj (h j z)⟩
theorem pg_weak {X : Cx} {tg : Expr} {t t' : TG} (h : PG X tg t) (k : ∀ v σ H Q, t' v σ H Q → t v σ H Q) : PG X tg t' := ⟨fun pins s σ H v u Q I r hq => h.run pins s σ H v u Q I r (k v σ H Q hq)⟩
theorem pg_or {X : Cx} {tg : Expr} {t t' : TG} (h : PG X tg t) (h' : PG X tg t') : PG X tg (fun v σ H Q => t v σ H Q ∨ t' v σ H Q) := ⟨fun pins s σ H v u Q I r hq => hq.elim (h.run pins s σ H v u Q I r) (h'.run pins s σ H v u Q I r)⟩
def gNs : List Nat → TGs
  | [] => gNil
  | i :: is => gCons (gName i) (gNs is)
theorem gNs_ok {K : PySem.W.Frag} {e : Ent τ} {F H : Hp} {js : List Nat} : ∀ {is : List Nat} {vs : List V} {ds : List D} {ρ : Env} {σ : L2.St} {Q : L2.St → Hp → Prop}, (∀ i ∈ is, i ∈ js) → Rel K e F H ρ σ → Reps K F vs ds → PostU K e F H js σ (putAll ρ is ds) Q → gNs is vs σ H Q
  | [], _, _, ρ, σ, Q, _, rel, .nil, post => ⟨rfl, post σ ⟨rfl, fun _ _ => rfl⟩ rel⟩
  | [], _, _, ρ, σ, Q, _, rel, .cons _ _, post => post.elim
  | i :: is, _, _, ρ, σ, Q, _, rel, .nil, post => post.elim
  | i :: is, v :: vs, d :: ds, ρ, σ, Q, hj, rel, .cons h hs, post => by
    refine ⟨v, vs, rfl, ?_⟩
    have post : PostU K e F H js σ ((putD ρ i d).bind fun _ ρ => putAll ρ is ds) Q := post
    cases hp : putD ρ i d with
    | ok u ρ1 =>
      rw [hp] at post
      obtain ⟨rel1, hi⟩ := rel.put (x := .pv d) h hp
      refine gNs_ok (fun k hk => hj k (List.mem_cons_of_mem _ hk)) rel1 hs ?_
      have post : PostU K e F H js σ (putAll ρ1 is ds) Q := post
      cases hq : putAll ρ1 is ds with
      | ok u ρ2 => rw [hq] at post; exact fun σ' c r => post σ' ((Chg.set i js (hj i List.mem_cons_self) σ (some v)).trans c) r
      | exc c x ρ2 => rw [hq] at post; exact post.elim
      | bad => rw [hq] at post; exact post.elim
    | exc c x ρ1 => rw [hp] at post; exact post.elim
    | bad => rw [hp] at post; exact post.elim
section
variable {X : Cx} {pos : Pos}
inductive NmOk (X : Cx) : List Nat → List Expr → Prop
  | nil : NmOk X [] []
  | cons {i : Nat} {is : List Nat} {e : Expr} {es : List Expr} : PG X e (gName i) → (assignEach (e :: es) X.env).map (·.2) = assign e X.env :: (assignEach es X.env).map (·.2) → NmOk X is es → NmOk X (i :: is) (e :: es)
theorem pgs_nm {is : List Nat} {es : List Expr} (h : NmOk X is es) : PGs X es (gNs is) := by
  induction h with
  | nil => exact pgs_nil
  | cons h hs _ ih => exact pgs_cons h ih hs
theorem pg_n {i : Nat} {e : Expr} (h : PG X e (gName i)) : PG X e (tG τ X.K (.n i)) := by
  refine pg_weak h fun v σ H Q ⟨e, F, ρ, d, rel, rep, post⟩ => ?_
  have post : PostU X.K e F H [i] σ (putD ρ i d) Q := post
  cases hp : putD ρ i d with
  | ok u ρ1 =>
    rw [hp] at post
    obtain ⟨rel1, hi⟩ := rel.put (x := .pv d) rep hp
    exact post _ (Chg.set i [i] List.mem_cons_self σ (some v)) rel1
  | exc c x ρ1 => rw [hp] at post; exact post.elim
  | bad => rw [hp] at post; exact post.elim
theorem pg_t {is : List Nat} {es : List Expr} {k : Nat} (hc : X.calm = true) (h : NmOk X is es) (hn : (assignEach es X.env).length = is.length) (hst : (assignEach es X.env).findIdx? (·.1) = none) : PG X (.Tuple es k pos) (tG τ X.K (.t is)) := by
  refine pg_weak (pg_or (pg_tup hc (pgs_nm h) hn hst) (pg_lst hc (pgs_nm h) hn hst)) fun v σ H Q ⟨e, F, ρ, d, rel, rep, post⟩ => ?_
  have post : PostU X.K e F H is σ (putT ρ (.t is) d) Q := post
  cases d with
  | list ds =>
    have post : PostU X.K e F H is σ (if ds.length = is.length then putAll ρ is ds else .bad) Q := post
    split at post
    · rename_i hl
      obtain ⟨a, us, rfl, h1, h2⟩ := rep.list_inv
      exact .inr ⟨a, us, rfl, .inl (rel.sub.rd h1), by rw [h2.length]; exact hl, gNs_ok (fun _ h => h) rel h2 post⟩
    · exact post.elim
  | tuple ds =>
    have post : PostU X.K e F H is σ (if ds.length = is.length then putAll ρ is ds else .bad) Q := post
    split at post
    · rename_i hl
      obtain ⟨a, us, rfl, h1, h2⟩ := rep.tup_inv
      exact .inl ⟨a, us, rfl, rel.sub.sqT h1, by rw [h2.length]; exact hl, gNs_ok (fun _ h => h) rel h2 post⟩
    · exact post.elim
  | _ => exact post.elim
end

section
variable {X : Cx} {pos : Pos}
def gUs (τ : Tls) (K : PySem.W.Frag) : List (List Nat) → TGs
  | [] => gNil
  | t :: ts => gCons (tG τ K (tgOf t)) (gUs τ K ts)
theorem slots_of (t : List Nat) : (tgOf t).slots = t := by
  unfold tgOf
  split <;> rfl
theorem putN_eq {ρ : Env} {t : List Nat} {d : D} : putN ρ (tgOf t) d = putT ρ (tgOf t) d := by
  unfold tgOf
  split
  · rfl
  · cases d <;> rfl
theorem gUs_ok {K : PySem.W.Frag} {e : Ent τ} {F H : Hp} {js : List Nat} : ∀ {ts : List (List Nat)} {vs : List V} {ds : List D} {ρ : Env} {σ : L2.St} {Q : L2.St → Hp → Prop}, (∀ t ∈ ts, ∀ i ∈ t, i ∈ js) → Rel K e F H ρ σ → Reps K F vs ds → PostU K e F H js σ (putU ρ ts ds) Q → gUs τ K ts vs σ H Q
  | [], _, _, ρ, σ, Q, _, rel, .nil, post => ⟨rfl, post σ ⟨rfl, fun _ _ => rfl⟩ rel⟩
  | [], _, _, ρ, σ, Q, _, rel, .cons _ _, post => post.elim
  | t :: ts, _, _, ρ, σ, Q, _, rel, .nil, post => post.elim
  | t :: ts, v :: vs, d :: ds, ρ, σ, Q, hj, rel, .cons h hs, post => by
    refine ⟨v, vs, rfl, e, F, ρ, d, rel, h, ?_⟩
    have post : PostU K e F H js σ ((putN ρ (tgOf t) d).bind fun _ ρ => putU ρ ts ds) Q := post
    rw [← putN_eq]
    cases hp : putN ρ (tgOf t) d with
    | ok u ρ1 =>
      rw [hp] at post
      intro σ1 c1 rel1
      rw [slots_of] at c1
      refine gUs_ok (fun t' ht => hj t' (List.mem_cons_of_mem _ ht)) rel1 hs ?_
      have post : PostU K e F H js σ (putU ρ1 ts ds) Q := post
      cases hq : putU ρ1 ts ds with
      | ok u ρ2 => rw [hq] at post; exact fun σ' c r => post σ' ((c1.mono (hj t List.mem_cons_self)).trans c) r
      | exc c x ρ2 => rw [hq] at post; exact post.elim
      | bad => rw [hq] at post; exact post.elim
    | exc c x ρ1 => rw [hp] at post; exact post.elim
    | bad => rw [hp] at post; exact post.elim
inductive TgOk (τ : Tls) (X : Cx) : List (List Nat) → List Expr → Prop
  | nil : TgOk τ X [] []
  | cons {t : List Nat} {ts : List (List Nat)} {e : Expr} {es : List Expr} : PG X e (tG τ X.K (tgOf t)) → (assignEach (e :: es) X.env).map (·.2) = assign e X.env :: (assignEach es X.env).map (·.2) → TgOk τ X ts es → TgOk τ X (t :: ts) (e :: es)
theorem pgs_us {ts : List (List Nat)} {es : List Expr} (h : TgOk τ X ts es) : PGs X es (gUs τ X.K ts) := by
  induction h with
  | nil => exact pgs_nil
  | cons h hs _ ih => exact pgs_cons h ih hs
theorem pg_u {ts : List (List Nat)} {es : List Expr} {k : Nat} (hc : X.calm = true) (h : TgOk τ X ts es) (hn : (assignEach es X.env).length = ts.length) (hst : (assignEach es X.env).findIdx? (·.1) = none) : PG X (.Tuple es k pos) (tG τ X.K (.u ts)) := by
  refine pg_weak (pg_tup hc (pgs_us h) hn hst) fun v σ H Q ⟨e, F, ρ, d, rel, rep, post⟩ => ?_
  have post : PostU X.K e F H ts.flatten σ (putT ρ (.u ts) d) Q := post
  cases d with
  | tuple ds =>
    have post : PostU X.K e F H ts.flatten σ (if ds.length = ts.length then putU ρ ts ds else .bad) Q := post
    split at post
    · rename_i hl
      obtain ⟨a, us, rfl, h1, h2⟩ := rep.tup_inv
      exact ⟨a, us, rfl, rel.sub.sqT h1, by rw [h2.length]; exact hl, gUs_ok (fun t ht i hi => List.mem_flatten.mpr ⟨t, ht, hi⟩) rel h2 post⟩
    · exact post.elim
  | _ => exact post.elim
end

/-! ### what is walked -/
def Yl (K : PySem.W.Frag) (F H : Hp) (x : V) (H' : Hp) (d : D) : Prop := (H' = H ∧ Rep K F x d) ∨ ∃ T us ds, x = .ref T ∧ H T = none ∧ H' = upd H T (.tup us) ∧ d = .tuple ds ∧ Reps K F us ds
def Walks (K : PySem.W.Frag) (F : Hp) (J : L2.It) (ds : List D) : Prop := (∀ (i : Nat) (d : D) (H : Hp), ds[i]? = some d → Ex F H → J.go i H ∧ ∀ x H', J.yld i H x H' → Yl K F H x H' d) ∧ ∀ H, Ex F H → J.stop ds.length H
def tI {τ : Tls} (K : PySem.W.Frag) (xa : XAt τ) (W : WX) (ev : Env → R (List D)) : TI := fun σ H R => ∃ e F ρ, Rel K e F H ρ σ ∧ Post K xa W e σ F (ev ρ) fun ds ρ' F' H' => ∀ J, Walks K F' J ds → R J H'
theorem SqL.inj {K : PySem.W.Frag} {H : Hp} {a : Addr} {us ws : List V} (h : Rd H a (.lst us)) (h' : Rd H a (.lst ws)) : us = ws := by
  rcases h with h | ⟨o, h⟩ <;> rcases h' with h' | ⟨o', h'⟩ <;> (rw [h] at h'; cases h') <;> rfl
theorem walks_list {K : PySem.W.Frag} {F : Hp} {a : Addr} {us : List V} {ds : List D} (h : Rd F a (.lst us)) (hs : Reps K F us ds) : Walks K F (Itl K a) ds := by
  refine ⟨fun i d H hd ex => ?_, fun H ex => ⟨us, .inl (ex.rd h), by rw [hs.length]; exact Nat.le_refl _⟩⟩
  obtain ⟨v, hv, rv⟩ := hs.get hd
  refine ⟨⟨us, v, .inl (ex.rd h), hv⟩, fun x H' ⟨e1, e2⟩ => .inl ⟨e1, ?_⟩⟩
  have := e2 us (.inl (ex.rd h))
  rw [hv] at this
  cases this
  exact rv
theorem walks_tup {K : PySem.W.Frag} {F : Hp} {a : Addr} {us : List V} {ds : List D} (h : SqT K F a us) (hs : Reps K F us ds) : Walks K F (Itt K a) ds := by
  refine ⟨fun i d H hd ex => ?_, fun H ex => ⟨us, ex.sqT h, by rw [hs.length]; exact Nat.le_refl _⟩⟩
  obtain ⟨v, hv, rv⟩ := hs.get hd
  refine ⟨⟨us, v, ex.sqT h, hv⟩, fun x H' ⟨e1, e2⟩ => .inl ⟨e1, ?_⟩⟩
  have := e2 us (ex.sqT h)
  rw [hv] at this
  cases this
  exact rv
theorem walks_str {K : PySem.W.Frag} {F : Hp} {s : Str} : Walks K F (Its s) (signsD s) := by
  refine ⟨fun i d H hd ex => ?_, fun H ex => ?_⟩
  · unfold signsD at hd
    rw [List.getElem?_map] at hd
    obtain ⟨c, hc, rfl⟩ := Option.map_eq_some_iff.mp hd
    have hc' : s.cps[i]? = some c := by rw [← Array.getElem?_toList]; exact hc
    refine ⟨(Array.getElem?_eq_some_iff.mp hc').1, fun x H' ⟨e1, c', e2, e3⟩ => .inl ⟨e1, ?_⟩⟩
    rw [hc'] at e2
    cases e2
    rw [e3]
    exact .str _
  · show s.cps.size ≤ (signsD s).length
    unfold signsD
    rw [List.length_map, Array.length_toList]
    exact Nat.le_refl _
theorem rangeD_len : ∀ (n : Nat) (lo c : Int), (rangeD lo n c).length = n
  | 0, _, _ => rfl
  | n + 1, lo, c => by unfold rangeD; rw [List.length_cons, rangeD_len n]
theorem rangeD_get : ∀ (n : Nat) (lo c : Int) (i : Nat), i < n → (rangeD lo n c)[i]? = some (.int (lo + i * c))
  | 0, _, _, _, h => by omega
  | n + 1, lo, c, 0, h => by unfold rangeD; simp
  | n + 1, lo, c, i + 1, h => by
    unfold rangeD
    rw [List.getElem?_cons_succ, rangeD_get n (lo + c) c i (by omega)]
    congr 2
    rw [Int.add_assoc]
    congr 1
    rw [show ((i + 1 : Nat) : Int) = (i : Int) + 1 by omega, Int.add_mul, Int.one_mul, Int.add_comm]
theorem rangeD_some {n : Nat} {lo c : Int} {i : Nat} {d : D} (h : (rangeD lo n c)[i]? = some d) : i < n ∧ d = .int (lo + i * c) := by
  have hi : i < n := by have := (List.getElem?_eq_some_iff.mp h).1; rwa [rangeD_len] at this
  rw [rangeD_get n lo c i hi] at h
  cases h
  exact ⟨hi, rfl⟩
theorem walks_range {K : PySem.W.Frag} {F : Hp} {lo : Int} {n : Nat} : Walks K F (Itr lo n) (rangeD lo n 1) := by
  refine ⟨fun i d H hd ex => ?_, fun H ex => by rw [rangeD_len]; exact Nat.le_refl _⟩
  obtain ⟨hi, rfl⟩ := rangeD_some hd
  refine ⟨hi, fun x H' ⟨e1, e2⟩ => .inl ⟨e1, ?_⟩⟩
  rw [e2, Int.mul_one]
  exact .int _
theorem walks_rangeC {K : PySem.W.Frag} {F : Hp} {lo c : Int} {n : Nat} : Walks K F (Itc lo c n) (rangeD lo n c) := by
  refine ⟨fun i d H hd ex => ?_, fun H ex => by rw [rangeD_len]; exact Nat.le_refl _⟩
  obtain ⟨hi, rfl⟩ := rangeD_some hd
  refine ⟨hi, fun x H' ⟨e1, e2⟩ => .inl ⟨e1, ?_⟩⟩
  rw [e2]
  exact .int _
theorem zipD_len : ∀ xs ys : List D, (zipD xs ys).length = min xs.length ys.length
  | [], _ => by simp [zipD]
  | _ :: _, [] => by simp [zipD]
  | x :: xs, y :: ys => by simp only [zipD, List.length_cons, zipD_len xs ys]; omega
theorem zipD_some : ∀ {xs ys : List D} {i : Nat} {d : D}, (zipD xs ys)[i]? = some d → ∃ x y, xs[i]? = some x ∧ ys[i]? = some y ∧ d = .tuple [x, y]
  | [], _, _, _, h => by simp [zipD] at h
  | _ :: _, [], _, _, h => by simp [zipD] at h
  | x :: xs, y :: ys, 0, d, h => by simp [zipD] at h; exact ⟨x, y, rfl, rfl, h.symm⟩
  | x :: xs, y :: ys, i + 1, d, h => by
    simp only [zipD, List.getElem?_cons_succ] at h ⊢
    exact zipD_some h
theorem walks_zipL {K : PySem.W.Frag} {F : Hp} {a b : Addr} {us ws : List V} {xs ys : List D} (h : Rd F a (.lst us)) (hs : Reps K F us xs) (h' : Rd F b (.lst ws)) (hs' : Reps K F ws ys) : Walks K F (Itz K a b) (zipD xs ys) := by
  refine ⟨fun i d H hd ex => ?_, fun H ex => ⟨us, ws, .inl (ex.rd h), .inl (ex.rd h'), by rw [zipD_len, hs.length, hs'.length]; omega⟩⟩
  obtain ⟨x, y, hx, hy, rfl⟩ := zipD_some hd
  obtain ⟨v, hv, rv⟩ := hs.get hx
  obtain ⟨w, hw, rw'⟩ := hs'.get hy
  refine ⟨⟨us, ws, v, w, .inl (ex.rd h), .inl (ex.rd h'), hv, hw⟩, fun z H' ⟨T, x', y', e1, e2, e3, e4, e5⟩ => .inr ⟨T, [x', y'], _, e1, e2, e3, rfl, ?_⟩⟩
  have h1 := e4 us (.inl (ex.rd h))
  have h2 := e5 ws (.inl (ex.rd h'))
  rw [hv] at h1
  rw [hw] at h2
  cases h1
  cases h2
  exact .cons rv (.cons rw' .nil)
theorem walks_zipT {K : PySem.W.Frag} {F : Hp} {a b : Addr} {us ws : List V} {xs ys : List D} (h : SqT K F a us) (hs : Reps K F us xs) (h' : SqT K F b ws) (hs' : Reps K F ws ys) : Walks K F (RZ.ItzT K a b) (zipD xs ys) := by
  refine ⟨fun i d H hd ex => ?_, fun H ex => ⟨us, ws, ex.sqT h, ex.sqT h', by rw [zipD_len, hs.length, hs'.length]; omega⟩⟩
  obtain ⟨x, y, hx, hy, rfl⟩ := zipD_some hd
  obtain ⟨v, hv, rv⟩ := hs.get hx
  obtain ⟨w, hw, rw'⟩ := hs'.get hy
  refine ⟨⟨us, ws, v, w, ex.sqT h, ex.sqT h', hv, hw⟩, fun z H' ⟨T, x', y', e1, e2, e3, e4, e5⟩ => .inr ⟨T, [x', y'], _, e1, e2, e3, rfl, ?_⟩⟩
  have h1 := e4 us (ex.sqT h)
  have h2 := e5 ws (ex.sqT h')
  rw [hv] at h1
  rw [hw] at h2
  cases h1
  cases h2
  exact .cons rv (.cons rw' .nil)
theorem enumD_len : ∀ (xs : List D) (k : Nat), (enumD k xs).length = xs.length
  | [], _ => rfl
  | x :: xs, k => by simp only [enumD, List.length_cons, enumD_len xs]
theorem enumD_some : ∀ {xs : List D} {k i : Nat} {d : D}, (enumD k xs)[i]? = some d → ∃ x, xs[i]? = some x ∧ d = .tuple [.int ((k + i : Nat) : Int), x]
  | [], _, _, _, h => by simp [enumD] at h
  | x :: xs, k, 0, d, h => by simp [enumD] at h; exact ⟨x, rfl, by rw [← h]; simp⟩
  | x :: xs, k, i + 1, d, h => by
    simp only [enumD, List.getElem?_cons_succ] at h ⊢
    obtain ⟨y, h1, h2⟩ := enumD_some h
    exact ⟨y, h1, by rw [h2]; congr 4; omega⟩
theorem walks_enumT {K : PySem.W.Frag} {F : Hp} {a : Addr} {us : List V} {xs : List D} (h : SqT K F a us) (hs : Reps K F us xs) : Walks K F (Itet K a) (enumD 0 xs) := by
  refine ⟨fun i d H hd ex => ?_, fun H ex => ⟨us, ex.sqT h, by rw [enumD_len, hs.length]; exact Nat.le_refl _⟩⟩
  obtain ⟨x, hx, rfl⟩ := enumD_some hd
  obtain ⟨v, hv, rv⟩ := hs.get hx
  refine ⟨⟨us, v, ex.sqT h, hv⟩, fun z H' ⟨T, x', e1, e2, e3, e4⟩ => .inr ⟨T, [.int ((i : Nat) : Int), x'], _, e1, e2, e3, rfl, ?_⟩⟩
  have h1 := e4 us (ex.sqT h)
  rw [hv] at h1
  cases h1
  rw [show (((0 + i : Nat)) : Int) = (i : Int) by omega]
  exact .cons (.int _) (.cons rv .nil)
theorem walks_enum {K : PySem.W.Frag} {F : Hp} {a : Addr} {us : List V} {xs : List D} (h : Rd F a (.lst us)) (hs : Reps K F us xs) : Walks K F (Ite K a) (enumD 0 xs) := by
  refine ⟨fun i d H hd ex => ?_, fun H ex => ⟨us, .inl (ex.rd h), by rw [enumD_len, hs.length]; exact Nat.le_refl _⟩⟩
  obtain ⟨x, hx, rfl⟩ := enumD_some hd
  obtain ⟨v, hv, rv⟩ := hs.get hx
  refine ⟨⟨us, v, .inl (ex.rd h), hv⟩, fun z H' ⟨T, x', e1, e2, e3, e4⟩ => .inr ⟨T, [.int ((i : Nat) : Int), x'], _, e1, e2, e3, rfl, ?_⟩⟩
  have h1 := e4 us (.inl (ex.rd h))
  rw [hv] at h1
  cases h1
  rw [show (((0 + i : Nat)) : Int) = (i : Int) by omega]
  exact .cons (.int _) (.cons rv .nil)
section
variable {X : Cx} {tg a b c : Expr} {xa : XAt τ} {W : WX} {p pos : Pos} {ev : Env → R Val} {el : Env → R (List D)}
theorem pi_of (h : PE X a (tV X.K xa W ev)) : PI X tg a (tI X.K xa W fun ρ => bindD (ev ρ) fun x ρ => R.ofO (walkD x) ρ) := by
  refine pi_weak (pi_or (pi_or (pi_list (pe_toD h)) (pi_tup (pe_toD h))) (pi_str (pe_toD h))) fun σ H R ⟨e, F, ρ, rel, post⟩ => ?_
  simp only [bindD_dd] at post
  cases hv : dd (ev ρ) with
  | bad => rw [hv] at post; exact post.elim
  | exc c x ρ1 =>
    refine .inl (.inl ⟨e, F, ρ, rel, ?_⟩)
    have post := Post.bind post
    dsimp only
    rw [hv] at post ⊢
    exact post
  | ok d ρ1 =>
    have post := Post.bind post
    rw [hv] at post
    cases d with
    | list xs =>
      refine .inl (.inl ⟨e, F, ρ, rel, ?_⟩)
      dsimp only
      rw [hv]
      intro F' H' ex rel' v hv'
      obtain ⟨l, us, rfl, h1, h2⟩ := hv'.list_inv
      exact ⟨l, rfl, ⟨us, .inl (rel'.sub.rd h1)⟩, post F' H' ex rel' F' H' (Ex.refl _) rel' _ (walks_list h1 h2)⟩
    | tuple xs =>
      refine .inl (.inr ⟨e, F, ρ, rel, ?_⟩)
      dsimp only
      rw [hv]
      intro F' H' ex rel' v hv'
      obtain ⟨l, us, rfl, h1, h2⟩ := hv'.tup_inv
      exact ⟨l, rfl, ⟨us, rel'.sub.sqT h1⟩, post F' H' ex rel' F' H' (Ex.refl _) rel' _ (walks_tup h1 h2)⟩
    | str s =>
      refine .inr ⟨e, F, ρ, rel, ?_⟩
      dsimp only
      rw [hv]
      intro F' H' ex rel' v hv'
      exact ⟨s, hv'.str_inv, post F' H' ex rel' F' H' (Ex.refl _) rel' _ walks_str⟩
    | none => refine .inl (.inl ⟨e, F, ρ, rel, ?_⟩); dsimp only; rw [hv]; exact fun F' H' ex rel' v hv' => (post F' H' ex rel').elim
    | bool b => refine .inl (.inl ⟨e, F, ρ, rel, ?_⟩); dsimp only; rw [hv]; exact fun F' H' ex rel' v hv' => (post F' H' ex rel').elim
    | int i => refine .inl (.inl ⟨e, F, ρ, rel, ?_⟩); dsimp only; rw [hv]; exact fun F' H' ex rel' v hv' => (post F' H' ex rel').elim
    | dict kvs => refine .inl (.inl ⟨e, F, ρ, rel, ?_⟩); dsimp only; rw [hv]; exact fun F' H' ex rel' v hv' => (post F' H' ex rel').elim
end
end Pv

namespace Pv
open PySem L2 PyProof.Rows
section
variable {X : Cx} {tg a b c : Expr} {xa : XAt τ} {W : WX} {p pos : Pos} {ev eb : Env → R Val} {el : Env → R (List D)}
theorem rng_bind {r : R (List D)} {e : Ent τ} {σ : L2.St} {F : Hp} {Q : List D → Env → Hp → Hp → Prop} (h : Post X.K xa W e σ F (r.bind fun ds ρ => R.ofO ((rngOf ds).map fun p => rangeD p.1 p.2.1 p.2.2) ρ) Q) :
    Post X.K xa W e σ F r fun ds ρ1 F1 H1 => ∃ lo n st, rngOf ds = some (lo, n, st) ∧ ∀ F' H', Ex F1 F' → Rel X.K e F' H' ρ1 σ → Q (rangeD lo n st) ρ1 F' H' :=
  (Post.bind h).imp fun ds ρ1 F1 H1 ex1 rel1 q => by
    obtain ⟨z, hz, q2⟩ := q.ofO
    obtain ⟨⟨lo, n, st⟩, hw, rfl⟩ := Option.map_eq_some_iff.mp hz
    exact ⟨lo, n, st, hw, q2⟩
theorem pi_rng1 (hg : Gl X "range") (hm : X.mg "range" = none) (ha : PA X [a] (tL X.K xa W el)) (hs : starEach [a] X.env = [(false, eval a X.env)]) (hone : ∀ vs : List V, vs.length = 1 → True) :
    PI X tg (.Call (.Name "range" p) [a] [] pos) (fun σ H R => tL X.K xa W el σ H fun vs H1 => ∃ j : Int, vs = [.int j] ∧ -(2 ^ 62) ≤ j ∧ j < 2 ^ 62 ∧ R (Itr 0 j.toNat) H1) := pi_range1 hg hm ha hs
theorem reps_ints {K : PySem.W.Frag} {F : Hp} {vs : List V} {i j k : Int} : (Reps K F vs [.int i] → vs = [.int i]) ∧ (Reps K F vs [.int i, .int j] → vs = [.int i, .int j]) ∧ (Reps K F vs [.int i, .int j, .int k] → vs = [.int i, .int j, .int k]) := by
  refine ⟨fun h => ?_, fun h => ?_, fun h => ?_⟩
  · cases h with | cons h hs => cases hs; rw [h.int_inv]
  · cases h with | cons h hs => cases hs with | cons h2 hs => cases hs; rw [h.int_inv, h2.int_inv]
  · cases h with | cons h hs => cases hs with | cons h2 hs => cases hs with | cons h3 hs => cases hs; rw [h.int_inv, h2.int_inv, h3.int_inv]
theorem rngOf_1 {ds : List D} {lo : Int} {n : Nat} {st : Int} (hl : ds.length = 1) (h : rngOf ds = some (lo, n, st)) : ∃ j, ds = [.int j] ∧ -(2 ^ 62) ≤ j ∧ j < 2 ^ 62 ∧ lo = 0 ∧ n = j.toNat ∧ st = 1 := by
  match ds, hl with
  | [d], _ =>
    cases d <;> first | (cases h; done) | skip
    simp only [rngOf] at h
    split at h
    · rename_i hh
      cases h
      exact ⟨_, rfl, by omega, by omega, rfl, rfl, rfl⟩
    · cases h
theorem rngOf_2 {ds : List D} {lo : Int} {n : Nat} {st : Int} (hl : ds.length = 2) (h : rngOf ds = some (lo, n, st)) : ∃ i j, ds = [.int i, .int j] ∧ (-(2 ^ 62) ≤ i ∧ i < 2 ^ 62 ∧ -(2 ^ 62) ≤ j ∧ j < 2 ^ 62) ∧ lo = i ∧ n = (j - i).toNat ∧ st = 1 := by
  match ds, hl with
  | [d, d'], _ =>
    cases d <;> cases d' <;> first | (cases h; done) | skip
    simp only [rngOf] at h
    split at h
    · rename_i hh
      cases h
      exact ⟨_, _, rfl, ⟨by omega, by omega, by omega, by omega⟩, rfl, rfl, rfl⟩
    · cases h
theorem rngOf_3 {ds : List D} {lo : Int} {n : Nat} {st : Int} (hl : ds.length = 3) (h : rngOf ds = some (lo, n, st)) : ∃ i j, ds = [.int i, .int j, .int (-1)] ∧ (-(2 ^ 62) ≤ i ∧ i < 2 ^ 62 ∧ -(2 ^ 62) ≤ j ∧ j < 2 ^ 62) ∧ lo = i ∧ n = (i - j).toNat ∧ st = -1 := by
  match ds, hl with
  | [d, d', d''], _ =>
    cases d <;> cases d' <;> cases d'' <;> first | (cases h; done) | skip
    simp only [rngOf] at h
    split at h
    · rename_i hh
      cases h
      exact ⟨_, _, by rw [hh.1], ⟨by omega, by omega, by omega, by omega⟩, rfl, rfl, rfl⟩
    · cases h
/-- the list's length is the number of arguments -/
def LenIs {α : Type} (el : Env → R (List α)) (n : Nat) : Prop := ∀ ρ ds ρ', el ρ = .ok ds ρ' → ds.length = n
theorem post_len {α : Type} {el : Env → R (List α)} {e : Ent τ} {σ : L2.St} {F : Hp} {ρ : Env} {n : Nat} {Q : List α → Env → Hp → Hp → Prop} (hl : LenIs el n) (h : Post X.K xa W e σ F (el ρ) Q) : Post X.K xa W e σ F (el ρ) fun ds ρ1 F1 H1 => ds.length = n ∧ Q ds ρ1 F1 H1 := by
  cases he : el ρ with
  | ok ds ρ1 => rw [he] at h; exact fun F' H' ex rel => ⟨hl ρ ds ρ1 he, h F' H' ex rel⟩
  | exc c x ρ1 => rw [he] at h; exact h
  | bad => rw [he] at h; exact h
theorem pi_rngA (hg : Gl X "range") (hm : X.mg "range" = none) (ha : PA X [a] (tL X.K xa W el)) (hl : LenIs el 1) (hs : starEach [a] X.env = [(false, eval a X.env)]) :
    PI X tg (.Call (.Name "range" p) [a] [] pos) (tI X.K xa W fun ρ => (el ρ).bind fun ds ρ => R.ofO ((rngOf ds).map fun p => rangeD p.1 p.2.1 p.2.2) ρ) := by
  refine pi_weak (pi_range1 hg hm ha hs) fun σ H R ⟨e, F, ρ, rel, post⟩ => ⟨e, F, ρ, rel, (post_len hl (rng_bind post)).imp fun ds ρ1 F1 H1 ex1 rel1 ⟨hln, lo, n, st, hr, q⟩ vs hvs => ?_⟩
  obtain ⟨j, rfl, h1, h2, rfl, rfl, rfl⟩ := rngOf_1 hln hr
  exact ⟨j, (reps_ints (j := 0) (k := 0)).1 hvs, h1, h2, q F1 H1 (Ex.refl _) rel1 _ walks_range⟩
theorem pi_rngB (hg : Gl X "range") (hm : X.mg "range" = none) (ha : PA X [a, b] (tL X.K xa W el)) (hl : LenIs el 2) (hs : starEach [a, b] X.env = [(false, eval a X.env), (false, eval b X.env)]) (hs2 : starEach [b] X.env = [(false, eval b X.env)]) :
    PI X tg (.Call (.Name "range" p) [a, b] [] pos) (tI X.K xa W fun ρ => (el ρ).bind fun ds ρ => R.ofO ((rngOf ds).map fun p => rangeD p.1 p.2.1 p.2.2) ρ) := by
  refine pi_weak (pi_range2 hg hm ha hs hs2) fun σ H R ⟨e, F, ρ, rel, post⟩ => ⟨e, F, ρ, rel, (post_len hl (rng_bind post)).imp fun ds ρ1 F1 H1 ex1 rel1 ⟨hln, lo, n, st, hr, q⟩ vs hvs => ?_⟩
  obtain ⟨i, j, rfl, h1, rfl, rfl, rfl⟩ := rngOf_2 hln hr
  exact ⟨_, j, (reps_ints (k := 0)).2.1 hvs, h1, q F1 H1 (Ex.refl _) rel1 _ walks_range⟩
theorem pi_rngC (hg : Gl X "range") (hm : X.mg "range" = none) (ha : PA X [a, b, c] (tL X.K xa W el)) (hl : LenIs el 3) (hs : starEach [a, b, c] X.env = (false, eval a X.env) :: starEach [b, c] X.env) (hpl : (backTo pos (starEach [b, c] X.env)).any (·.1) = false) :
    PI X tg (.Call (.Name "range" p) [a, b, c] [] pos) (tI X.K xa W fun ρ => (el ρ).bind fun ds ρ => R.ofO ((rngOf ds).map fun p => rangeD p.1 p.2.1 p.2.2) ρ) := by
  refine pi_weak (pi_range3 hg hm ha hs hpl) fun σ H R ⟨e, F, ρ, rel, post⟩ => ⟨e, F, ρ, rel, (post_len hl (rng_bind post)).imp fun ds ρ1 F1 H1 ex1 rel1 ⟨hln, lo, n, st, hr, q⟩ vs hvs => ?_⟩
  obtain ⟨i, j, rfl, ⟨h1, h2, h3, h4⟩, rfl, rfl, rfl⟩ := rngOf_3 hln hr
  exact ⟨_, j, -1, _, reps_ints.2.2 hvs, RgC.neg h1 h2 h3 h4, q F1 H1 (Ex.refl _) rel1 _ walks_rangeC⟩
theorem pi_zip' {elts : List Expr} {kk : Nat} {tpos : Pos} (hg : Gl X "zip") (hm : X.mg "zip" = none) (ha : PE X a (tV X.K xa W ev)) (hb : PE X b (tV X.K xa W eb)) (hs : starEach [a, b] X.env = (false, eval a X.env) :: starEach [b] X.env) (hs2 : starEach [b] X.env = (false, eval b X.env) :: starEach [] X.env) (hpl : (backTo pos (starEach [b] X.env)).any (·.1) = false) :
    PI X (.Tuple elts kk tpos) (.Call (.Name "zip" p) [a, b] [] pos) (tI X.K xa W fun ρ => bindD (ev ρ) fun x ρ => bindD (eb ρ) fun y ρ => R.ofO (zipO x y) ρ) := by
  refine pi_weak (RZ.pi_zipA hg hm (pa_cons (pe_toD ha) (pa_cons (pe_toD hb) pa_nil hs2) hs) hs hpl) fun σ H R ⟨e, F, ρ, rel, post⟩ => ?_
  simp only [bindD_dd] at post
  refine ⟨e, F, ρ, rel, (Post.bind post).imp fun dx ρ1 F1 H1 ex1 rel1 q x hx => ⟨e, F1, ρ1, rel1, (Post.bind q).imp fun dy ρ2 F2 H2 ex2 rel2 q2 y hy => ?_⟩⟩
  obtain ⟨zs, hz, q3⟩ := q2.ofO
  cases dx <;> cases dy <;> first | (cases hz; done) | skip
  · cases hz
    obtain ⟨l, us, rfl, h1, h2⟩ := (hx.mono ex2).list_inv
    obtain ⟨m, ws, rfl, h3, h4⟩ := hy.list_inv
    exact ⟨l, m, us, ws, rfl, .inl ⟨.inl (rel2.sub.rd h1), .inl (rel2.sub.rd h3), q3 F2 H2 (Ex.refl _) rel2 _ (walks_zipL h1 h2 h3 h4)⟩⟩
  · cases hz
    obtain ⟨l, us, rfl, h1, h2⟩ := (hx.mono ex2).tup_inv
    obtain ⟨m, ws, rfl, h3, h4⟩ := hy.tup_inv
    exact ⟨l, m, us, ws, rfl, .inr ⟨rel2.sub.sqT h1, rel2.sub.sqT h3, q3 F2 H2 (Ex.refl _) rel2 _ (walks_zipT h1 h2 h3 h4)⟩⟩
theorem pi_enum' {elts : List Expr} {kk : Nat} {tpos : Pos} (hg : Gl X "enumerate") (hm : X.mg "enumerate" = none) (ha : PE X a (tV X.K xa W ev)) (hs : starEach [a] X.env = [(false, eval a X.env)]) :
    PI X (.Tuple elts kk tpos) (.Call (.Name "enumerate" p) [a] [] pos) (tI X.K xa W fun ρ => bindD (ev ρ) fun x ρ => R.ofO (enumO x) ρ) := by
  refine pi_weak (pi_or (pi_enum hg hm (pa_cons (pe_toD ha) pa_nil hs) hs) (pi_enumT hg hm (pa_cons (pe_toD ha) pa_nil hs) hs)) fun σ H R ⟨e, F, ρ, rel, post⟩ => ?_
  simp only [bindD_dd] at post
  cases hv : dd (ev ρ) with
  | bad => rw [hv] at post; exact post.elim
  | exc c x ρ1 =>
    refine .inl ⟨e, F, ρ, rel, ?_⟩
    have post := Post.bind post
    dsimp only
    rw [hv] at post ⊢
    exact post
  | ok d ρ1 =>
    have post := Post.bind post
    rw [hv] at post
    cases d with
    | tuple xs =>
      refine .inr ⟨e, F, ρ, rel, ?_⟩
      dsimp only
      rw [hv]
      intro F' H' ex rel' v hv'
      obtain ⟨l, us, rfl, h1, h2⟩ := hv'.tup_inv
      exact ⟨l, us, rfl, rel'.sub.sqT h1, post F' H' ex rel' F' H' (Ex.refl _) rel' _ (walks_enumT h1 h2)⟩
    | list xs =>
      refine .inl ⟨e, F, ρ, rel, ?_⟩
      dsimp only
      rw [hv]
      intro F' H' ex rel' v hv'
      obtain ⟨l, us, rfl, h1, h2⟩ := hv'.list_inv
      exact ⟨l, us, rfl, .inl (rel'.sub.rd h1), post F' H' ex rel' F' H' (Ex.refl _) rel' _ (walks_enum h1 h2)⟩
    | _ =>
      refine .inl ⟨e, F, ρ, rel, ?_⟩
      dsimp only
      rw [hv]
      intro F' H' ex rel' v hv'
      exact (post F' H' ex rel').elim
end

/-! ### new lists that wait while the rest of a row is reckoned -/
def isF : Val → Bool
  | .fr _ => true
  | .pv _ => false
/-- p is kept as it is -/
def Ent.hold {τ : Tls} (e : Ent τ) (p : Addr) (us : List V) : Ent τ := ⟨e.F0, upd e.H0 p (.lst us), e.M, e.pI⟩
section
variable {τ : Tls} {K : PySem.W.Frag} {xa : XAt τ} {W : WX} {e : Ent τ} {F F' H H' : Hp} {ρ ρ' : Env} {σ : L2.St} {p : Addr} {us : List V}
theorem NT.hold {q : Addr} (h : NT e.H0 q) (hq : q ≠ p) : NT (e.hold p us).H0 q := fun o ho => h o (by
  have ho : upd e.H0 p (.lst us) q = some o := ho
  rwa [upd_ne hq] at ho)
theorem NT.unhold {q : Addr} (h : NT (e.hold p us).H0 q) : q ≠ p ∧ NT e.H0 q := by
  have hq : q ≠ p := fun z => by
    subst z
    obtain ⟨ps, z⟩ := h _ upd_same
    cases z
  exact ⟨hq, fun o ho => h o (show upd e.H0 p (.lst us) q = some o by rw [upd_ne hq]; exact ho)⟩
theorem Rel.hold (r : Rel K e F H ρ σ) (h1 : F p = none) (h2 : H p = some (.lst us)) (h3 : Apart ρ σ p) : Rel K (e.hold p us) F H ρ σ := by
  refine ⟨r.len, r.sub0, r.sub, fun i s hs => ?_, r.dis, fun a o ho hn hm => ?_, fun a ha hn hm => ?_, r.mh, r.pm, r.tab, r.nt⟩
  · obtain ⟨v, hv, k⟩ := r.slot i s hs
    refine ⟨v, hv, ?_⟩
    cases s with
    | own xs =>
      obtain ⟨q, ws, rfl, k1, k2, k3, k4, k5⟩ := k
      have hq : q ≠ p := fun z => h3 i (.own xs) hs rfl (by rw [hv, z])
      exact ⟨q, ws, rfl, k1, k2, k3, k4.imp id fun z => z.hold hq, k5⟩
    | _ => exact k
  · have ho : upd e.H0 p (.lst us) a = some o := ho
    by_cases hq : a = p
    · subst hq
      rw [upd_same] at ho
      cases ho
      exact h2
    · rw [upd_ne hq] at ho
      exact r.frm a o ho hn hm
  · by_cases hq : a = p
    · subst hq; exact h1
    · refine r.old a ha (fun z => hn (z.hold hq)) hm
theorem Rel.unhold (r : Rel K (e.hold p us) F H ρ σ) (h0 : e.F0 p = none) (h1 : NT e.H0 p) (h2 : ¬ e.M p) : Rel K e F H ρ σ ∧ F p = none ∧ H p = some (.lst us) ∧ Apart ρ σ p := by
  have f1 : F p = none := r.old p h0 (fun z => z.unhold.1 rfl) h2
  have f2 : H p = some (.lst us) := r.frm p _ upd_same (fun ps z => nomatch z) h2
  refine ⟨⟨r.len, r.sub0, r.sub, fun i s hs => ?_, r.dis, fun a o ho hn hm => ?_, fun a ha hn hm => ?_, r.mh, r.pm, r.tab, r.nt⟩, f1, f2, fun i s hs hm z => ?_⟩
  · obtain ⟨v, hv, k⟩ := r.slot i s hs
    refine ⟨v, hv, ?_⟩
    cases s with
    | own xs =>
      obtain ⟨q, ws, rfl, k1, k2, k3, k4, k5⟩ := k
      exact ⟨q, ws, rfl, k1, k2, k3, k4.imp id fun z => z.unhold.2, k5⟩
    | _ => exact k
  · have hq : a ≠ p := fun z => by
      subst z
      obtain ⟨ps, e1⟩ := h1 _ ho
      exact hn ps e1
    exact r.frm a o (show upd e.H0 p (.lst us) a = some o by rw [upd_ne hq]; exact ho) hn hm
  · by_cases hq : a = p
    · subst hq; exact f1
    · exact r.old a ha (fun z => hn z.unhold.2) hm
  · obtain ⟨v, hv, k⟩ := r.slot i s hs
    rw [hv] at z
    cases z
    cases s with
    | own xs =>
      obtain ⟨q, ws, e1, k1, k2, k3, k4, k5⟩ := k
      cases e1
      rcases k4 with k4 | k4
      · exact h2 k4
      · exact k4.unhold.1 rfl
    | io xs =>
      obtain ⟨q, ws, e1, k1, k2, k3, k4, k5⟩ := k
      cases e1
      exact h2 k4
    | _ => cases hm
theorem VR.unhold {w : V} {y : Val} (h : VR K (e.hold p us) F H ρ σ w y) : VR K e F H ρ σ w y ∧ (isF y = true → w ≠ .ref p) := by
  cases y with
  | pv d => exact ⟨h, fun z => nomatch z⟩
  | fr ys =>
    obtain ⟨q, ws, rfl, k1, k2, k3, k4, k5, k6, k7⟩ := h
    exact ⟨⟨q, ws, rfl, k1, k2, k3, k4.unhold.2, k5, k6, k7⟩, fun _ z => k4.unhold.1 (by cases z; rfl)⟩
theorem Post.to {α : Type} {e e' : Ent τ} {r : R α} {Q : α → Env → Hp → Hp → Prop} (k : ∀ F H ρ, Rel K e' F H ρ σ → Rel K e F H ρ σ) (h : Post K xa W e σ F r Q) : Post K xa W e' σ F r Q := by
  cases r with
  | ok a ρ => exact fun F' H' ex rel => h F' H' ex (k _ _ _ rel)
  | exc c x ρ => exact fun F' H' d ex rel => h F' H' d ex (k _ _ _ rel)
  | bad => exact h
/-- values, the new lists among them apart from each other -/
def VRs (K : PySem.W.Frag) (e : Ent τ) (F H : Hp) (ρ : Env) (σ : L2.St) : List V → List Val → Prop
  | [], [] => True
  | v :: vs, x :: xs => VR K e F H ρ σ v x ∧ VRs K e F H ρ σ vs xs ∧ (isF x = true → ∀ (j : Nat) y, xs[j]? = some y → isF y = true → vs[j]? ≠ some v)
  | _, _ => False
theorem VRs.unhold : ∀ {vs : List V} {xs : List Val}, VRs K (e.hold p us) F H ρ σ vs xs → VRs K e F H ρ σ vs xs ∧ ∀ (j : Nat) y, xs[j]? = some y → isF y = true → vs[j]? ≠ some (.ref p)
  | [], [], _ => ⟨trivial, fun j y h => by simp at h⟩
  | v :: vs, x :: xs, ⟨h1, h2, h3⟩ => by
    obtain ⟨a, b⟩ := VRs.unhold h2
    refine ⟨⟨h1.unhold.1, a, h3⟩, fun j y hy hf z => ?_⟩
    cases j with
    | zero =>
      simp only [List.getElem?_cons_zero, Option.some.injEq] at hy z
      subst hy
      exact h1.unhold.2 hf z
    | succ j =>
      rw [List.getElem?_cons_succ] at hy z
      exact b j y hy hf z
theorem VRs.length : ∀ {vs : List V} {xs : List Val}, VRs K e F H ρ σ vs xs → vs.length = xs.length
  | [], [], _ => rfl
  | _ :: vs, _ :: xs, ⟨_, h, _⟩ => by rw [List.length_cons, List.length_cons, VRs.length h]
end
section
variable {τ : Tls} (K : PySem.W.Frag) (xa : XAt τ) (W : WX)
def tVs (ev : Env → R (List Val)) : TA := fun σ H Q => ∃ e F ρ, Rel K e F H ρ σ ∧ Post K xa W e σ F (ev ρ) fun xs ρ' F' H' => ∀ vs, VRs K e F' H' ρ' σ vs xs → Q vs H'
end
section
variable {τ : Tls} {X : Cx} {xa : XAt τ} {W : WX} {a : Expr}
theorem pa_nilV : PA X [] (tVs X.K xa W fun ρ => .ok [] ρ) := pa_weak pa_nil fun σ H Q ⟨e, F, ρ, rel, post⟩ => post F H (Ex.refl F) rel [] trivial
theorem pa_consV {es : List Expr} {ea : Env → R Val} {el : Env → R (List Val)} (ha : PE X a (tV X.K xa W ea)) (hr : PA X es (tVs X.K xa W el)) (hs : starEach (a :: es) X.env = (false, eval a X.env) :: starEach es X.env) :
    PA X (a :: es) (tVs X.K xa W fun ρ => (ea ρ).bind fun x ρ => (el ρ).bind fun xs ρ => .ok (x :: xs) ρ) := by
  refine pa_weak (pa_cons ha hr hs) fun σ H Q ⟨e, F, ρ, rel, post⟩ => ?_
  refine ⟨e, F, ρ, rel, (Post.bind post).imp fun x ρ1 F1 H1 ex1 rel1 q v hv => ?_⟩
  cases x with
  | pv d =>
    refine ⟨e, F1, ρ1, rel1, (Post.bind q).imp fun xs ρ2 F2 H2 ex2 rel2 q2 vs hvs => ?_⟩
    exact q2 F2 H2 (Ex.refl _) rel2 _ ⟨Rep.mono ex2 hv, hvs, fun z => nomatch z⟩
  | fr ys =>
    obtain ⟨p, us, rfl, k1, k2, k3, k4, k5, k6, k7⟩ := hv
    have h0 : e.F0 p = none := by
      cases z : e.F0 p with
      | none => rfl
      | some o => rw [rel1.sub0 p o z] at k1; cases k1
    refine ⟨e.hold p us, F1, ρ1, rel1.hold k1 k2 k7, (Post.to (fun F H ρ r => (r.unhold h0 k4 k5).1) (Post.bind q)).imp fun xs ρ2 F2 H2 ex2 rel2 q2 vs hvs => ?_⟩
    obtain ⟨rel3, f1, f2, f3⟩ := rel2.unhold h0 k4 k5
    obtain ⟨n1, n2⟩ := hvs.unhold
    exact q2 F2 H2 (Ex.refl _) rel3 _ ⟨⟨p, us, rfl, f1, f2, Reps.mono ex2 k3, k4, k5, k6, f3⟩, n1, fun _ j y hy hf z => n2 j y hy hf z⟩
end
theorem putVs_exc : ∀ {is : List Nat} {ds : List Val} {ρ : Env} {c : Nat} {x : Option D} {ρ' : Env}, putVs ρ is ds ≠ .exc c x ρ'
  | [], [], _, _, _, _, h => by cases h
  | i :: is, d :: ds, ρ, _, _, _, h => by
    have h : (putV ρ i d).bind (fun _ ρ => putVs ρ is ds) = _ := h
    cases hp : putV ρ i d with
    | ok u ρ1 => rw [hp] at h; exact putVs_exc h
    | exc c x ρ1 => unfold putV at hp; split at hp <;> cases hp
    | bad => rw [hp] at h; cases h
  | [], _ :: _, _, _, _, _, h => by cases h
  | _ :: _, [], _, _, _, _, h => by cases h

/-! ### statements -/
section
variable {τ : Tls} (K : PySem.W.Frag) (xa : XAt τ) (W : WX)
def PostS (e : Ent τ) (F : Hp) (D : Ends) (r : SR) : Prop := match r with
  | .nx ρ' => ∀ F' H' σ', Ex F F' → Rel K e F' H' ρ' σ' → D.nx σ' H'
  | .brk ρ' => ∀ F' H' σ', Ex F F' → Rel K e F' H' ρ' σ' → D.bk σ' H'
  | .ct ρ' => ∀ F' H' σ', Ex F F' → Rel K e F' H' ρ' σ' → D.ct σ' H'
  | .ret x ρ' => ∀ F' H' σ' v, Ex F F' → Rel K e F' H' ρ' σ' → VR K e F' H' ρ' σ' v x → D.rt v H'
  | .exc c x ρ' => ∀ F' H' σ' d, Ex F F' → Rel K e F' H' ρ' σ' → XR K F' x d → W (.ref (xa c)) d σ' H'
  | .bad => False
/-- only the caller's list may change -/
def EntF {τ : Tls} (e : Ent τ) : Prop := ∀ a, e.M a → e.pI = some a
def tS (ev : Env → SR) : TS := fun D σ H => ∃ (e : Ent τ) (F : Hp) (ρ : Env), EntF e ∧ Rel K e F H ρ σ ∧ PostS K xa W e F D (ev ρ)
end
section
variable {τ : Tls} {K : PySem.W.Frag} {xa : XAt τ} {W : WX} {e : Ent τ} {F F1 H : Hp} {σ : L2.St} {D : Ends} {α : Type}
theorem PostS.weak {r : SR} (ex : Ex F F1) (h : PostS K xa W e F D r) : PostS K xa W e F1 D r := by
  cases r with
  | nx ρ => exact fun F' H' σ' ex' rel => h F' H' σ' (ex.trans ex') rel
  | brk ρ => exact fun F' H' σ' ex' rel => h F' H' σ' (ex.trans ex') rel
  | ct ρ => exact fun F' H' σ' ex' rel => h F' H' σ' (ex.trans ex') rel
  | ret x ρ => exact fun F' H' σ' v ex' rel => h F' H' σ' v (ex.trans ex') rel
  | exc c x ρ => exact fun F' H' σ' d ex' rel => h F' H' σ' d (ex.trans ex') rel
  | bad => exact h
theorem PostS.toS {r : R α} {f : α → Env → SR} (h : PostS K xa W e F D (r.toS f)) : Post K xa W e σ F r fun a ρ1 F1 H1 => PostS K xa W e F1 D (f a ρ1) := by
  cases r with
  | ok a ρ => exact fun F' H' ex rel => PostS.weak (r := f a ρ) ex h
  | exc c x ρ => exact fun F' H' d ex rel => h F' H' σ d ex rel
  | bad => exact h
theorem PostS.bind {r : SR} {f : Env → SR} {N : L2.St → Hp → Prop} (h : PostS K xa W e F D (r.bind f)) (hN : ∀ ρ F' H' σ', Ex F F' → Rel K e F' H' ρ σ' → PostS K xa W e F' D (f ρ) → N σ' H') : PostS K xa W e F { D with nx := N } r := by
  cases r with
  | nx ρ => exact fun F' H' σ' ex rel => hN ρ F' H' σ' ex rel (PostS.weak ex h)
  | brk ρ => exact h
  | ct ρ => exact h
  | ret x ρ => exact h
  | exc c x ρ => exact h
  | bad => exact h
end
section
variable {X : Cx} {a b c : Expr} {st : Stmt} {sts : List Stmt} {xa : XAt τ} {W : WX} {p pos : Pos} {ev : Env → R Val} {el : Env → R (List D)} {t : TE}
theorem pss_nil' : PSs X [] (tS X.K xa W fun ρ => .nx ρ) := pss_weak pss_nil fun D σ H ⟨e, F, ρ, ef, rel, post⟩ => post F H σ (Ex.refl F) rel
theorem pss_cons' {es : Env → SR} {er : Env → SR} (h : PS X st (tS X.K xa W es)) (hr : PSs X sts (tS X.K xa W er)) : PSs X (st :: sts) (tS X.K xa W fun ρ => (es ρ).bind er) := by
  refine pss_weak (pss_cons h hr) fun D σ H ⟨e, F, ρ, ef, rel, post⟩ => ⟨e, F, ρ, ef, rel, ?_⟩
  exact PostS.bind post fun ρ1 F1 H1 σ1 ex1 rel1 q => ⟨e, F1, ρ1, ef, rel1, q⟩
theorem ps_pass' : PS X (.Pass pos) (tS X.K xa W fun ρ => .nx ρ) := ps_weak ps_pass fun D σ H ⟨e, F, ρ, ef, rel, post⟩ => post F H σ (Ex.refl F) rel
theorem ps_brk' : PS X (.Break pos) (tS X.K xa W fun ρ => .brk ρ) := ps_weak ps_break fun D σ H ⟨e, F, ρ, ef, rel, post⟩ => post F H σ (Ex.refl F) rel
theorem ps_ct' : PS X (.Continue pos) (tS X.K xa W fun ρ => .ct ρ) := ps_weak ps_continue fun D σ H ⟨e, F, ρ, ef, rel, post⟩ => post F H σ (Ex.refl F) rel
theorem ps_retN' : PS X (.Return none pos) (tS X.K xa W fun ρ => .ret (.pv .none) ρ) := ps_weak ps_retN fun D σ H ⟨e, F, ρ, ef, rel, post⟩ => post F H σ .non (Ex.refl F) rel .non
theorem ps_ret' (h : PE X a (tV X.K xa W ev)) : PS X (.Return (some a) pos) (tS X.K xa W fun ρ => (ev ρ).toS fun x ρ => .ret x ρ) := by
  refine ps_weak (ps_ret h) fun D σ H ⟨e, F, ρ, ef, rel, post⟩ => ⟨e, F, ρ, rel, (PostS.toS post).imp fun x ρ1 F1 H1 ex1 rel1 q v hv => ?_⟩
  exact q F1 H1 σ v (Ex.refl _) rel1 hv
theorem Rel.unset {K : PySem.W.Frag} {e : Ent τ} {F H : Hp} {ρ : Env} {σ : L2.St} {i : Nat} (r : Rel K e F H ρ σ) (hi : i < ρ.length) : Rel K e F H (ρ.set i none) σ :=
  ⟨by rw [List.length_set]; exact r.len, r.sub0, r.sub, fun j t ht => by
    by_cases hj : i = j
    · subst hj; rw [List.getElem?_set_self hi] at ht; cases ht
    · rw [List.getElem?_set_ne hj] at ht; exact r.slot j t ht, fun j k t u b hjk h1 h2 => by
    by_cases hj : i = j
    · subst hj; rw [List.getElem?_set_self hi] at h1; cases h1
    · by_cases hk : i = k
      · subst hk; rw [List.getElem?_set_self hi] at h2; cases h2
      · rw [List.getElem?_set_ne hj] at h1; rw [List.getElem?_set_ne hk] at h2; exact r.dis j k t u b hjk h1 h2, r.frm, r.old, r.mh, r.pm, r.tab, r.nt⟩
theorem ps_retv' {i : Nat} (h : PE X a (tVar i)) : PS X (.Return (some a) pos) (tS X.K xa W fun ρ => retV ρ i) := by
  refine ps_weak (ps_ret h) fun D σ H ⟨e, F, ρ, ef, rel, post⟩ => ?_
  have post : PostS X.K xa W e F D (retV ρ i) := post
  have other : ∀ s, ρ[i]? = some (some s) → ((∀ xs, s ≠ .raw xs) ∧ ∀ a, s ≠ .xc a) → PostS X.K xa W e F D (.ret (.pv s.dat) (ρ.set i (some s.frozen))) → tRet (tVar i) D σ H := fun s hs hn post => by
    obtain ⟨F1, v, ex1, hv, rep, rel1⟩ := rel.freeze hs hn
    exact ⟨v, hv, post F1 H σ v ex1 rel1 rep⟩
  unfold retV at post
  split at post
  · rename_i xs hs
    have hi : i < ρ.length := (List.getElem?_eq_some_iff.mp hs).1
    obtain ⟨v, hv, q, us, rfl, q1, q2, q3, q4, q5⟩ := rel.slot i _ hs
    have hM : ¬ e.M q := fun h => q5 (ef q h)
    refine ⟨_, hv, post F H σ _ (Ex.refl F) (rel.unset hi) ⟨q, us, rfl, q1, q2, q3, q4.resolve_left hM, hM, q5, fun j t ht htm hσ => ?_⟩⟩
    by_cases hj : i = j
    · subst hj; rw [List.getElem?_set_self hi] at ht; cases ht
    · rw [List.getElem?_set_ne hj] at ht
      exact rel.dis i j _ t q hj hs ht rfl htm hv hσ
  · exact post.elim
  · exact post.elim
  · rename_i s hne hn hn2 hs
    exact other s hs ⟨fun xs z => hn xs (by rw [z]), fun a z => hn2 a (by rw [z])⟩ post
  · exact post.elim
theorem ps_expr' (h : PE X a (tV X.K xa W ev)) (hs : swapsWith a none pos.line X.env = pure false) : PS X (.Expr a pos) (tS X.K xa W fun ρ => (ev ρ).toS fun _ ρ => .nx ρ) := by
  refine ps_weak (ps_expr h hs) fun D σ H ⟨e, F, ρ, ef, rel, post⟩ => ⟨e, F, ρ, rel, (PostS.toS post).imp fun x ρ1 F1 H1 ex1 rel1 q v hv => ?_⟩
  exact q F1 H1 σ (Ex.refl _) rel1
theorem ps_ite' {ec : Env → R Bool} {ea eb : Env → SR} {sa sb : List Stmt} (hc : PT X c (tBo X.K xa W ec)) (ha : PSs X sa (tS X.K xa W ea)) (hb : PSs X sb (tS X.K xa W eb)) : PS X (.If c sa sb pos) (tS X.K xa W fun ρ => (ec ρ).toS fun t ρ => iteS t (ea ρ) (eb ρ)) := by
  refine ps_weak (ps_if hc ha hb) fun D σ H ⟨e, F, ρ, ef, rel, post⟩ => ⟨e, F, ρ, rel, (PostS.toS post).imp fun t ρ1 F1 H1 ex1 rel1 q => ?_⟩
  cases t with
  | true => exact iteT ⟨e, F1, ρ1, ef, rel1, q⟩
  | false => exact iteF ⟨e, F1, ρ1, ef, rel1, q⟩
/-- x = e -/
theorem ps_asgN {i : Nat} (h : PS X st (tAsg t (gName i))) (hr : ∀ σ H Q, tV X.K xa W ev σ H Q → t σ H Q) : PS X st (tS X.K xa W fun ρ => (ev ρ).toS fun x ρ => asgV ρ (.n i) x) := by
  refine ps_weak h fun D σ H ⟨e, F, ρ, ef, rel, post⟩ => hr σ H _ ⟨e, F, ρ, rel, (PostS.toS post).imp fun x ρ1 F1 H1 ex1 rel1 q v hv => ?_⟩
  have q : PostS X.K xa W e F1 D (toNx (putV ρ1 i x)) := q
  cases hp : putV ρ1 i x with
  | ok u ρ2 =>
    rw [hp] at q
    exact q F1 H1 _ (Ex.refl _) (rel1.put hv hp).1
  | exc c y ρ2 => rw [hp] at q; unfold putV at hp; split at hp <;> cases hp
  | bad => rw [hp] at q; exact q.elim
theorem putAll_exc : ∀ {is : List Nat} {ds : List D} {ρ : Env} {c : Nat} {x : Option D} {ρ' : Env}, putAll ρ is ds ≠ .exc c x ρ'
  | [], [], _, _, _, _ => fun h => nomatch h
  | [], _ :: _, _, _, _, _ => fun h => nomatch h
  | _ :: _, [], _, _, _, _ => fun h => nomatch h
  | i :: is, d :: ds, ρ, c, x, ρ' => fun h => by
    have h : (putD ρ i d).bind (fun _ ρ => putAll ρ is ds) = .exc c x ρ' := h
    unfold putD putV at h
    split at h
    · exact putAll_exc (is := is) (ds := ds) h
    · cases h
theorem putN_exc {tg : Tg} {d : D} {ρ : Env} {c : Nat} {x : Option D} {ρ' : Env} : putN ρ tg d ≠ .exc c x ρ' := fun h => by
  cases tg with
  | n i =>
    have h : putD ρ i d = .exc c x ρ' := h
    unfold putD putV at h
    split at h <;> cases h
  | t is =>
    cases d with
    | list ds => have h : (if ds.length = is.length then putAll ρ is ds else .bad) = .exc c x ρ' := h; split at h; exact putAll_exc h; cases h
    | tuple ds => have h : (if ds.length = is.length then putAll ρ is ds else .bad) = .exc c x ρ' := h; split at h; exact putAll_exc h; cases h
    | _ => cases h
  | u ts => cases d <;> cases h
theorem putU_exc : ∀ {ts : List (List Nat)} {ds : List D} {ρ : Env} {c : Nat} {x : Option D} {ρ' : Env}, putU ρ ts ds ≠ .exc c x ρ'
  | [], [], _, _, _, _ => fun h => nomatch h
  | [], _ :: _, _, _, _, _ => fun h => nomatch h
  | _ :: _, [], _, _, _, _ => fun h => nomatch h
  | t :: ts, d :: ds, ρ, c, x, ρ' => fun h => by
    have h : (putN ρ (tgOf t) d).bind (fun _ ρ => putU ρ ts ds) = .exc c x ρ' := h
    cases hp : putN ρ (tgOf t) d with
    | ok u ρ1 => rw [hp] at h; exact putU_exc (ts := ts) (ds := ds) h
    | exc c x ρ1 => exact putN_exc hp
    | bad => rw [hp] at h; cases h
theorem putT_exc {tg : Tg} {d : D} {ρ : Env} {c : Nat} {x : Option D} {ρ' : Env} : putT ρ tg d ≠ .exc c x ρ' := fun h => by
  cases tg with
  | n i =>
    have h : putD ρ i d = .exc c x ρ' := h
    unfold putD putV at h
    split at h <;> cases h
  | t is =>
    cases d with
    | list ds => have h : (if ds.length = is.length then putAll ρ is ds else .bad) = .exc c x ρ' := h; split at h; exact putAll_exc h; cases h
    | tuple ds => have h : (if ds.length = is.length then putAll ρ is ds else .bad) = .exc c x ρ' := h; split at h; exact putAll_exc h; cases h
    | _ => cases h
  | u ts =>
    cases d with
    | tuple ds => have h : (if ds.length = ts.length then putU ρ ts ds else .bad) = .exc c x ρ' := h; split at h; exact putU_exc h; cases h
    | _ => cases h
theorem tG_of {e : Ent τ} {F H : Hp} {ρ : Env} {σ : L2.St} {tg : Tg} {d : D} {v : V} {Q : L2.St → Hp → Prop} {f : Env → SR} {D : Ends} (rel : Rel X.K e F H ρ σ) (rep : Rep X.K F v d) (h : PostS X.K xa W e F D ((putT ρ tg d).toS fun _ ρ => f ρ))
    (k : ∀ ρ' σ', Chg tg.slots σ σ' → Rel X.K e F H ρ' σ' → PostS X.K xa W e F D (f ρ') → Q σ' H) : tG τ X.K tg v σ H Q := by
  refine ⟨e, F, ρ, d, rel, rep, ?_⟩
  cases hp : putT ρ tg d with
  | ok u ρ' => rw [hp] at h; exact fun σ' c r => k ρ' σ' c r h
  | exc c x ρ' => exact absurd hp putT_exc
  | bad => rw [hp] at h; exact h.elim
/-- a, b = e -/
theorem ps_asgU {ts : List (List Nat)} {tge : Expr} (he : PE X a (tV X.K xa W ev)) (hg : PG X tge (tG τ X.K (.u ts))) (hs : swapsWithSole [tge] a pos.line X.env = pure false) (hw : swappedStores [tge] a X.env = pure none) (h1 : (assignEach [tge] X.env).map (·.2) = [assign tge X.env]) :
    PS X (.Assign [tge] a pos) (tS X.K xa W fun ρ => (ev ρ).toS fun x ρ => asgV ρ (.u ts) x) := by
  refine ps_weak (ps_asg (pe_toD he) hg hs hw h1) fun D σ H ⟨e, F, ρ, ef, rel, post⟩ => ⟨e, F, ρ, rel, ?_⟩
  have post : PostS X.K xa W e F D ((ev ρ).toS fun x ρ => toNx (putT ρ (.u ts) x.dat)) := post
  have e1 : ((ev ρ).toS fun x ρ => toNx (putT ρ (.u ts) x.dat)) = (dd (ev ρ)).toS fun x ρ => toNx (putT ρ (.u ts) x) := by cases ev ρ <;> rfl
  rw [e1] at post
  exact (PostS.toS post).imp fun d ρ1 F1 H1 ex1 rel1 q v hv => tG_of (f := fun ρ => .nx ρ) rel1 hv q fun ρ' σ' _ rel' q' => q' F1 H1 σ' (Ex.refl _) rel'
theorem ps_asgT {is : List Nat} {tge : Expr} (he : PE X a (tV X.K xa W ev)) (hg : PG X tge (tG τ X.K (.t is))) (hs : swapsWithSole [tge] a pos.line X.env = pure false) (hw : swappedStores [tge] a X.env = pure none) (h1 : (assignEach [tge] X.env).map (·.2) = [assign tge X.env]) :
    PS X (.Assign [tge] a pos) (tS X.K xa W fun ρ => (ev ρ).toS fun x ρ => asgV ρ (.t is) x) := by
  refine ps_weak (ps_asg (pe_toD he) hg hs hw h1) fun D σ H ⟨e, F, ρ, ef, rel, post⟩ => ⟨e, F, ρ, rel, ?_⟩
  have post : PostS X.K xa W e F D ((ev ρ).toS fun x ρ => toNx (putT ρ (.t is) x.dat)) := post
  have e1 : ((ev ρ).toS fun x ρ => toNx (putT ρ (.t is) x.dat)) = (dd (ev ρ)).toS fun x ρ => toNx (putT ρ (.t is) x) := by cases ev ρ <;> rfl
  rw [e1] at post
  exact (PostS.toS post).imp fun d ρ1 F1 H1 ex1 rel1 q v hv => tG_of (f := fun ρ => .nx ρ) rel1 hv q fun ρ' σ' _ rel' q' => q' F1 H1 σ' (Ex.refl _) rel'
theorem par_put {e : Ent τ} {F H : Hp} {D : Ends} : ∀ {is : List Nat} {ds : List Val} {ρ : Env}, PostS X.K xa W e F D (toNx (putVs ρ is ds)) → ∃ ρ', putVs ρ is ds = .ok () ρ' ∧ PostS X.K xa W e F D (.nx ρ') := fun {is ds ρ} h => by
  cases hp : putVs ρ is ds with
  | ok u ρ' => rw [hp] at h; exact ⟨ρ', rfl, h⟩
  | exc c x ρ' => exact absurd hp putVs_exc
  | bad => rw [hp] at h; exact h.elim
theorem put_cons {ρ ρ' : Env} {i : Nat} {is : List Nat} {d : Val} {ds : List Val} (h : putVs ρ (i :: is) (d :: ds) = .ok () ρ') : ∃ ρ1, putV ρ i d = .ok () ρ1 ∧ putVs ρ1 is ds = .ok () ρ' := by
  have h : (putV ρ i d).bind (fun _ ρ => putVs ρ is ds) = .ok () ρ' := h
  cases hp : putV ρ i d with
  | ok u ρ1 => rw [hp] at h; exact ⟨ρ1, rfl, h⟩
  | exc c x ρ1 => rw [hp] at h; cases h
  | bad => rw [hp] at h; cases h
/-- a store leaves what waits -/
theorem VR.put {K : PySem.W.Frag} {e : Ent τ} {F H : Hp} {ρ ρ' : Env} {σ : L2.St} {i : Nat} {v w : V} {x y : Val} (h : VR K e F H ρ σ w y) (hp : putV ρ i x = .ok () ρ') (hd : isF x = true → isF y = true → w ≠ v) (hv : i < σ.length) : VR K e F H ρ' (σ.set i (some v)) w y := by
  cases y with
  | pv d => exact h
  | fr ys =>
    obtain ⟨q, us, rfl, q1, q2, q3, q4, q5, q6, q7⟩ := h
    refine ⟨q, us, rfl, q1, q2, q3, q4, q5, q6, fun j s hs hm => ?_⟩
    unfold putV at hp
    split at hp
    · cases hp
      by_cases hj : i = j
      · subst hj
        rw [List.getElem?_set_self hv]
        intro z
        cases x with
        | pv d =>
          have hl : i < ρ.length := by
            have := (List.getElem?_eq_some_iff.mp hs).1
            rwa [List.length_set] at this
          rw [List.getElem?_set_self hl] at hs
          cases hs
          cases hm
        | fr xs => exact hd rfl rfl (Option.some.inj (Option.some.inj z)).symm
      · rw [List.getElem?_set_ne hj] at hs ⊢
        exact q7 j s hs hm
    · cases hp
theorem VRs.put {K : PySem.W.Frag} {e : Ent τ} {F H : Hp} {ρ ρ' : Env} {σ : L2.St} {i : Nat} {v : V} {x : Val} (hp : putV ρ i x = .ok () ρ') (hv : i < σ.length) : ∀ {ws : List V} {ys : List Val}, VRs K e F H ρ σ ws ys → (isF x = true → ∀ (j : Nat) y, ys[j]? = some y → isF y = true → ws[j]? ≠ some v) → VRs K e F H ρ' (σ.set i (some v)) ws ys
  | [], [], _, _ => trivial
  | w :: ws, y :: ys, ⟨h1, h2, h3⟩, hd => ⟨h1.put hp (fun e1 e2 z => hd e1 0 y rfl e2 (congrArg some z)) hv, VRs.put hp hv h2 (fun e1 j z e2 e3 => hd e1 (j + 1) z e2 e3), h3⟩
theorem ps_par2' {i j : Nat} {ev : Env → R (List Val)} (hl : LenIs ev 2) (h : PS X st (tPar i j (tVs X.K xa W ev))) : PS X st (tS X.K xa W fun ρ => (ev ρ).toS fun ds ρ => toNx (putVs ρ [i, j] ds)) := by
  refine ps_weak h fun D σ H ⟨e, F, ρ, ef, rel, post⟩ => ⟨e, F, ρ, rel, (post_len hl (PostS.toS post)).imp fun ds ρ1 F1 H1 ex1 rel1 ⟨hln, q⟩ vs hvs => ?_⟩
  match ds, hln, vs, hvs with
  | [d1, d2], _, [v1, v2], ⟨r1, r2, n1⟩ =>
    obtain ⟨ρ2, hp, q⟩ := par_put (H := H1) q
    obtain ⟨ρa, h1, hp⟩ := put_cons hp
    obtain ⟨ρb, h2, hp⟩ := put_cons hp
    cases hp
    obtain ⟨relA, lA⟩ := rel1.put r1 h1
    have r2 := VRs.put h1 lA r2 n1
    obtain ⟨relB, lB⟩ := relA.put r2.1 h2
    exact ⟨_, _, rfl, q F1 H1 _ (Ex.refl _) relB⟩
theorem ps_par3' {i j l : Nat} {ev : Env → R (List Val)} (hl : LenIs ev 3) (h : PS X st (tPar3 i j l (tVs X.K xa W ev))) : PS X st (tS X.K xa W fun ρ => (ev ρ).toS fun ds ρ => toNx (putVs ρ [i, j, l] ds)) := by
  refine ps_weak h fun D σ H ⟨e, F, ρ, ef, rel, post⟩ => ⟨e, F, ρ, rel, (post_len hl (PostS.toS post)).imp fun ds ρ1 F1 H1 ex1 rel1 ⟨hln, q⟩ vs hvs => ?_⟩
  match ds, hln, vs, hvs with
  | [d1, d2, d3], _, [v1, v2, v3], ⟨r1, r2, n1⟩ =>
    obtain ⟨ρ2, hp, q⟩ := par_put (H := H1) q
    obtain ⟨ρa, h1, hp⟩ := put_cons hp
    obtain ⟨ρb, h2, hp⟩ := put_cons hp
    obtain ⟨ρc, h3, hp⟩ := put_cons hp
    cases hp
    obtain ⟨relA, lA⟩ := rel1.put r1 h1
    obtain ⟨r2, r3, n2⟩ := VRs.put h1 lA r2 n1
    obtain ⟨relB, lB⟩ := relA.put r2 h2
    have r3 := VRs.put h2 lB r3 n2
    obtain ⟨relC, lC⟩ := relB.put r3.1 h3
    exact ⟨_, _, _, rfl, q F1 H1 _ (Ex.refl _) relC⟩
/-- x += e -/
theorem ps_aug' {i : Nat} {o : BOp} {f : Int → Int → Int} (h : PS X st (tAug i (tD X.K xa W fun ρ => dd (ev ρ)) (ipI f))) (hf : ∀ x y z, augD o x y = some z → ∃ a b, x = .int a ∧ y = .int b ∧ z = .int (f a b)) :
    PS X st (tS X.K xa W fun ρ => ((lookV ρ i).bind fun x ρ => bindD (ev ρ) fun y ρ => R.ofO (augD o x y) ρ).toS fun z ρ => toNx (putD ρ i z)) := by
  refine ps_weak h fun D σ H ⟨e, F, ρ, ef, rel, post⟩ => ?_
  have post := PostS.toS (σ := σ) post
  obtain ⟨s, hs, hn, post⟩ := lookV_some post
  obtain ⟨v, hv, pk⟩ := rel.look hs hn
  simp only [bindD_dd] at post
  refine ⟨v, hv, e, F, ρ, rel, (Post.bind post).imp fun dy ρ1 F1 H1 ex1 rel1 q y hy => ?_⟩
  obtain ⟨z, hz, q2⟩ := q.ofO
  obtain ⟨a, b, h1, rfl, rfl⟩ := hf _ _ _ hz
  rw [h1] at pk
  refine ⟨a, b, (pk.plain fun ys z => nomatch z).int_inv, hy.int_inv, ?_⟩
  have q3 := q2 F1 H1 (Ex.refl _) rel1
  have q3 : PostS X.K xa W e F1 D (toNx (putV ρ1 i (.pv (.int (f a b))))) := q3
  cases hp : putV ρ1 i (.pv (.int (f a b))) with
  | ok u ρ2 =>
    rw [hp] at q3
    exact q3 F1 H1 _ (Ex.refl _) (rel1.put (x := .pv (.int (f a b))) (.int _) hp).1
  | exc c y ρ2 => rw [hp] at q3; unfold putV at hp; split at hp <;> cases hp
  | bad => rw [hp] at q3; exact q3.elim
end
end Pv

namespace Pv
open PySem L2 PyProof.Rows
section
variable {X : Cx} {a b c : Expr} {st : Stmt} {sts : List Stmt} {xa : XAt τ} {W : WX} {p pos : Pos} {ev eb : Env → R Val} {el : Env → R (List D)} {t : TE}
theorem own_at {K : PySem.W.Frag} {e : Ent τ} {F H : Hp} {ρ : Env} {σ : L2.St} {i : Nat} {xs : List D} (rel : Rel K e F H ρ σ) (hi : ioArg ρ i = some xs) : ∃ s p us, ρ[i]? = some (some s) ∧ (s = .own xs ∨ s = .io xs) ∧ σ[i]? = some (some (.ref p)) ∧ H p = some (.lst us) ∧ Reps K F us xs := by
  rcases ioArg_some hi with hs | hs
  · obtain ⟨v, hv', p, us, rfl, q1, q2, q3, _⟩ := rel.slot i _ hs
    exact ⟨_, p, us, hs, .inl rfl, hv', q2, q3⟩
  · obtain ⟨v, hv', p, us, rfl, q1, q2, q3, _⟩ := rel.slot i _ hs
    exact ⟨_, p, us, hs, .inr rfl, hv', q2, q3⟩
/-- x.append(e) -/
theorem ps_app' {i : Nat} (h : PS X st (tDrop (tBM X.K "list" rAppend (tVar i) (tCons (tD X.K xa W fun ρ => dd (ev ρ)) tNil)))) :
    PS X st (tS X.K xa W fun ρ => (R.ofO (ioArg ρ i) ρ).toS fun _ ρ => (dd (ev ρ)).toS fun y ρ => addX ρ i y) := by
  refine ps_weak h fun D σ H ⟨e, F, ρ, ef, rel, post⟩ => ?_
  have post : PostS X.K xa W e F D ((R.ofO (ioArg ρ i) ρ).toS fun _ ρ => (dd (ev ρ)).toS fun y ρ => addX ρ i y) := post
  cases hi : ioArg ρ i with
  | none => rw [hi] at post; exact post.elim
  | some xs0 =>
    rw [hi] at post
    have post : PostS X.K xa W e F D ((dd (ev ρ)).toS fun y ρ => addX ρ i y) := post
    obtain ⟨s, q, us, hs, hss, hσ, hH, hR⟩ := own_at rel hi
    refine ⟨_, hσ, .inl ⟨rfl, us, .inl (.inl hH)⟩, e, F, ρ, rel, (PostS.toS post).imp fun dy ρ1 F1 H1 ex1 rel1 q2 y hy => ?_⟩
    have fin : ∀ (xs : List PyData) (s' : Slot), ioArg ρ1 i = some xs → xs.length < LIM → ((ρ1[i]? = some (some (.own xs)) ∧ s' = .own (xs ++ [dy])) ∨ (ρ1[i]? = some (some (.io xs)) ∧ s' = .io (xs ++ [dy]))) → PostS X.K xa W e F1 D (.nx (ρ1.set i (some s'))) → rAppend (.ref q) [y] H1 fun _ H2 => D.nx σ H2 := fun xs s' hi1 hl hc q3 => by
      obtain ⟨s1, p1, us1, hs1, hss1, hσ1, hH1, hR1⟩ := own_at rel1 hi1
      rw [hσ] at hσ1
      cases hσ1
      refine ⟨q, us1, y, rfl, rfl, hH1, by rw [hR1.length]; exact lim_lt hl, ?_⟩
      refine q3 F1 _ σ (Ex.refl _) (rel1.write (s := s1) (s' := s') (xs' := xs ++ [dy]) hs1 ?_ hσ (hR1.append (.cons hy .nil)))
      rcases hc with ⟨h1, h2⟩ | ⟨h1, h2⟩
      · rw [h1] at hs1; cases hs1; exact .inl ⟨xs, rfl, h2⟩
      · rw [h1] at hs1; cases hs1; exact .inr ⟨xs, rfl, h2⟩
    unfold addX at q2
    split at q2
    · rename_i xs hs1
      split at q2
      · rename_i hl
        exact fin xs _ (by unfold ioArg; rw [hs1]) hl (.inl ⟨hs1, rfl⟩) q2
      · exact q2.elim
    · rename_i xs hs1
      split at q2
      · rename_i hl
        exact fin xs _ (by unfold ioArg; rw [hs1]) hl (.inr ⟨hs1, rfl⟩) q2
      · exact q2.elim
    · exact q2.elim
/-- x[i] = e -/
theorem ps_set' {i : Nat} {tge : Expr} (he : PE X a (tV X.K xa W ev)) (hg : PG X tge (gSub (tVar i) (tD X.K xa W fun ρ => dd (eb ρ)) rSetL)) (hs : swapsWithSole [tge] a pos.line X.env = pure false) (hw : swappedStores [tge] a X.env = pure none) (h1 : (assignEach [tge] X.env).map (·.2) = [assign tge X.env]) :
    PS X (.Assign [tge] a pos) (tS X.K xa W fun ρ => (bindD (ev ρ) fun d ρ => (lookV ρ i).bind fun _ ρ => bindD (eb ρ) fun j ρ => R.ok (d, j) ρ).toS fun p ρ => putX ρ i p.2 p.1) := by
  refine ps_weak (ps_asg (pe_toD he) hg hs hw h1) fun D σ H ⟨e, F, ρ, ef, rel, post⟩ => ⟨e, F, ρ, rel, ?_⟩
  have post := PostS.toS (σ := σ) post
  simp only [bindD_dd] at post
  refine (Post.bind post).imp fun dv ρ1 F1 H1 ex1 rel1 q v hv => ?_
  obtain ⟨s, hs1, hn1, q⟩ := lookV_some q
  obtain ⟨o, ho, _⟩ := rel1.look hs1 hn1
  refine ⟨o, ho, e, F1, ρ1, rel1, (Post.bind q).imp fun dj ρ2 F2 H2 ex2 rel2 q2 j hj => ?_⟩
  have q2 : PostS X.K xa W e F2 D (putX ρ2 i dj dv) := q2 F2 H2 (Ex.refl _) rel2
  have fin : ∀ (xs ys : List PyData) (s s' : Slot) (k : Int), ρ2[i]? = some (some s) → (s = .own xs ∧ s' = .own ys ∨ s = .io xs ∧ s' = .io ys) → dj = .int k → setAt? xs k dv = some ys → PostS X.K xa W e F2 D (.nx (ρ2.set i (some s'))) → rSetL o j v H2 fun H3 => D.nx σ H3 := fun xs ys s s' k hs2 hss hk hset q3 => by
    have hi : ioArg ρ2 i = some xs := by
      unfold ioArg
      rw [hs2]
      rcases hss with ⟨rfl, _⟩ | ⟨rfl, _⟩ <;> rfl
    obtain ⟨s1, p1, us1, hs3, hss1, hσ1, hH1, hR1⟩ := own_at rel2 hi
    rw [ho] at hσ1
    cases hσ1
    unfold setAt? at hset
    obtain ⟨m, hm, rfl⟩ := Option.map_eq_some_iff.mp hset
    subst hk
    refine ⟨p1, us1, k, m, rfl, hj.int_inv, hH1, by rw [hR1.length]; exact hm, ?_⟩
    refine q3 F2 _ σ (Ex.refl _) (rel2.write (s := s) (s' := s') (xs' := xs.set m dv) hs2 ?_ ho (hR1.set m (hv.mono ex2)))
    rcases hss with ⟨h1, h2⟩ | ⟨h1, h2⟩
    · exact .inl ⟨xs, h1, h2⟩
    · exact .inr ⟨xs, h1, h2⟩
  unfold putX at q2
  split at q2
  · rename_i xs k hs2 _
    split at q2
    · rename_i ys hy
      exact fin xs ys _ _ k hs2 (.inl ⟨rfl, rfl⟩) rfl hy q2
    · exact q2.elim
  · rename_i xs k hs2 _
    split at q2
    · rename_i ys hy
      exact fin xs ys _ _ k hs2 (.inr ⟨rfl, rfl⟩) rfl hy q2
    · exact q2.elim
  · exact q2.elim
/-- while -/
theorem ps_whl' {ec : Env → R Bool} {es : Env → SR} {body : List Stmt} (hp : PassesOwn (model X.prog X.w) X.A X.env X.xe) (hc : PT X c (tBo X.K xa W ec)) (hb : PSs X body (tS X.K xa W es)) : PS X (.While c body [] pos) (tS X.K xa W fun ρ => whl ec es ρ) := by
  refine ps_weak (ps_while hp hc hb) fun D σ H ⟨e, F, ρ, ef, rel, post⟩ => ?_
  have post : PostS X.K xa W e F D (whl ec es ρ) := post
  have hne : whl ec es ρ ≠ .bad := fun z => by rw [z] at post; exact post
  obtain ⟨n, hn⟩ := whl_ends hne
  refine ⟨fun m σ' H' => ∃ F' ρ' r, Ex F F' ∧ Rel X.K e F' H' ρ' σ' ∧ whlF ec es m ρ' = some r ∧ PostS X.K xa W e F' D r, ⟨n, F, ρ, _, Ex.refl F, rel, hn, post⟩, fun m σ' H' ⟨F', ρ', r, ex, rel', hr, post'⟩ => ?_⟩
  cases m with
  | zero => cases hr
  | succ m =>
    unfold whlF at hr
    refine ⟨e, F', ρ', rel', ?_⟩
    cases he : ec ρ' with
    | bad => rw [he] at hr; cases hr; exact post'.elim
    | exc c x ρ1 =>
      rw [he] at hr
      cases hr
      exact fun F1 H1 d ex1 rel1 => post' F1 H1 σ' d ex1 rel1
    | ok b ρ1 =>
      rw [he] at hr
      intro F1 H1 ex1 rel1
      cases b with
      | false =>
        cases hr
        exact iteF (post' F1 H1 σ' ex1 rel1)
      | true =>
        refine iteT ⟨fun σ2 H2 => ∃ F2 ρ2 r, Ex F F2 ∧ Rel X.K e F2 H2 ρ2 σ2 ∧ whlF ec es m ρ2 = some r ∧ PostS X.K xa W e F2 D r, fun σ2 H2 h => ⟨m, by omega, h⟩, e, F1, ρ1, ef, rel1, ?_⟩
        cases hs : es ρ1 with
        | nx ρ2 => simp only [hs] at hr; exact fun F2 H2 σ2 ex2 rel2 => ⟨F2, ρ2, r, (ex.trans ex1).trans ex2, rel2, hr, PostS.weak (ex1.trans ex2) post'⟩
        | ct ρ2 => simp only [hs] at hr; exact fun F2 H2 σ2 ex2 rel2 => ⟨F2, ρ2, r, (ex.trans ex1).trans ex2, rel2, hr, PostS.weak (ex1.trans ex2) post'⟩
        | brk ρ2 => simp only [hs] at hr; cases hr; exact fun F2 H2 σ2 ex2 rel2 => post' F2 H2 σ2 (ex1.trans ex2) rel2
        | ret x ρ2 => simp only [hs] at hr; cases hr; exact fun F2 H2 σ2 v ex2 rel2 => post' F2 H2 σ2 v (ex1.trans ex2) rel2
        | exc c x ρ2 =>
          simp only [hs] at hr
          cases hr
          exact fun F2 H2 σ2 d ex2 rel2 => post' F2 H2 σ2 d (ex1.trans ex2) rel2
        | bad => simp only [hs] at hr; cases hr; exact post'.elim
theorem yl_rel {e : Ent τ} {F H H' : Hp} {ρ : Env} {σ : L2.St} {x : V} {d : D} (rel : Rel X.K e F H ρ σ) (y : Yl X.K F H x H' d) : ∃ F', Ex F F' ∧ Rel X.K e F' H' ρ σ ∧ Rep X.K F' x d := by
  rcases y with ⟨rfl, h⟩ | ⟨T, us, ds, rfl, hT, rfl, rfl, h⟩
  · exact ⟨F, Ex.refl F, rel, h⟩
  · have hF := rel.noneF hT
    exact ⟨_, Ex.new hF, rel.new hT, .tup (.inl (.inl upd_same)) (Reps.mono (Ex.new hF) h)⟩
/-- for -/
theorem ps_for' {tg : Tg} {tge it : Expr} {body : List Stmt} {es : Env → SR} (hp : PassesOwn (model X.prog X.w) X.A X.env X.xe) (hc : X.calm = true) (hi : PI X tge it (tI X.K xa W el)) (hg : PG X tge (tG τ X.K tg)) (hb : PSs X body (tS X.K xa W es)) (hs : ∀ x, foldedSetIterable it X.env x = pure x) :
    PS X (.For tge it body [] pos) (tS X.K xa W fun ρ => (el ρ).toS fun xs ρ => forGo (fun x ρ => (putT ρ tg x).toS fun _ ρ => es ρ) xs ρ) := by
  refine ps_weak (ps_for hp hc hi hg hb hs) fun D σ H ⟨e, F, ρ, ef, rel, post⟩ => ⟨e, F, ρ, rel, (PostS.toS post).imp fun ds ρ1 F1 H1 ex1 rel1 q J hJ => ?_⟩
  refine ⟨fun i m σ' H' => m = ds.length - i ∧ i ≤ ds.length ∧ ∃ F' ρ', Ex F1 F' ∧ Rel X.K e F' H' ρ' σ' ∧ PostS X.K xa W e F' D (forGo (fun x ρ => (putT ρ tg x).toS fun _ ρ => es ρ) (ds.drop i) ρ'), ⟨ds.length, by simp, Nat.zero_le _, F1, ρ1, Ex.refl _, rel1, by simpa using q⟩, ?_⟩
  rintro i m σ' H' ⟨rfl, hi, F', ρ', ex, rel', post'⟩
  by_cases hlt : i < ds.length
  · have hd : ds[i]? = some ds[i] := List.getElem?_eq_getElem hlt
    obtain ⟨hgo, hy⟩ := hJ.1 i ds[i] H' hd (ex.trans rel'.sub)
    refine .inr ⟨hgo, fun σ2 H2 => ∃ F2 ρ2, Ex F1 F2 ∧ Rel X.K e F2 H2 ρ2 σ2 ∧ PostS X.K xa W e F2 D (forGo (fun x ρ => (putT ρ tg x).toS fun _ ρ => es ρ) (ds.drop (i + 1)) ρ2), fun σ2 H2 ⟨F2, ρ2, a1, a2, a3⟩ => ⟨ds.length - (i + 1), by omega, rfl, hlt, F2, ρ2, a1, a2, a3⟩, fun x H2 hx => ?_⟩
    have yl : Yl X.K F' H' x H2 ds[i] := by
      rcases hy x H2 hx with ⟨h1, h2⟩ | ⟨T, us, zs, h1, h2, h3, h4, h5⟩
      · exact .inl ⟨h1, h2.mono ex⟩
      · exact .inr ⟨T, us, zs, h1, h2, h3, h4, Reps.mono ex h5⟩
    obtain ⟨F2, ex2, rel2, rep⟩ := yl_rel rel' yl
    rw [List.drop_eq_getElem_cons hlt] at post'
    have post2 := PostS.weak ex2 post'
    unfold forGo at post2
    have pd : PostS X.K xa W e F2 { D with nx := fun σ2 H2 => ∃ F2 ρ2, Ex F1 F2 ∧ Rel X.K e F2 H2 ρ2 σ2 ∧ PostS X.K xa W e F2 D (forGo (fun x ρ => (putT ρ tg x).toS fun _ ρ => es ρ) (ds.drop (i + 1)) ρ2), ct := fun σ2 H2 => ∃ F2 ρ2, Ex F1 F2 ∧ Rel X.K e F2 H2 ρ2 σ2 ∧ PostS X.K xa W e F2 D (forGo (fun x ρ => (putT ρ tg x).toS fun _ ρ => es ρ) (ds.drop (i + 1)) ρ2), bk := D.nx } ((putT ρ' tg ds[i]).toS fun _ ρ => es ρ) := by
      cases hr : (putT ρ' tg ds[i]).toS fun _ ρ => es ρ with
      | nx ρ3 => simp only [hr] at post2; exact fun F3 H3 σ3 ex3 rel3 => ⟨F3, ρ3, (ex.trans ex2).trans ex3, rel3, PostS.weak ex3 post2⟩
      | ct ρ3 => simp only [hr] at post2; exact fun F3 H3 σ3 ex3 rel3 => ⟨F3, ρ3, (ex.trans ex2).trans ex3, rel3, PostS.weak ex3 post2⟩
      | brk ρ3 => simp only [hr] at post2; exact post2
      | ret x ρ3 => simp only [hr] at post2; exact post2
      | exc c x ρ3 =>
        simp only [hr] at post2
        exact post2
      | bad => simp only [hr] at post2; exact post2
    exact tG_of rel2 rep pd fun ρ3 σ3 _ rel3 q3 => ⟨e, F2, ρ3, ef, rel3, q3⟩
  · have e1 : i = ds.length := by omega
    subst e1
    rw [List.drop_length] at post'
    exact .inl ⟨hJ.2 H' (ex.trans rel'.sub), post' F' H' σ' (Ex.refl _) rel'⟩
/-! ### raise -/
theorem pmk_own0 {C : Addr} {bmB : List Value} {B newId initId : String} {x : Str} {p pos : Pos} (F : ExcBaseFacts B newId initId bmB) (q : PySem.W.excIn X.K C bmB newId = true) (gC : X.mg x = some (.ref C)) (kC : PySem.W.keepIn X.K (.ref C) = true) (r : Raises X (.ref C)) (hg : Gl X x)
    (hdb : (x == ("__debug__" : Str)) = false) : PMk X (.Call (.Name x p) [] [] pos) (fun _ H Q => Q (.ref C) none H) := by
  intro pins s σ H Q I h
  refine wpAny_Call_Name_kw (ld_glob I hg gC ?_ hdb)
  refine PySem.W.callWith_K0 I.kIn kC ?_
  show wpAny _ _ (call (.ref C) []) _ _ _
  obtain ⟨bm, N, nm, qn, bs, hdct, sn, sub, ab, col, dd, k0, k1, k2, k3, k5, mN, hC, hN, hni, T⟩ := exc_obj I.kIn q
  refine wpAny_call_exc_subT F T hC hN hni (fun h' e hm => ?_) (Nat.zero_le _)
  exact mk_of I hm r h (I.hok.gone hm.new)
theorem ps_raise0 {c : Nat} (hc : X.calm = true) (tk : Takes X W) (h : PMk X a (fun _ H Q => Q (.ref (xa c)) none H)) : PS X (.Raise (some a) none pos) (tS X.K xa W fun ρ => .exc c none ρ) :=
  ps_weak (ps_raise hc tk h) fun D σ H ⟨e, F, ρ, ef, rel, post⟩ => post F H σ none (Ex.refl F) rel rfl
theorem ps_bad {ev : Env → SR} (h : ∀ ρ, ev ρ = .bad) : PS X st (tS X.K xa W ev) := ps_weak ps_never fun D σ H ⟨e, F, ρ, ef, rel, post⟩ => by rw [h ρ] at post; exact post
end

/-! ### list comprehensions -/
theorem wipe_get {σ : L2.St} {i : Nat} : ∀ {is : List Nat}, i ∉ is → (wipe σ is)[i]? = σ[i]?
  | [], _ => rfl
  | j :: is, h => by
    unfold wipe
    rw [List.getElem?_set_ne (fun z => h (by rw [z]; exact List.mem_cons_self))]
    exact wipe_get fun z => h (List.mem_cons_of_mem _ z)
theorem wipeE_len (ρ : Env) : ∀ is : List Nat, (wipeE ρ is).length = ρ.length
  | [] => rfl
  | j :: is => by unfold wipeE; rw [List.length_set, wipeE_len ρ is]
theorem wipeE_get {ρ : Env} {i : Nat} : ∀ {is : List Nat}, i ∉ is → (wipeE ρ is)[i]? = ρ[i]?
  | [], _ => rfl
  | j :: is, h => by
    unfold wipeE
    rw [List.getElem?_set_ne (fun z => h (by rw [z]; exact List.mem_cons_self))]
    exact wipeE_get fun z => h (List.mem_cons_of_mem _ z)
theorem wipeE_some {ρ : Env} {i : Nat} {s : Slot} : ∀ {is : List Nat}, (wipeE ρ is)[i]? = some (some s) → i ∉ is
  | [], _ => fun h => nomatch h
  | j :: is, h => by
    unfold wipeE at h
    by_cases hj : j = i
    · subst hj
      cases hi : (wipeE ρ is)[j]? with
      | none =>
        have : (wipeE ρ is).length ≤ j := List.getElem?_eq_none_iff.mp hi
        rw [List.getElem?_eq_none (by rw [List.length_set]; exact this)] at h
        cases h
      | some t =>
        rw [List.getElem?_set_self (List.getElem?_eq_some_iff.mp hi).1] at h
        cases h
    · rw [List.getElem?_set_ne hj] at h
      intro z
      rcases List.mem_cons.mp z with z | z
      · exact hj z.symm
      · exact wipeE_some h z
theorem backE_len (ρ ρ' : Env) : ∀ is : List Nat, (backE ρ ρ' is).length = ρ'.length
  | [] => rfl
  | j :: is => by unfold backE; rw [List.length_set, backE_len ρ ρ' is]
theorem backE_out {ρ ρ' : Env} {i : Nat} : ∀ {is : List Nat}, i ∉ is → (backE ρ ρ' is)[i]? = ρ'[i]?
  | [], _ => rfl
  | j :: is, h => by
    unfold backE
    rw [List.getElem?_set_ne (fun z => h (by rw [z]; exact List.mem_cons_self))]
    exact backE_out fun z => h (List.mem_cons_of_mem _ z)
theorem backE_in {ρ ρ' : Env} {i : Nat} (hi : i < ρ'.length) : ∀ {is : List Nat}, i ∈ is → (backE ρ ρ' is)[i]? = some (ρ.getD i none)
  | [], h => nomatch h
  | j :: is, h => by
    unfold backE
    by_cases hj : j = i
    · subst hj
      rw [List.getElem?_set_self (by rw [backE_len]; exact hi)]
    · rw [List.getElem?_set_ne hj]
      exact backE_in hi ((List.mem_cons.mp h).resolve_left fun z => hj z.symm)
/-- the block's own beginning -/
def entB {τ : Tls} (e : Ent τ) (F H : Hp) (ρ : Env) (σ : L2.St) : Ent τ := ⟨F, H, fun a => (∃ (i : Nat) (s : Slot), ρ[i]? = some (some s) ∧ s.isM = true ∧ σ[i]? = some (some (.ref a))) ∨ e.pI = some a, e.pI⟩
section
variable {τ : Tls} {K : PySem.W.Frag} {e : Ent τ} {F F' H H' : Hp} {ρ ρ' : Env} {σ : L2.St} {is : List Nat}
theorem plain_at (h : plainAt ρ is = true) {i : Nat} (hi : i ∈ is) {s : Slot} (hs : ρ[i]? = some (some s)) : ∃ d, s = .v d := by
  have := List.all_eq_true.mp h i hi
  rw [hs] at this
  cases s with
  | v d => exact ⟨d, rfl⟩
  | _ => cases this
theorem Rel.block (r : Rel K e F H ρ σ) (hp : plainAt ρ is = true) : Rel K (entB e F H ρ σ) F H (wipeE ρ is) (wipe σ is) := by
  refine ⟨by rw [wipeE_len, wipe_length]; exact r.len, Ex.refl F, r.sub, fun i s hs => ?_, fun i j s t p hij h1 h2 m1 m2 hσ => ?_, fun a o h _ _ => h, fun a h _ _ => h, fun p hm => ?_, fun p hm => .inr hm, r.tab, r.nt⟩
  · have hn := wipeE_some hs
    rw [wipeE_get hn] at hs
    obtain ⟨v, hv, q⟩ := r.slot i s hs
    refine ⟨v, by rw [wipe_get hn]; exact hv, ?_⟩
    cases s with
    | v d => exact q
    | own xs =>
      obtain ⟨b, us, rfl, q1, q2, q3, q4, q5⟩ := q
      exact ⟨b, us, rfl, q1, q2, q3, .inl (.inl ⟨i, _, hs, rfl, hv⟩), q5⟩
    | io xs =>
      obtain ⟨b, us, rfl, q1, q2, q3, q4, q5⟩ := q
      exact ⟨b, us, rfl, q1, q2, q3, .inr q5, q5⟩
    | fz xs => exact q
    | raw xs => exact q
    | xc a => exact q
  · have n1 := wipeE_some h1
    have n2 := wipeE_some h2
    rw [wipeE_get n1] at h1
    rw [wipeE_get n2] at h2
    rw [wipe_get n1] at hσ
    rw [wipe_get n2]
    exact r.dis i j s t p hij h1 h2 m1 m2 hσ
  · rcases hm with ⟨i, s, hs, hm, hσ⟩ | hm
    · obtain ⟨v, hv, q⟩ := r.slot i s hs
      rw [hσ] at hv
      cases hv
      cases s with
      | v d => cases hm
      | own xs => obtain ⟨b, us, eb, _, q2, _⟩ := q; cases eb; exact ⟨us, q2⟩
      | io xs => obtain ⟨b, us, eb, _, q2, _⟩ := q; cases eb; exact ⟨us, q2⟩
      | fz xs => cases hm
      | raw xs => cases hm
      | xc a => cases hm
    · exact r.mh p (r.pm p hm)
theorem entB_M (r : Rel K e F H ρ σ) {p : Addr} (hm : (entB e F H ρ σ).M p) : e.M p ∨ NT e.H0 p := by
  rcases hm with ⟨i, s, hs, hm, hσ⟩ | hm
  · obtain ⟨v, hv, q⟩ := r.slot i s hs
    rw [hσ] at hv
    cases hv
    cases s with
    | v d => cases hm
    | own xs => obtain ⟨b, us, eb, _, q2, _, q4, _⟩ := q; cases eb; exact q4
    | io xs => obtain ⟨b, us, eb, _, q2, _, q4, _⟩ := q; cases eb; exact .inl q4
    | fz xs => cases hm
    | raw xs => cases hm
    | xc a => cases hm
  · exact .inl (r.pm p hm)
theorem Rel.back (r : Rel K e F H ρ σ) (hp : plainAt ρ is = true) {σ2 : L2.St} (hσ : Chg is (wipe σ is) σ2) (r' : Rel K (entB e F H ρ σ) F' H' ρ' σ2) : Rel K e F' H' (backE ρ ρ' is) σ := by
  have exF : Ex F F' := r'.sub0
  have l' : ρ'.length = σ.length := by rw [r'.len, hσ.1, wipe_length]
  have notM : ∀ a o, e.H0 a = some o → (∀ ps, o ≠ .tbl ps) → ¬ e.M a → ¬ (entB e F H ρ σ).M a := fun a o h1 ho h2 hm => by
    rcases entB_M r hm with h | h
    · exact h2 h
    · exact NT.not_some h1 ho h
  have place : ∀ (i : Nat) (s : Slot), (backE ρ ρ' is)[i]? = some (some s) → (i ∈ is ∧ ρ[i]? = some (some s)) ∨ (i ∉ is ∧ ρ'[i]? = some (some s)) := fun i s h => by
    by_cases hi : i ∈ is
    · have hl : i < ρ'.length := by
        have := (List.getElem?_eq_some_iff.mp h).1
        rwa [backE_len] at this
      rw [backE_in hl hi] at h
      refine .inl ⟨hi, ?_⟩
      have hl2 : i < ρ.length := by rw [r.len, ← l']; exact hl
      rw [List.getD_eq_getElem?_getD, List.getElem?_eq_getElem hl2] at h
      rw [List.getElem?_eq_getElem hl2]
      exact h
    · rw [backE_out hi] at h
      exact .inr ⟨hi, h⟩
  refine ⟨by rw [backE_len]; exact l', r.sub0.trans exF, r'.sub, fun i s hs => ?_, fun i j s t p hij h1 h2 m1 m2 hv => ?_, fun a o h1 ho h2 => r'.frm a o (r.frm a o h1 ho h2) ho (notM a o h1 ho h2), fun a h1 h2 h3 => ?_, fun p hm => ?_, r.pm, r'.tab, r'.nt⟩
  · rcases place i s hs with ⟨hi, hs⟩ | ⟨hi, hs⟩
    · obtain ⟨d, rfl⟩ := plain_at hp hi hs
      obtain ⟨v, hv, q⟩ := r.slot i _ hs
      exact ⟨v, hv, Rep.mono exF q⟩
    · obtain ⟨v, hv, q⟩ := r'.slot i s hs
      rw [hσ.2 i hi, wipe_get hi] at hv
      refine ⟨v, hv, ?_⟩
      have conv : ∀ b, ((entB e F H ρ σ).M b ∨ NT (entB e F H ρ σ).H0 b) → (e.M b ∨ NT e.H0 b) := fun b h => h.elim (entB_M r) fun h => (r.none0' h).symm
      cases s with
      | v d => exact q
      | own xs =>
        obtain ⟨b, us, rfl, q1, q2, q3, q4, q5⟩ := q
        exact ⟨b, us, rfl, q1, q2, q3, conv b q4, q5⟩
      | io xs =>
        obtain ⟨b, us, rfl, q1, q2, q3, q4, q5⟩ := q
        exact ⟨b, us, rfl, q1, q2, q3, r.pm b q5, q5⟩
      | fz xs => exact q
      | raw xs => exact q
      | xc a => exact q
  · rcases place i s h1 with ⟨hi, h1⟩ | ⟨hi, h1⟩
    · obtain ⟨d, rfl⟩ := plain_at hp hi h1
      cases m1
    · rcases place j t h2 with ⟨hj, h2⟩ | ⟨hj, h2⟩
      · obtain ⟨d, rfl⟩ := plain_at hp hj h2
        cases m2
      · have := r'.dis i j s t p hij h1 h2 m1 m2 (by rw [hσ.2 i hi, wipe_get hi]; exact hv)
        rw [hσ.2 j hj, wipe_get hj] at this
        exact this
  · obtain ⟨o, h, ho⟩ := NT.not h2
    exact r'.old a (r.old a h1 h2 h3) (NT.not_some (r.frm a o h ho h3) ho) (notM a o h ho h3)
  · by_cases hM : (entB e F H ρ σ).M p
    · exact r'.mh p hM
    · obtain ⟨us, h⟩ := r.mh p hm
      exact ⟨us, r'.frm p _ h (fun _ z => nomatch z) hM⟩
end
end Pv

namespace Pv
open PySem L2 PyProof.Rows
section
variable {X : Cx} {a b c : Expr} {xa : XAt τ} {W : WX} {p pos : Pos}
def WF : WX := fun _ _ _ _ => False
theorem set_ext {σ σ' : L2.St} (hl : σ'.length = σ.length) {v : Nat} (h : ∀ j, j ≠ v → σ'[j]? = σ[j]?) : σ'.set v none = σ.set v none := by
  apply List.ext_getElem?
  intro j
  by_cases hj : v = j
  · subst hj
    by_cases hv : v < σ.length
    · rw [List.getElem?_set_self hv, List.getElem?_set_self (by rw [hl]; exact hv)]
    · rw [List.getElem?_eq_none (by rw [List.length_set]; omega), List.getElem?_eq_none (by rw [List.length_set]; omega)]
  · rw [List.getElem?_set_ne hj, List.getElem?_set_ne hj]
    exact h j (Ne.symm hj)
theorem wipe_get2 {σ : L2.St} {i : Nat} : ∀ {is : List Nat}, i ∈ is → (wipe σ is)[i]? = if i < σ.length then some none else none
  | [], h => nomatch h
  | j :: is, h => by
    unfold wipe
    by_cases hj : j = i
    · subst hj
      by_cases hi : j < σ.length
      · rw [List.getElem?_set_self (by rw [wipe_length]; exact hi), if_pos hi]
      · rw [List.getElem?_eq_none (by rw [List.length_set, wipe_length]; omega), if_neg hi]
    · rw [List.getElem?_set_ne hj]
      exact wipe_get2 ((List.mem_cons.mp h).resolve_left fun z => hj z.symm)
theorem wipe_chg {σ σ2 : L2.St} {is : List Nat} (h : Chg is (wipe σ is) σ2) : wipe σ2 is = wipe σ is := by
  have hl : σ2.length = σ.length := by rw [h.1, wipe_length]
  apply List.ext_getElem?
  intro j
  by_cases hj : j ∈ is
  · rw [wipe_get2 hj, wipe_get2 hj, hl]
  · rw [wipe_get hj, h.2 j hj]
theorem Rel.apartOld {τ : Tls} {K : PySem.W.Frag} {e : Ent τ} {F H : Hp} {ρ : Env} {σ : L2.St} {q : Addr} (r : Rel K e F H ρ σ) (h0 : ¬ NT e.H0 q) (hM : ¬ e.M q) (hI : e.pI ≠ some q) : Apart ρ σ q := fun i s hs hm hσ => by
  obtain ⟨v, hv, sl⟩ := r.slot i s hs
  rw [hσ] at hv
  cases hv
  cases s with
  | v d => cases hm
  | own xs =>
    obtain ⟨b, us, eb, _, _, _, q4, _⟩ := sl
    cases eb
    rcases q4 with q4 | q4
    · exact hM q4
    · exact h0 q4
  | io xs =>
    obtain ⟨b, us, eb, _, _, _, _, q5⟩ := sl
    cases eb
    exact hI q5
  | fz xs => cases hm
  | raw xs => cases hm
  | xc a => cases hm
theorem lcGo_cons {f : D → Env → R (Option D)} {x : D} {xs ys : List D} {ρ ρe : Env} (h : lcGo f (x :: xs) ρ = .ok ys ρe) : ∃ o ρ1 rest, f x ρ = .ok o ρ1 ∧ lcGo f xs ρ1 = .ok rest ρe ∧ ys = consO o rest := by
  have h : (f x ρ).bind (fun o ρ => (lcGo f xs ρ).bind fun r ρ => .ok (consO o r) ρ) = .ok ys ρe := h
  cases hf : f x ρ with
  | bad => rw [hf] at h; cases h
  | exc c x ρ1 => rw [hf] at h; cases h
  | ok o ρ1 =>
    rw [hf] at h
    have h : (lcGo f xs ρ1).bind (fun r ρ => .ok (consO o r) ρ) = .ok ys ρe := h
    cases hg : lcGo f xs ρ1 with
    | bad => rw [hg] at h; cases h
    | exc c x ρ1 => rw [hg] at h; cases h
    | ok r ρ2 => rw [hg] at h; cases h; exact ⟨o, ρ1, r, rfl, hg, rfl⟩
theorem lcTurn_ok {tg : Tg} {ev : Env → R (Option D)} {x : D} {ρ ρ' : Env} {o : Option D} (h : lcTurn tg ev x ρ = .ok o ρ') : plainAt ρ tg.slots = true ∧ ∃ ρ2 ρ3, putT (wipeE ρ tg.slots) tg x = .ok () ρ2 ∧ ev ρ2 = .ok o ρ3 ∧ ρ' = backE ρ ρ3 tg.slots := by
  unfold lcTurn at h
  split at h
  · rename_i hp
    refine ⟨hp, ?_⟩
    cases hq : putT (wipeE ρ tg.slots) tg x with
    | bad => rw [hq] at h; cases h
    | exc c x ρ1 => rw [hq] at h; cases h
    | ok u ρ2 =>
      rw [hq] at h
      have h : (ev ρ2).bind (fun o ρ3 => .ok o (backE ρ ρ3 tg.slots)) = .ok o ρ' := h
      cases he : ev ρ2 with
      | bad => rw [he] at h; cases h
      | exc c x ρ1 => rw [he] at h; cases h
      | ok o2 ρ3 => rw [he] at h; cases h; exact ⟨ρ2, ρ3, rfl, he, rfl⟩
  · cases h
theorem yl_rel2 {e : Ent τ} {F H H' : Hp} {ρ : Env} {σ : L2.St} {x : V} {d : D} (rel : Rel X.K e F H ρ σ) (y : Yl X.K F H x H' d) : ∃ F', Ex F F' ∧ Rel X.K e F' H' ρ σ ∧ Rep X.K F' x d ∧ Ex H H' ∧ ∀ q, H q ≠ none → F q = none → F' q = none := by
  rcases y with ⟨rfl, h⟩ | ⟨T, us, ds, rfl, hT, rfl, rfl, h⟩
  · exact ⟨F, Ex.refl F, rel, h, Ex.refl _, fun _ _ h => h⟩
  · have hF := rel.noneF hT
    refine ⟨_, Ex.new hF, rel.new hT, .tup (.inl (.inl upd_same)) (Reps.mono (Ex.new hF) h), Ex.new hT, fun q h1 h2 => ?_⟩
    rw [upd_ne (fun z => h1 (by rw [z]; exact hT))]
    exact h2
/-- the reading of a list comprehension -/
theorem lc_read {tg : Tg} {el : Env → R (List D)} {ec : Env → R Bool} {ev : Env → R Val} {σ : L2.St} {H : Hp} {Q : VK}
    (h : tV X.K xa W (fun ρ => (el ρ).bind fun xs ρ => lcEnd (lcGo (lcTurn tg fun ρ => (ec ρ).bind fun t ρ => iteR t (bindD (ev ρ) fun y ρ => .ok (some y) ρ) (.ok none ρ)) xs ρ)) σ H Q) :
    tLc (tI X.K xa W el) (tG τ X.K tg) (tBo X.K xa WF ec) (tD X.K xa WF fun ρ => dd (ev ρ)) tg.slots σ H Q := by
  obtain ⟨e, F, ρ, rel, post⟩ := h
  refine ⟨e, F, ρ, rel, (Post.bind post).imp fun xs ρ1 F1 H1 ex1 rel1 q J hJ Dl hD => ?_⟩
  generalize hf : (lcTurn tg fun ρ => (ec ρ).bind fun t ρ => iteR t (bindD (ev ρ) fun y ρ => .ok (some y) ρ) (.ok none ρ)) = f at q
  cases hr : lcGo f xs ρ1 with
  | bad => rw [hr] at q; exact q.elim
  | exc c x ρ2 => rw [hr] at q; exact q.elim
  | ok ys ρe =>
    rw [hr] at q
    have q : Post X.K xa W e σ F1 (lstV ys ρe) _ := q
    unfold lstV at q
    split at q
    · rename_i hlim
      have d0 : NT e.H0 Dl := (rel1.none0 hD).resolve_right (rel1.fresh hD).1
      have dM := (rel1.fresh hD).1
      have dI := (rel1.fresh hD).2
      refine ⟨fun i m H' => m = xs.length - i ∧ i ≤ xs.length ∧ ∃ F' ρ' acc us rest, Ex F1 F' ∧ Rel X.K e F' H' ρ' σ ∧ F' Dl = none ∧ Apart ρ' σ Dl ∧ H' Dl = some (.lst us) ∧ Reps X.K F' us acc ∧ lcGo f (xs.drop i) ρ' = .ok rest ρe ∧ acc ++ rest = ys,
        ⟨xs.length, by simp, Nat.zero_le _, F1, ρ1, [], [], ys, Ex.refl _, rel1.laid hD, rel1.noneF hD, rel1.apart hD, upd_same, .nil, by simpa using hr, rfl⟩, ?_⟩
      rintro i m H' ⟨rfl, hi, F', ρ', acc, us, rest, ex, rel', hF', ap, hH', hR, hgo, hys⟩
      by_cases hlt : i < xs.length
      · have hd : xs[i]? = some xs[i] := List.getElem?_eq_getElem hlt
        obtain ⟨hgo2, hy⟩ := hJ.1 i xs[i] H' hd (ex.trans rel'.sub)
        refine .inr ⟨hgo2, fun H2 => ∃ F2 ρ2 acc us rest, Ex F1 F2 ∧ Rel X.K e F2 H2 ρ2 σ ∧ F2 Dl = none ∧ Apart ρ2 σ Dl ∧ H2 Dl = some (.lst us) ∧ Reps X.K F2 us acc ∧ lcGo f (xs.drop (i + 1)) ρ2 = .ok rest ρe ∧ acc ++ rest = ys,
          fun H2 h => ⟨xs.length - (i + 1), by omega, rfl, hlt, h⟩, fun x H2 hx => ?_⟩
        have yl : Yl X.K F' H' x H2 xs[i] := by
          rcases hy x H2 hx with ⟨h1, h2⟩ | ⟨T, us, zs, h1, h2, h3, h4, h5⟩
          · exact .inl ⟨h1, h2.mono ex⟩
          · exact .inr ⟨T, us, zs, h1, h2, h3, h4, Reps.mono ex h5⟩
        obtain ⟨F2, ex2, rel2, rep, exH, keep⟩ := yl_rel2 rel' yl
        have hH2 : H2 Dl = some (.lst us) := exH _ _ hH'
        have hF2 : F2 Dl = none := keep Dl (by rw [hH']; exact fun z => nomatch z) hF'
        rw [List.drop_eq_getElem_cons hlt] at hgo
        obtain ⟨o, ρ2, rest2, hfx, hgo', hrest⟩ := lcGo_cons hgo
        subst hf
        obtain ⟨hplain, ρb, ρc, hput, hev, rfl⟩ := lcTurn_ok hfx
        have relB := rel2.block hplain
        refine ⟨_, F2, _, xs[i], relB, rep, ?_⟩
        rw [hput]
        intro σ2 chg relC
        refine ⟨wipe_chg chg, ?_⟩
        have hMB : ¬ (entB e F2 H2 ρ' σ).M Dl := fun hm => by
          rcases hm with ⟨j, s, hs, hm, hσ⟩ | hm
          · exact ap j s hs hm hσ
          · exact dI hm
        have apB : ∀ {ρz : Env} {Fz Hz : Hp} {σz : L2.St}, Chg tg.slots (wipe σ tg.slots) σz → Rel X.K (entB e F2 H2 ρ' σ) Fz Hz ρz σz → Apart (backE ρ' ρz tg.slots) σ Dl := fun {ρz Fz Hz σz} cz rz j s hs hm hσ => by
          have a1 := rz.apartOld (q := Dl) (NT.lst hH2) hMB dI
          by_cases hj : j ∈ tg.slots
          · have hl : j < ρz.length := by
              have := (List.getElem?_eq_some_iff.mp hs).1
              rwa [backE_len] at this
            rw [backE_in hl hj] at hs
            have hl2 : j < ρ'.length := by rw [rel2.len, ← wipe_length σ tg.slots, ← cz.1, ← rz.len]; exact hl
            rw [List.getD_eq_getElem?_getD, List.getElem?_eq_getElem hl2] at hs
            obtain ⟨d, rfl⟩ := plain_at hplain hj (show ρ'[j]? = some (some s) by rw [List.getElem?_eq_getElem hl2]; exact hs)
            cases hm
          · rw [backE_out hj] at hs
            exact a1 j s hs hm (by rw [cz.2 j hj, wipe_get hj]; exact hσ)
        cases hec : ec ρb with
        | bad => rw [hec] at hev; cases hev
        | exc c x ρt => rw [hec] at hev; cases hev
        | ok t ρt =>
          rw [hec] at hev
          refine ⟨_, F2, ρb, relC, ?_⟩
          rw [hec]
          intro F3 H3 ex3 rel3
          cases t with
          | false =>
            have hev : (R.ok none ρt : R (Option D)) = .ok o ρc := hev
            cases hev
            refine iteF ⟨F3, _, acc, us, rest2, (ex.trans ex2).trans ex3, rel2.back hplain chg rel3, ?_, apB chg rel3, ?_, Reps.mono (ex2.trans ex3) hR, hgo', by rw [← hys, hrest, consO_none]⟩
            · exact rel3.old Dl hF2 (NT.lst hH2) hMB
            · exact rel3.frm Dl _ hH2 (fun _ z => nomatch z) hMB
          | true =>
            have hev : bindD (ev ρt) (fun y ρ => R.ok (some y) ρ) = .ok o ρc := hev
            rw [bindD_dd] at hev
            refine iteT ⟨_, F3, ρt, rel3, ?_⟩
            dsimp only
            cases hdd : dd (ev ρt) with
            | bad => rw [hdd] at hev; cases hev
            | exc c x ρt => rw [hdd] at hev; cases hev
            | ok y ρd =>
              rw [hdd] at hev
              cases hev
              intro F4 H4 ex4 rel4 v hv
              have h4 : H4 Dl = some (.lst us) := rel4.frm Dl _ hH2 (fun _ z => nomatch z) hMB
              have f4 : F4 Dl = none := rel4.old Dl hF2 (NT.lst hH2) hMB
              have hlen : us.length < sizeLine := by
                rw [hR.length]
                refine lim_lt (Nat.lt_of_lt_of_le ?_ hlim)
                rw [← hys, hrest, consO_some, List.length_append, List.length_cons]
                omega
              refine ⟨us, h4, hlen, F4, _, acc ++ [y], us ++ [v], rest2, ((ex.trans ex2).trans ex3).trans ex4, (rel2.back hplain chg rel4).apartUpd f4 h4 d0 (apB chg rel4), f4, apB chg rel4, upd_same, (Reps.mono ((ex2.trans ex3).trans ex4) hR).append (.cons hv .nil), hgo', ?_⟩
              rw [← hys, hrest, List.append_assoc]
              rfl
      · have e1 : i = xs.length := by omega
        subst e1
        rw [List.drop_length] at hgo
        cases hgo
        refine .inl ⟨hJ.2 H' (ex.trans rel'.sub), q F' H' ex rel' _ ?_⟩
        rw [List.append_nil] at hys
        subst hys
        exact ⟨Dl, us, rfl, hF', hH', hR, d0, dM, dI, ap⟩
    · exact q.elim
theorem pts_weak {ifs : List Expr} {t t' : TT} (h : PTs X ifs t) (k : ∀ σ H Q, t' σ H Q → t σ H Q) : PTs X ifs t' := ⟨fun pins s σ H Q I hq => h.run pins s σ H Q I (k σ H Q hq)⟩
theorem pts_yes : PTs X [] (tBo X.K xa W fun ρ => .ok true ρ) := pts_weak pts_nil fun σ H Q ⟨e, F, ρ, rel, post⟩ => post F H (Ex.refl F) rel
end
end Pv

namespace Pv
open PySem L2 PySem.Spec PyProof.Rows

/-! ### a lambda without parameters handed to a def -/
section
variable {τ : Tls} {K : PySem.W.Frag} {e : Ent τ} {F H H1 : Hp} {ρ : Env} {σ : L2.St}
/-- the tables alone have changed -/
theorem Rel.extN (r : Rel K e F H ρ σ) (x : LamX.ExtN H H1) (t : LamX.Tabs τ H1) : Rel K e F H1 ρ σ where
  len := r.len
  sub0 := r.sub0
  sub := fun a o h => x a o (r.sub a o h) fun ps z => r.nt a ps (by rw [← z]; exact h)
  slot := fun i s hs => by
    obtain ⟨v, hv, q⟩ := r.slot i s hs
    refine ⟨v, hv, ?_⟩
    cases s with
    | v d => exact q
    | own xs =>
      obtain ⟨b, us, rfl, q1, q2, q3⟩ := q
      exact ⟨b, us, rfl, q1, x _ _ q2 (fun _ z => nomatch z), q3⟩
    | io xs =>
      obtain ⟨b, us, rfl, q1, q2, q3⟩ := q
      exact ⟨b, us, rfl, q1, x _ _ q2 (fun _ z => nomatch z), q3⟩
    | fz xs => exact q
    | raw xs => exact q
    | xc a => exact q
  dis := r.dis
  frm := fun a o h1 h2 h3 => x a o (r.frm a o h1 h2 h3) h2
  old := r.old
  mh := fun p hp => by
    obtain ⟨us, h⟩ := r.mh p hp
    exact ⟨us, x _ _ h (fun _ z => nomatch z)⟩
  pm := r.pm
  tab := t
  nt := r.nt
end
/-- the def's context that gets the lambda -/
abbrev gCx (X : Cx) (Ng : List Str) (x : Str) (sg : Scope) (g : Addr) (cdg : Value) (s : Shared) (H : Hp) : Cx := cxOf C8.CX0 X.prog X.w X.K X.mg X.base Ng x sg g cdg X.A X.stack s H C8.E0
section
variable {X : Cx} {pins : List (Addr × Obj)} {σ : L2.St} {H : Hp} {s : Shared}
/-- x(), in the def that got the lambda; what is raised is told at the slots as they are then -/
theorem pe_actS {Ng : List Str} {qg : Str} {sg : Scope} {g f c' : Addr} {cdg pm ctv : Value} {params : Arguments} {body : Expr} {scope : Scope} {k i : Nat} {a : Str} {pn : List (Addr × Obj)} {xe : Value → Shared → Prop} {W : WX} {tb : XK → TE} {p1 p2 : Pos}
    (I : Inv X pins σ H s) (L : LamX.LamS X.env.scope scope)
    (hf : s.heap.get? f = some (PySem.W.kla_obj "<lambda>" (X.env.qual ++ "<lambda>") params body scope (cloFrom X.env.cells scope.names []) pm c' ctv))
    (hfn : H f = none) (hfr : f ∉ frs X.stack)
    (hbind : bindArgs (PySem.W.kla_fn "<lambda>" (X.env.qual ++ "<lambda>") params body scope (cloFrom X.env.cells scope.names []) pm (.ref c') ctv) ⟨[], []⟩ = pure [])
    (tk : Takes ((gCx X Ng qg sg g cdg s H).tr pn xe) W) (hr : Room (k + 1) (X.A.deeper (envOfC qg sg s.heap.objs.size g cdg)))
    (hbody : ∀ (E : XK) (A : Around) (outer : List PySem.Env) (s : Shared) (H : Hp), Room k (A.deeper (LamX.lamEnv X scope s.heap.objs.size f c')) → PE (LamX.lamCx X A outer s H E scope f c') body (tb E))
    (hN : Ng[i]? = some a) (hv : Vis sg a) (hd : (a == ("__debug__" : Str)) = false) (hcd : (a == ("__classdict__" : Str)) = false) :
    PE ((gCx X Ng qg sg g cdg s H).tr pn xe) (.Call (.Name a p1) [] [] p2)
      (fun σ1 H1 Q => σ1[i]? = some (some (.ref f)) ∧ H1 c' = some (LamX.CodeO c' (X.env.qual ++ "<lambda>")) ∧ tb (WE W σ1) σ H1 Q) := by
  refine ⟨fun pins1 s1 σ1 H1 Q I1 h => ?_⟩
  obtain ⟨hs, hc, ht⟩ := h
  have look := (pe_var (X := (gCx X Ng qg sg g cdg s H).tr pn xe) (pos := p1) (i := i) hN hv hd hcd).run pins1 s1 σ1 H1 (fun v H2 => v = .ref f ∧ H2 = H1) I1 ⟨.ref f, hs, rfl, rfl⟩
  refine wpAny_Call_Name_kw (thn look fun u s2 hh => ?_)
  obtain ⟨v, H2, I2, r2, ev, eH⟩ := hh
  subst ev
  subst eH
  obtain rfl : u = Value.ref f := r2
  have of2 := I2.base.keep f _ hf hfn hfr (fun z => nomatch (show f ∈ ([] : List Addr) from z))
  refine PySem.W.callWith_F0 ⟨_, _, _, _, of2⟩ ?_
  obtain ⟨⟨oc, vs, t, hoc, hdc, hvc⟩, _, _⟩ := I2.hok c' _ hc
  have key : codeAny (model X.prog X.w) (X.A.deeper (envOfC qg sg s.heap.objs.size g cdg)) (.call (.ref f) ⟨[], []⟩)
      (CR (L2.CX X.prog X.w) (envOfC qg sg s.heap.objs.size g cdg :: X.stack) X.prog X.w H2 s2 Q (WE W σ1)) s2 := by
    refine PySem.W.kla_callFunE hr.depth of2 rfl L.co L.gen rfl ⟨c', oc, vs, t, rfl, hoc, hdc, hvc⟩ ?_
    rw [hbind]
    have hown : ∀ y ∈ scope.names, y.2 ≠ .cell := fun y hy => (L.own y hy).2
    refine wpAny_pure (wpAny_newFunctionEnv hown (fun y hy => absurd hy (by simp)) (fun h₁ hns hsb => ⟨I2.nolimit.fresh _ hsb, ?_⟩) L.kind)
    have kp : ∀ b o, s2.heap.get? b = some o → h₁.get? b = some o := fun b o ho => hsb.extBut b o (Nat.ne_of_lt (Heap.lt_size ho)) (Heap.get?_push_of_some _ ho)
    have J := LamX.lam_start2 (A := X.A.deeper (envOfC qg sg s.heap.objs.size g cdg)) (outer := envOfC qg sg s.heap.objs.size g cdg :: X.stack) (E := WE W σ1) (f := f) (c' := c') (tk := s2.toks + ([] : List (Str × Value)).length) I L I2.env0 hr.hd I2.base hns kp
    have go := (hbody (WE W σ1) _ _ s2 H2 (hr.deeper _)).run [] _ _ H2 Q J ht
    refine PySem.W.kla_codeExpr (wpAny_mono go (fun v s' hq => ?_) fun e s' hq => hq)
    obtain ⟨w', H', J', rv, q⟩ := hq
    exact ⟨w', H', J'.os, J'.bare, J'.base, J'.hok, rv, q⟩
  have hx := passAt tk σ1
  refine wpAny_call (codeAny_mono key fun r s' hq => ?_)
  cases r with
  | error er => exact hx pins1 H2 s2 er s' I2 hq
  | ok fl =>
    cases fl with
    | ret u => exact I2.after hq
    | next => exact hq.elim
    | brk => exact hq.elim
    | cont => exact hq.elim
end
/-- the def that calls what it got -/
def GiveS (X : Cx) (Ng : List Str) (x : Str) (sg : Scope) (g : Addr) (cdg : Value) (bg : List Stmt) (a : Str) (q : Str) (TT : (XK → Hp → VK → Prop) → Hp → VK → Prop) : Prop :=
  ∀ (f c' : Addr) (s : Shared) (H : Hp) (Q : VK) (tl : XK → Hp → VK → Prop),
    (∀ (W : WX) (pn : List (Addr × Obj)) (xe : Value → Shared → Prop) (p1 p2 : Pos), Takes ((gCx X Ng x sg g cdg s H).tr pn xe) W →
      PE ((gCx X Ng x sg g cdg s H).tr pn xe) (.Call (.Name a p1) [] [] p2) (fun σ1 H1 Q => σ1[0]? = some (some (.ref f)) ∧ H1 c' = some (LamX.CodeO c' q) ∧ tl (WE W σ1) H1 Q)) →
    H c' = some (LamX.CodeO c' q) → TT tl H Q →
    ∃ t, PSs (gCx X Ng x sg g cdg s H).nox bg t ∧ t { nx := fun _ H' => Q .non H', rt := Q } (L2.start Ng [.ref f]) H
def tLamS (τ : Tls) (TT : (XK → Hp → VK → Prop) → Hp → VK → Prop) (t : XK → TE) : TE := fun σ H Q => LamX.Tabs τ H ∧ ∀ H1, LamX.ExtN H H1 → LamX.Tabs τ H1 → TT (fun E H' Q' => t E σ H' Q') H1 Q
/-- x(lambda: body) -/
theorem pe_lamS {τ : Tls} {X : Cx} {TT : (XK → Hp → VK → Prop) → Hp → VK → Prop} {x a : Str} {g c P : Addr} {k : Nat} {pg : Arguments} {bg : List Stmt} {sg : Scope} {dV kV doc pm cdv ct oc : Value} {an od : Option Addr} {osl : Array (Option Value)} {Ng : List Str}
    {params : Arguments} {body : Expr} {scope : Scope} {t : XK → TE} {p lpos pos : Pos} (hg : Gl X x) (hm : X.mg x = some (.ref g)) (hk : PySem.W.keepIn X.K (.ref g) = true)
    (lk : X.K.lookup g = some ⟨oc, od, .func (PySem.W.fnOf x x pg bg sg dV kV doc pm an cdv ct), osl⟩) (hcg : PySem.W.codeIn X.K cdv x = true)
    (hb : L2.Binds X.K (PySem.W.fnOf x x pg bg sg dV kV doc pm an cdv ct) [a] []) (Sg : FnScope Ng [a] sg) (hNg : Ng[0]? = some a) (hva : Vis sg a)
    (hG : GiveS X Ng x sg g cdv bg a (X.env.qual ++ "<lambda>") TT)
    (TB : LamX.TabB X.base X.mg c P) (hcode : X.env.code = .ref c) (hmT : (P, X.env.qual ++ "<lambda>") ∈ τ) (hu : ∀ p ∈ τ, p.1 = P → p.2 = X.env.qual ++ "<lambda>")
    (hr : Room (k + 2) X.A) (L : LamX.LamS X.env.scope scope) (hdef : defaultsOf params X.env = ([], []))
    (hbind : ∀ (q : Str) (cl : List (Str × Addr)) (pm cv ctv : Value), bindArgs (PySem.W.kla_fn "<lambda>" q params body scope cl pm cv ctv) ⟨[], []⟩ = pure [])
    (hbody : ∀ (E : XK) (A : Around) (outer : List PySem.Env) (s : Shared) (H : Hp) (f c' : Addr), Room k (A.deeper (LamX.lamEnv X scope s.heap.objs.size f c')) → PE (LamX.lamCx X A outer s H E scope f c') body (t E))
    (hdb : (x == ("__debug__" : Str)) = false) (hd : (a == ("__debug__" : Str)) = false) (hcd : (a == ("__classdict__" : Str)) = false) :
    PE X (.Call (.Name x p) [.Lambda params body scope lpos] [] pos) (tLamS τ TT t) := by
  refine ⟨fun pins s σ H Q I h => ?_⟩
  obtain ⟨hT, h⟩ := h
  refine wpAny_Call_Name_kw (ld_glob I hg hm ?_ hdb)
  refine PySem.W.callWith_K (h₀ := X.base) I.ok.mod.kin hk ?_ (by rfl) (by rfl)
  show wpAny _ _ (spliced ((false, eval (.Lambda params body scope lpos) X.env) :: backTo pos (starEach [] X.env))) _ _ s
  refine Calls.spliced_cons (LamX.lam_make2 I TB hcode hmT hu hT hdef (L.has I.ok) fun f c' pm' ctv H1 s1 I1 eN T1 hf hfn hfr hco => ?_)
  refine Calls.spliced_nil ⟨I1.kIn, ?_⟩
  have go : codeAny (model X.prog X.w) X.A (.call (.ref g) ⟨[.ref f], []⟩) (CR C8.CX0 X.stack X.prog X.w H1 s1 Q C8.E0) s1 := by
    refine LamX.run_ofS (N := Ng) (ps := [a]) (us := [.ref f]) (vs := [.ref f]) lk hcg Sg hr I1.env0 (hb s1 [.ref f] I1.kIn rfl) (.cons rfl .nil) rfl fun hr' => ?_
    obtain ⟨t1, ht1, hq1⟩ := hG f c' s1 H1 Q (fun E H' Q' => t E σ H' Q')
      (fun W pn xe p1 p2 tk => pe_actS (tb := t) (i := 0) I1 L hf hfn hfr (hbind _ _ _ _ _) tk hr' (fun E A outer s H hr2 => hbody E A outer s H f c' hr2) hNg hva hd hcd) hco (h H1 eN T1)
    exact ⟨t1, ht1.nox, hq1⟩
  refine wpAny_call (codeAny_mono go fun r s2 hq => ?_)
  cases r with
  | error er => exact (show False from hq).elim
  | ok fl =>
    cases fl with
    | ret u => exact I1.after hq
    | next => exact hq.elim
    | brk => exact hq.elim
    | cont => exact hq.elim

/-! ### what such a def makes of the lambda's end -/
section
variable {τ : Tls} (K : PySem.W.Frag) (xa : XAt τ) (gl : Gls) (w : WFn)
/-- behind the lambda, known F', heap H': the def gives what the pure def tells -/
def Leads (o : Out) (F' H' : Hp) (Q : VK) : Prop := ∃ dv, (∀ a, valR (wrun gl w o a) = some dv) ∧ ∀ F2 H2 v, Ex F' F2 → Ex F2 H2 → Frame τ F' H' none F2 H2 → Rep K F2 v dv → Q v H2
def LeadsX (c : Nat) (d : Option Addr) (H' : Hp) (Q : VK) : Prop := ∃ F' x, Ex F' H' ∧ LamX.Tabs τ H' ∧ (∀ a ps, F' a ≠ some (.tbl ps)) ∧ XR K F' x d ∧ Leads (τ := τ) K gl w (.exc c x) F' H' Q
def LeadsO (H' : Hp) (Q : VK) : Prop := ∃ F', Ex F' H' ∧ LamX.Tabs τ H' ∧ (∀ a ps, F' a ≠ some (.tbl ps)) ∧ Leads (τ := τ) K gl w .ok F' H' Q
def TTw : (XK → Hp → VK → Prop) → Hp → VK → Prop := fun tl H Q => ∀ (E : XK) (Q1 : VK), (∀ c d H', LeadsX (τ := τ) K gl w c d H' Q → E (.ref (xa c)) d H') → (∀ v H', LeadsO (τ := τ) K gl w H' Q → Q1 v H') → tl E H Q1
end
section
variable {τ : Tls} {X : Cx} {xa : XAt τ} {W : WX} {gl : Gls} {w : WFn} {j : Nat}
/-- the reading of the call with a lambda -/
theorem lam_read {ev : Env → R Val} {wrd : Nat → Out → FR} (hwrd : wrd = wrdOf gl) (hw : gl.w j = some w) {σ : L2.St} {H : Hp} {Q : VK}
    (h : tV X.K xa W (fun ρ => outL (ev ρ) fun o ρ => backR none ρ (wrd j o)) σ H Q) : tLamS τ (TTw X.K xa gl w) (fun E => tV X.K xa (fun cls d _ H' => E cls d H') ev) σ H Q := by
  subst hwrd
  obtain ⟨e, F, ρ, rel, post⟩ := h
  refine ⟨rel.tab, fun H1 x1 t1 E Q1 hE hO => ⟨e, F, ρ, rel.extN x1 t1, ?_⟩⟩
  have post : Post X.K xa W e σ F (outL (ev ρ) fun o ρ => backR none ρ (wrdOf gl j o)) _ := post
  have lead : ∀ (o : Out) (ρ' : Env), Post X.K xa W e σ F (backR none ρ' (wrdOf gl j o)) (fun x ρ' F' H' => ∀ v, VR X.K e F' H' ρ' σ v x → Q v H') → ∀ F' H', Ex F F' → Rel X.K e F' H' ρ' σ → Leads (τ := τ) X.K gl w o F' H' Q := fun o ρ' hp F' H' ex rel' => by
    rcases wrd_inv (o := o) hw with hb | ⟨dv, hd, hr⟩
    · rw [hb] at hp
      exact hp.elim
    · rw [hd] at hp
      refine ⟨dv, hr, fun F2 H2 v ex2 ex3 fr rep => ?_⟩
      exact hp F2 H2 (ex.trans ex2) (rel'.called ex2 ex3 fr) v rep
  cases he : ev ρ with
  | bad => rw [he] at post; exact post.elim
  | ok v0 ρ1 =>
    rw [he] at post
    intro F' H' ex rel' v _
    exact hO v H' ⟨F', rel'.sub, rel'.tab, rel'.nt, lead .ok ρ1 post F' H' ex rel'⟩
  | exc c x ρ1 =>
    rw [he] at post
    intro F' H' d ex rel' xr
    exact hE c d H' ⟨F', x, rel'.sub, rel'.tab, rel'.nt, xr, lead (.exc c x) ρ1 post F' H' ex rel'⟩
end
end Pv

namespace Pv
open PySem L2 PySem.Spec PyProof.Rows

/-! ### a.count(x), a.index(x) of lists of plain data -/
def rCnt (K : PySem.W.Frag) : V → List V → Hp → VK → Prop := fun x xs H Q => ∃ (a : Addr) (y : V) (d : PyData) (ds : List PyData), x = V.ref a ∧ xs = [y] ∧ Dp K H (V.ref a) (.list ds) ∧ Dp K H y d ∧ SeqAt.shaped (.list ds) = true ∧ SeqAt.shaped d = true ∧ Q (.int (ds.countP fun z => PyData.eqv z d : Nat)) H
section
variable {X : Cx}
theorem countP_map' {α β : Type} (f : α → β) (p : β → Bool) : ∀ l : List α, (l.map f).countP p = l.countP fun a => p (f a)
  | [] => rfl
  | a :: l => by rw [List.map_cons, List.countP_cons, List.countP_cons, countP_map' f p l]
theorem mt_cntD (hu : X.A.units + 65 < cLine) : MtR X "list.count" (rCnt X.K) := by
  intro pins s σ H x xs v us Q I rx rxs h
  obtain ⟨a, y, d, ds, rfl, rfl, hl, hy, sl, sd, q⟩ := h
  cases rx
  obtain ⟨uy, rfl, ry⟩ := rxs.one
  obtain ⟨bs, r1⟩ := Dp.reads I d y uy hy ry
  have room : X.A.units + 1 + min (PyData.depthAll ds) d.depth < cLine := room_in_shaped sd hu
  have lay : PyData.canLayAll0 ds = true := SeqAt.canLay_of_shaped sl
  cases hl with
  | lst hs ha =>
    obtain ⟨its, rv, ⟨⟨cls, dd, data, sls⟩, n, ho, hc, hdn, hdt⟩, hlen⟩ := I.list hs
    simp only at hc hdt
    subst hc hdt
    obtain ⟨as, h4⟩ := Dp.readsAll I ds _ its ha rv
    have hmap : its.map (SeqAt.readOf s.heap) = ds := SeqAt.readsAll_map ds its as lay h4
    have heq := SeqAt.items_eqAt (vs := its.toArray) (show ReadsAll s.heap its.toArray.toList ds as from h4) r1 lay (SeqAt.canLay_of_shaped sd) room
    refine call_meets PySem.F.slot_list_count ⟨_, ho, rfl⟩ PySem.F.entry_list_count (PySem.F.args_list_count_2 _ _)
      (SeqAt.list_countAt a its.toArray n dd sls uy fun u => PyData.eqv (SeqAt.readOf s.heap u) d) ⟨ho, heq, ?_⟩
    refine ⟨.int (ds.countP fun z => PyData.eqv z d : Nat), H, I.tok _, ⟨s.toks, ?_⟩, q⟩
    rw [← hmap, countP_map']
end
section
variable {τ : Tls} {X : Cx} {a c : Expr} {xa : XAt τ} {W : WX} {p apos cpos pos : Pos} {ep : Env → R D} {ev : Env → R Val}
theorem pk_dp {K : PySem.W.Frag} {F H : Hp} {x : V} {xs : List D} (ex : Ex F H) (h : PkR K F H x (.list xs)) (n : noDic (.list xs) = true) : ∃ l us, x = .ref l ∧ SqL K H l us ∧ Dp K H x (.list xs) := by
  obtain ⟨l, us, rfl, h1, h2⟩ := h.list ex
  unfold noDic at n
  exact ⟨l, us, rfl, .inl h1, .lst (.inl h1) (Reps.dp (Reps.mono ex h2) n)⟩
theorem lsR_inv {K : PySem.W.Frag} {e : Ent τ} {F : Hp} {σ : L2.St} {β : Type} {y : D} {r : R β} {Q : β → Env → Hp → Hp → Prop} (h : Post K xa W e σ F (lsR y r) Q) : ∃ xs, y = .list xs ∧ Post K xa W e σ F r Q := by
  cases y <;> first | exact h.elim | skip
  exact ⟨_, rfl, h⟩
theorem stR_inv {K : PySem.W.Frag} {e : Ent τ} {F : Hp} {σ : L2.St} {β : Type} {y : D} {r : R β} {Q : β → Env → Hp → Hp → Prop} (h : Post K xa W e σ F (stR y r) Q) : ∃ x, y = .str x ∧ Post K xa W e σ F r Q := by
  cases y <;> first | exact h.elim | skip
  exact ⟨_, rfl, h⟩
/-- a name, a constant: looked at, nothing changes -/
structure Sm (X : Cx) (c : Expr) (rd : Env → R D) : Prop where
  ok : ∀ ρ, (∃ d, rd ρ = .ok d ρ) ∨ rd ρ = .bad
  pe : ∀ {τ : Tls} (e : Ent τ), PE X c (fun σ H Q => ∃ F ρ d, Rel X.K e F H ρ σ ∧ rd ρ = .ok d ρ ∧ ∀ v, PkR X.K F H v d → Q v H)
theorem sm_v {i : Nat} (h : PE X a (tVar i)) : Sm X a fun ρ => lookV ρ i where
  ok := fun ρ => by
    unfold lookV
    split
    · exact .inr rfl
    · exact .inr rfl
    · exact .inl ⟨_, rfl⟩
    · exact .inr rfl
  pe := fun e => pe_weak h fun σ H Q ⟨F, ρ, d, rel, hd, q⟩ => by
    unfold lookV at hd
    split at hd
    · cases hd
    · cases hd
    · rename_i s hn hn2 hs
      obtain ⟨v, hv, rep⟩ := rel.look hs ⟨fun xs z => hn xs (by rw [z]), fun a z => hn2 a (by rw [z])⟩
      cases hd
      exact ⟨v, hv, q v rep⟩
    · cases hd
theorem sm_k {v : V} {d : D} (h : PE X a (tC v)) (r : ∀ F, Rep X.K F v d) : Sm X a fun ρ => .ok d ρ where
  ok := fun ρ => .inl ⟨d, rfl⟩
  pe := fun e => pe_weak h fun σ H Q ⟨F, ρ, d', rel, hd, q⟩ => by
    cases hd
    exact q v (.inl (r F))
theorem pk_dp2 {K : PySem.W.Frag} {F H : Hp} {x : V} {d : D} (ex : Ex F H) (h : PkR K F H x d) (n : noDic d = true) : Dp K H x d := (h.rep ex).dp n
theorem sm_read {K : PySem.W.Frag} {e : Ent τ} {F1 : Hp} {σ : L2.St} {ρ1 : Env} {rd : Env → R D} {β : Type} {f : D → Env → R β} {Q : β → Env → Hp → Hp → Prop} (s : ∀ ρ, (∃ d, rd ρ = .ok d ρ) ∨ rd ρ = .bad) (h : Post K xa W e σ F1 ((rd ρ1).bind f) Q) : ∃ d, rd ρ1 = .ok d ρ1 ∧ Post K xa W e σ F1 (f d ρ1) Q := by
  rcases s ρ1 with ⟨d, hd⟩ | hd
  · rw [hd] at h
    exact ⟨d, hd, h⟩
  · rw [hd] at h
    exact h.elim
/-- a.count(x) -/
theorem pe_cnt {rd : Env → R D} (hu : X.A.units + 100 < cLine) (ha : PE X a (tP X.K xa W ep)) (hc : Sm X c rd)
    (hbase : attributeBase a "count" X.env (eval a X.env) = eval a X.env)
    (hs : starEach [c] X.env = [(false, eval c X.env)]) (hl : (apos.endLine == cpos.line) = true) :
    PE X (.Call (.Attribute a "count" apos) [c] [] cpos) (tV X.K xa W fun ρ => (ep ρ).bind fun y ρ => lsR y ((rd ρ).bind fun z ρ => R.ofO ((cntD y z).map .pv) ρ)) := by
  have hs' : starEach [c] X.env = (false, eval c X.env) :: starEach [] X.env := hs
  refine ⟨fun pins s σ H Q I ⟨e, F, ρ, rel, post⟩ => ?_⟩
  refine (pe_bm PySem.F.plainAttrs_list PySem.F.slot_list_count PySem.F.type_list_count (mt_cntD (by omega)) ha (pa_cons (hc.pe e) pa_nil hs') hbase (by rw [hs]; rfl) hl hs' rfl).run pins s σ H Q I ⟨e, F, ρ, rel, (Post.bind post).imp fun y ρ1 F1 H1 ex1 rel1 q x hx => ?_⟩
  obtain ⟨xs, rfl, q⟩ := lsR_inv q
  obtain ⟨d, hd, q⟩ := sm_read hc.ok q
  obtain ⟨z, hz, q2⟩ := q.ofO
  obtain ⟨w, hw, rfl⟩ := Option.map_eq_some_iff.mp hz
  simp only [cntD] at hw
  split at hw
  · rename_i hh
    cases hw
    obtain ⟨n1, n2⟩ := shp_parts hh.1
    obtain ⟨n3, n4⟩ := shp_parts hh.2
    obtain ⟨l, us, rfl, h1, h2⟩ := pk_dp rel1.sub hx n2
    exact ⟨.inl ⟨rfl, us, h1⟩, F1, ρ1, d, rel1, hd, fun v hv => ⟨l, v, d, xs, rfl, rfl, h2, pk_dp2 rel1.sub hv n4, n1, n3, q2 F1 H1 (Ex.refl _) rel1 _ (.int _)⟩⟩
  · cases hw
/-- a.index(x) -/
theorem pe_idx {rd : Env → R D} (hu : X.A.units + 100 < cLine) (ha : PE X a (tP X.K xa W ep)) (hc : Sm X c rd)
    (hbase : attributeBase a "index" X.env (eval a X.env) = eval a X.env)
    (hs : starEach [c] X.env = [(false, eval c X.env)]) (hl : (apos.endLine == cpos.line) = true) :
    PE X (.Call (.Attribute a "index" apos) [c] [] cpos) (tV X.K xa W fun ρ => (ep ρ).bind fun y ρ => lsR y ((rd ρ).bind fun z ρ => R.ofO ((idxD y z).map .pv) ρ)) := by
  have hs' : starEach [c] X.env = (false, eval c X.env) :: starEach [] X.env := hs
  refine ⟨fun pins s σ H Q I ⟨e, F, ρ, rel, post⟩ => ?_⟩
  refine (pe_bm PySem.F.plainAttrs_list PySem.F.slot_list_index PySem.F.type_list_index (mt_indexD (by omega)) ha (pa_cons (hc.pe e) pa_nil hs') hbase (by rw [hs]; rfl) hl hs' rfl).run pins s σ H Q I ⟨e, F, ρ, rel, (Post.bind post).imp fun y ρ1 F1 H1 ex1 rel1 q x hx => ?_⟩
  obtain ⟨xs, rfl, q⟩ := lsR_inv q
  obtain ⟨d, hd, q⟩ := sm_read hc.ok q
  obtain ⟨z, hz, q2⟩ := q.ofO
  obtain ⟨w, hw, rfl⟩ := Option.map_eq_some_iff.mp hz
  simp only [idxD] at hw
  split at hw
  · rename_i hh
    obtain ⟨j, hj, rfl⟩ := Option.map_eq_some_iff.mp hw
    obtain ⟨n1, n2⟩ := shp_parts hh.1
    obtain ⟨n3, n4⟩ := shp_parts hh.2
    obtain ⟨l, us, rfl, h1, h2⟩ := pk_dp rel1.sub hx n2
    obtain ⟨hlt, k1, k2⟩ := List.findIdx?_eq_some_iff_getElem.mp hj
    refine ⟨.inl ⟨rfl, us, h1⟩, F1, ρ1, d, rel1, hd, fun v hv => ⟨l, v, d, xs, j, xs[j], rfl, rfl, h2, pk_dp2 rel1.sub hv n4, n1, n3, List.getElem?_eq_getElem hlt, k1, fun m z' hm hz' => ?_, q2 F1 H1 (Ex.refl _) rel1 _ (.int _)⟩⟩
    obtain ⟨hm2, e2⟩ := List.getElem?_eq_some_iff.mp hz'
    have := k2 m hm
    rw [e2] at this
    simpa using this
  · cases hw
/-! ### a.join(b) -/
theorem Reps.strsOf {K : PySem.W.Frag} {F : Hp} : ∀ {vs : List V} {ds : List D} {ys : List Str}, Reps K F vs ds → Pv.strsOf ds = some ys → vs = ys.map V.str
  | _, _, _, .nil, e => by cases e; rfl
  | _, d :: ds, ys, .cons h hs, e => by
    cases d with
    | str x =>
      have e' : (Pv.strsOf ds).map (x :: ·) = some ys := e
      cases hr : Pv.strsOf ds with
      | none => rw [hr] at e'; cases e'
      | some ms =>
        rw [hr] at e'
        cases e'
        rw [h.str_inv, Reps.strsOf hs hr]
        rfl
    | _ => cases e
theorem pe_joi {ea eb : Env → R Val} (ha : PE X a (tV X.K xa W ea)) (hb : PE X c (tV X.K xa W eb))
    (hbase : attributeBase a "join" X.env (eval a X.env) = eval a X.env)
    (hs : starEach [c] X.env = [(false, eval c X.env)]) (hl : (apos.endLine == cpos.line) = true) :
    PE X (.Call (.Attribute a "join" apos) [c] [] cpos) (tV X.K xa W fun ρ => bindD (ea ρ) fun x ρ => stR x (bindD (eb ρ) fun y ρ => R.ofO ((joiD x y).map .pv) ρ)) := by
  refine pe_weak (pe_join (pe_toD ha) (pe_toD hb) hs hbase hl) fun σ H Q ⟨e, F, ρ, rel, post⟩ => ?_
  simp only [bindD_dd] at post
  refine ⟨e, F, ρ, rel, (Post.bind post).imp fun dx ρ1 F1 H1 ex1 rel1 q x hx => ?_⟩
  obtain ⟨s, rfl, q⟩ := stR_inv q
  refine ⟨⟨s, hx.str_inv⟩, e, F1, ρ1, rel1, (Post.bind q).imp fun dy ρ2 F2 H2 ex2 rel2 q2 y hy => ?_⟩
  obtain ⟨z, hz, q3⟩ := q2.ofO
  obtain ⟨w, hw, rfl⟩ := Option.map_eq_some_iff.mp hz
  cases dy <;> first | (cases hw; done) | skip
  · simp only [joiD] at hw
    obtain ⟨ys, h1, h2⟩ := Option.bind_eq_some_iff.mp hw
    split at h2
    · rename_i hlen
      cases h2
      obtain ⟨l, us, rfl, h3, h4⟩ := hy.list_inv
      rw [h4.strsOf h1] at h3
      exact ⟨s, l, ys, hx.str_inv, rfl, .inl (.inl (rel2.sub.rd h3)), hlen, q3 F2 H2 (Ex.refl _) rel2 _ (.str _)⟩
    · cases h2
  · simp only [joiD] at hw
    obtain ⟨ys, h1, h2⟩ := Option.bind_eq_some_iff.mp hw
    split at h2
    · rename_i hlen
      cases h2
      obtain ⟨l, us, rfl, h3, h4⟩ := hy.tup_inv
      rw [h4.strsOf h1] at h3
      exact ⟨s, l, ys, hx.str_inv, rfl, .inr (rel2.sub.sqT h3), hlen, q3 F2 H2 (Ex.refl _) rel2 _ (.str _)⟩
    · cases h2
/-! ### x.extend(e) -/
theorem ps_ext' {st : Stmt} {ev : Env → R Val} {i : Nat} (h : PS X st (tDrop (tBM X.K "list" rExtend (tVar i) (tCons (tD X.K xa W fun ρ => dd (ev ρ)) tNil)))) :
    PS X st (tS X.K xa W fun ρ => (R.ofO (ioArg ρ i) ρ).toS fun _ ρ => (dd (ev ρ)).toS fun y ρ => extX ρ i y) := by
  refine ps_weak h fun D σ H ⟨e, F, ρ, ef, rel, post⟩ => ?_
  have post : PostS X.K xa W e F D ((R.ofO (ioArg ρ i) ρ).toS fun _ ρ => (dd (ev ρ)).toS fun y ρ => extX ρ i y) := post
  cases hi : ioArg ρ i with
  | none => rw [hi] at post; exact post.elim
  | some xs0 =>
    rw [hi] at post
    have post : PostS X.K xa W e F D ((dd (ev ρ)).toS fun y ρ => extX ρ i y) := post
    obtain ⟨s, q, us, hs, hss, hσ, hH, hR⟩ := own_at rel hi
    refine ⟨_, hσ, .inl ⟨rfl, us, .inl (.inl hH)⟩, e, F, ρ, rel, (PostS.toS post).imp fun dy ρ1 F1 H1 ex1 rel1 q2 y hy => ?_⟩
    have fin : ∀ (xs ys : List PyData) (s' : Slot), dy = .list ys → ioArg ρ1 i = some xs → xs.length + ys.length ≤ LIM → ((ρ1[i]? = some (some (.own xs)) ∧ s' = .own (xs ++ ys)) ∨ (ρ1[i]? = some (some (.io xs)) ∧ s' = .io (xs ++ ys))) → PostS X.K xa W e F1 D (.nx (ρ1.set i (some s'))) → rExtend (.ref q) [y] H1 fun _ H2 => D.nx σ H2 := fun xs ys s' hdy hi1 hl hc q3 => by
      subst hdy
      obtain ⟨s1, p1, us1, hs1, hss1, hσ1, hH1, hR1⟩ := own_at rel1 hi1
      rw [hσ] at hσ1
      cases hσ1
      obtain ⟨l, ws, rfl, h1, h2⟩ := hy.list_inv'
      refine ⟨q, l, us1, ws, rfl, rfl, hH1, rel1.sub _ _ h1, by rw [hR1.length, h2.length]; exact lim_size hl, ?_⟩
      refine q3 F1 _ σ (Ex.refl _) (rel1.write (s := s1) (s' := s') (xs' := xs ++ ys) hs1 ?_ hσ (hR1.append h2))
      rcases hc with ⟨h1, h2⟩ | ⟨h1, h2⟩
      · rw [h1] at hs1; cases hs1; exact .inl ⟨xs, rfl, h2⟩
      · rw [h1] at hs1; cases hs1; exact .inr ⟨xs, rfl, h2⟩
    unfold extX at q2
    split at q2
    · rename_i xs ys hs1
      split at q2
      · rename_i hl
        exact fin xs ys _ rfl (by unfold ioArg; rw [hs1]) hl (.inl ⟨hs1, rfl⟩) q2
      · exact q2.elim
    · rename_i xs ys hs1
      split at q2
      · rename_i hl
        exact fin xs ys _ rfl (by unfold ioArg; rw [hs1]) hl (.inr ⟨hs1, rfl⟩) q2
      · exact q2.elim
    · exact q2.elim
end
end Pv

namespace Pv
open PySem L2 PySem.Spec PyProof.Rows

/-! ### a dict's display: its values are names and constants -/
def vC : D → V
  | .bool b => .bl b
  | .int i => .int i
  | .str s => .str s
  | _ => .non
def cnD : D → Bool
  | .none => true
  | .bool _ => true
  | .int _ => true
  | .str _ => true
  | _ => false
theorem vC_rep {K : PySem.W.Frag} {d : D} (h : cnD d = true) (F : Hp) : Rep K F (vC d) d := by
  cases d <;> first | (cases h; done) | skip
  · exact .non
  · exact .bl _
  · exact .int _
  · exact .str _
def simE : E → Bool
  | .v _ => true
  | .k d => cnD d
  | _ => false
def simEs : Es → Bool
  | .nil => true
  | .cons e es => simE e && simEs es
def keyK : D → L2.Key
  | .str s => .inr s
  | .int i => .inl i
  | _ => .inl 0
theorem keyK_V {d : D} (h : keyD d = true) : kV (keyK d) = vC d := by cases d <;> first | rfl | cases h
theorem keyK_of {d : D} (h : keyD d = true) : keyOf (keyK d) = d := by cases d <;> first | rfl | cases h
theorem keyD_c {d : D} (h : keyD d = true) : cnD d = true := by cases d <;> first | rfl | cases h
theorem keyEq_of {a b : D} (ha : keyD a = true) (hb : keyD b = true) (h : keyK a = keyK b) : keyEq a b = true := by
  cases a <;> cases b <;> first | (cases ha; done) | (cases hb; done) | skip
  · cases h; exact decide_eq_true rfl
  · cases h
  · cases h
  · cases h; exact decide_eq_true rfl
theorem keysOk_all : ∀ {ks : List D}, keysOk ks = true → ∀ k ∈ ks, keyD k = true
  | [], _ => fun _ h => nomatch h
  | k :: r, h => by
    obtain ⟨h1, h2⟩ := Bool.and_eq_true_iff.mp h
    obtain ⟨h1, _⟩ := Bool.and_eq_true_iff.mp h1
    intro x hx
    rcases List.mem_cons.mp hx with e | hx
    · rw [e]; exact h1
    · exact keysOk_all h2 x hx
theorem keysOk_nd : ∀ {ks : List D}, keysOk ks = true → (ks.map keyK).Nodup
  | [], _ => List.nodup_nil
  | k :: r, h => by
    have hall := keysOk_all h
    obtain ⟨h1, h2⟩ := Bool.and_eq_true_iff.mp h
    obtain ⟨_, h3⟩ := Bool.and_eq_true_iff.mp h1
    rw [List.map_cons, List.nodup_cons]
    refine ⟨fun z => ?_, keysOk_nd h2⟩
    obtain ⟨x, hx, e⟩ := List.mem_map.mp z
    have := List.all_eq_true.mp h3 x hx
    rw [keyEq_of (hall k List.mem_cons_self) (hall x (List.mem_cons_of_mem _ hx)) e.symm] at this
    cases this
theorem valV_out {k : L2.Key} : ∀ {kvs : List (L2.Key × V)}, k ∉ kvs.map (·.1) → valV kvs k = none
  | [], _ => valV_nil
  | p :: r, h => by
    rw [List.map_cons] at h
    rw [valV_neg (fun z => h (by rw [z]; exact List.mem_cons_self))]
    exact valV_out fun z => h (List.mem_cons_of_mem _ z)
theorem merge_nd : ∀ (kvs acc : List (L2.Key × V)), (acc.map (·.1) ++ kvs.map (·.1)).Nodup → mergeK acc kvs = acc ++ kvs
  | [], acc, _ => by show acc = acc ++ []; rw [List.append_nil]
  | p :: r, acc, h => by
    have hp : p.1 ∉ acc.map (·.1) := fun z => by
      rw [List.map_cons] at h
      exact (List.nodup_append.mp h).2.2 _ z _ List.mem_cons_self rfl
    show mergeK (putK acc p.1 p.2) r = _
    rw [putK_new p.2 (valV_out hp), merge_nd r (acc ++ [(p.1, p.2)]) (by
      rw [List.map_append, List.append_assoc]
      exact h), List.append_assoc]
    rfl
inductive SvR (σ : L2.St) : Es → List V → Prop
  | nil : SvR σ .nil []
  | v {i : Nat} {es : Es} {v : V} {vs : List V} : σ[i]? = some (some v) → SvR σ es vs → SvR σ (.cons (.v i) es) (v :: vs)
  | k {d : D} {es : Es} {vs : List V} : SvR σ es vs → SvR σ (.cons (.k d) es) (vC d :: vs)
section
variable {τ : Tls} {K : PySem.W.Frag} {xa : XAt τ} {W : WX} {e : Ent τ} {σ : L2.St} {C : Cfg}
theorem sv_read : ∀ {es : Es} {F H : Hp} {ρ : Env} {Q : List D → Env → Hp → Hp → Prop}, simEs es = true → Rel K e F H ρ σ → Post K xa W e σ F (evA C es ρ) Q →
    ∃ F' vs ds ρ', Ex F F' ∧ Rel K e F' H ρ' σ ∧ Reps K F' vs ds ∧ SvR σ es vs ∧ ∀ F2 H2, Ex F' F2 → Rel K e F2 H2 ρ' σ → Q ds ρ' F2 H2
  | .nil, F, H, ρ, Q, _, rel, post => ⟨F, [], [], ρ, Ex.refl F, rel, .nil, .nil, post⟩
  | .cons x es, F, H, ρ, Q, hs, rel, post => by
    obtain ⟨h1, h2⟩ := Bool.and_eq_true_iff.mp (show (simE x && simEs es) = true from hs)
    have tail : ∀ (d : D) (v : V) (F1 : Hp) (ρ1 : Env), Ex F F1 → Rel K e F1 H ρ1 σ → Rep K F1 v d → (∀ vs, SvR σ es vs → SvR σ (.cons x es) (v :: vs)) → Post K xa W e σ F1 ((evA C es ρ1).bind fun xs ρ => .ok (d :: xs) ρ) Q →
        ∃ F' vs ds ρ', Ex F F' ∧ Rel K e F' H ρ' σ ∧ Reps K F' vs ds ∧ SvR σ (.cons x es) vs ∧ ∀ F2 H2, Ex F' F2 → Rel K e F2 H2 ρ' σ → Q ds ρ' F2 H2 := fun d v F1 ρ1 ex1 rel1 rep hv p => by
      obtain ⟨F', vs, ds, ρ', ex, rel', rs, sv, q⟩ := sv_read h2 rel1 (Post.bind p)
      exact ⟨F', v :: vs, d :: ds, ρ', ex1.trans ex, rel', .cons (rep.mono ex) rs, hv vs sv, fun F2 H2 ex2 rel2 => q F2 H2 ex2 rel2 F2 H2 (Ex.refl _) rel2⟩
    cases x <;> first | (cases h1; done) | skip
    · rename_i i
      have post : Post K xa W e σ F (bindD (readV ρ i) fun x ρ => (evA C es ρ).bind fun xs ρ => .ok (x :: xs) ρ) Q := post
      unfold readV at post
      split at post
      · exact post.elim
      · exact post.elim
      · rename_i s hn hn2 hs
        obtain ⟨F1, v, ex1, hv, rep, rel1⟩ := rel.freeze hs ⟨fun xs z => hn xs (by rw [z]), fun a z => hn2 a (by rw [z])⟩
        exact tail _ v F1 _ ex1 rel1 rep (fun vs sv => .v hv sv) (Post.weak ex1 post)
      · exact post.elim
    · rename_i d
      exact tail d (vC d) F ρ (Ex.refl F) rel (vC_rep h1 F) (fun vs sv => .k sv) post
end
def tSrc : E → TE
  | .v i => tVar i
  | .k d => tC (vC d)
  | _ => fun _ _ _ => False
def trsOf : List D → Es → List (TE × TE)
  | k :: ks, .cons e es => (tC (vC k), tSrc e) :: trsOf ks es
  | _, _ => []
def lenEs : Es → Nat
  | .nil => 0
  | .cons _ es => lenEs es + 1
theorem tp_of {σ : L2.St} {H : Hp} : ∀ {ks : List D} {es : Es} {vs : List V} {Q : List (V × V) → Hp → Prop}, SvR σ es vs → ks.length = lenEs es → Q ((ks.map vC).zip vs) H → tPairs (trsOf ks es) σ H Q
  | [], _, _, Q, .nil, _, q => q
  | k :: ks, _, _, Q, .v hv sv, hl, q => by
    have hl : ks.length = lenEs _ := Nat.succ.inj hl
    exact ⟨_, hv, tp_of (Q := fun ps H3 => Q ((vC k, _) :: ps) H3) sv hl q⟩
  | k :: ks, _, _, Q, .k sv, hl, q => by
    have hl : ks.length = lenEs _ := Nat.succ.inj hl
    exact tp_of (Q := fun ps H3 => Q ((vC k, _) :: ps) H3) sv hl q
  | [], _, _, Q, .v _ _, hl, _ => nomatch hl
  | [], _, _, Q, .k _, hl, _ => nomatch hl
  | _ :: _, _, _, Q, .nil, hl, _ => nomatch hl
theorem sv_len {σ : L2.St} {es : Es} {vs : List V} (h : SvR σ es vs) : vs.length = lenEs es := by
  induction h with
  | nil => rfl
  | v _ _ ih => exact congrArg Nat.succ ih
  | k _ ih => exact congrArg Nat.succ ih
theorem zip_key {ks : List D} (h : ∀ k ∈ ks, keyD k = true) (vs : List V) : (ks.map vC).zip vs = ((ks.map keyK).zip vs).map fun kv => (kV kv.1, kv.2) := by
  induction ks generalizing vs with
  | nil => rfl
  | cons k r ih =>
    cases vs with
    | nil => rfl
    | cons v vs =>
      simp only [List.map_cons, List.zip_cons_cons]
      rw [ih (fun x hx => h x (List.mem_cons_of_mem _ hx)), keyK_V (h k List.mem_cons_self)]
theorem keys_of {ks : List D} (h : ∀ k ∈ ks, keyD k = true) : (ks.map keyK).map keyOf = ks := by
  induction ks with
  | nil => rfl
  | cons k r ih =>
    simp only [List.map_cons]
    rw [ih fun x hx => h x (List.mem_cons_of_mem _ hx), keyK_of (h k List.mem_cons_self)]
section
variable {τ : Tls} {X : Cx} {xa : XAt τ} {W : WX} {C : Cfg} {pos : Pos}
theorem dic_rel {e : Ent τ} {F H : Hp} {ρ : Env} {σ : L2.St} {ks ds : List D} {vs : List V} {p : Addr} (rel : Rel X.K e F H ρ σ) (hp : H p = none) (hk : keysOk ks = true) (hl : ks.length = vs.length) (hr : Reps X.K F vs ds) :
    Ex F (upd F p (.dK ((ks.map keyK).zip vs))) ∧ Rel X.K e (upd F p (.dK ((ks.map keyK).zip vs))) (upd H p (.dK ((ks.map keyK).zip vs))) ρ σ ∧ Rep X.K (upd F p (.dK ((ks.map keyK).zip vs))) (.ref p) (.dict (ks.zip ds)) := by
  have hF := rel.noneF hp
  refine ⟨Ex.new hF, rel.new hp, ?_⟩
  have := Rep.dic (K := X.K) (F := upd F p (.dK ((ks.map keyK).zip vs))) (a := p) (ks := ks.map keyK) (us := vs) (ds := ds) upd_same (by rw [List.length_map]; exact hl) (Reps.mono (Ex.new hF) hr)
  rwa [keys_of (keysOk_all hk)] at this
theorem pe_dic0 : PE X (.Dict [] [] pos) (tV X.K xa W (evE C (.dic [] .nil))) := by
  refine pe_weak pe_dnewK fun σ H Q ⟨e, F, ρ, rel, post⟩ p hp => ?_
  obtain ⟨a, b, c⟩ := dic_rel (ks := []) (ds := []) (vs := []) rel hp rfl rfl .nil
  exact post _ _ a b _ c
theorem pe_dicN {keys : List (Option Expr)} {values : List Expr} {ks : List D} {es : Es} (h : PPs X pos keys values (trsOf ks es)) (hs : simEs es = true) (hall : keys.all (·.isSome) = true) (hl : keys.length = values.length) (h0 : keys ≠ []) (h15 : keys.length ≤ 15) (hk : ks.length = lenEs es) :
    PE X (.Dict keys values pos) (tV X.K xa W (evE C (.dic ks es))) := by
  refine pe_weak (pe_disp h hall hl h0 h15) fun σ H Q ⟨e, F, ρ, rel, post⟩ p hp => ?_
  have post : Post X.K xa W e σ F ((evA C es ρ).bind fun ds ρ => R.ofO ((dicD ks ds).map Val.pv) ρ) _ := post
  obtain ⟨F', vs, ds, ρ', ex, rel', rs, sv, q⟩ := sv_read hs rel (Post.bind post)
  have q2 := q F' H (Ex.refl _) rel'
  obtain ⟨z, hz, q3⟩ := q2.ofO
  obtain ⟨w, hw, rfl⟩ := Option.map_eq_some_iff.mp hz
  unfold dicD at hw
  split at hw
  · rename_i hh
    cases hw
    obtain ⟨l1, l2, l3⟩ := hh
    have lv := sv_len sv
    refine tp_of sv hk ⟨upd_same, (ks.map keyK).zip vs, zip_key (keysOk_all l3) vs, ?_, ?_⟩
    · rw [List.length_zip, List.length_map]
      omega
    · have nd : (([] : List (L2.Key × V)).map (·.1) ++ ((ks.map keyK).zip vs).map (·.1)).Nodup := by
        rw [List.map_nil, List.nil_append, ← List.unzip_fst, List.unzip_zip (by rw [List.length_map]; omega)]
        exact keysOk_nd l3
      rw [merge_nd _ _ nd, List.nil_append, upd_upd]
      obtain ⟨a, b, c⟩ := dic_rel (ks := ks) (ds := ds) (vs := vs) rel' hp l3 (by omega) rs
      exact q3 _ _ a b _ c
  · cases hw
end
end Pv

namespace Pv
open PySem L2 PyProof.Rows

/-! ### does a text stand for a piece of the pure language? -/
structure Nm where
  fn : List Str
  gl : List Str
  ex : List Str
  cm : Bool
  lm : Bool
def bltNms : List Str := ["len", "abs", "int", "tuple", "list", "sum", "min", "max", "all", "any", "sorted", "isinstance", "bool", "str", "dict", "range", "zip", "enumerate", "ValueError", "repr"]
def lk (sc : Scope) (x : Str) : Option NameKind := sc.names.lookup x
def isLoc (sc : Scope) (x : Str) : Bool := decide (lk sc x = some .local)
def isCell (sc : Scope) (x : Str) : Bool := decide (lk sc x = some .cell)
def isFree (sc : Scope) (x : Str) : Bool := decide (lk sc x = some .free)
def isGlb (sc : Scope) (x : Str) : Bool := decide (lk sc x = some .globalImplicit) && !(x == ("__debug__" : Str))
def nameB (N : List Str) (sc : Scope) (i : Nat) (x : Str) : Bool := decide (N[i]? = some x) && (isLoc sc x || isCell sc x || isFree sc x) && !(x == ("__debug__" : Str)) && !(x == ("__classdict__" : Str))
def chkK : Const → D → Bool
  | .none, .none => true
  | .bool b, .bool c => b == c
  | .int i, .int j => decide (i = j)
  | .str s, .str t => decide (s = t)
  | _, _ => false
def chkTy (sc : Scope) (ex : Expr) (t : Ty) : Bool := match ex with
  | .Name x _ => decide (x = Str.ofString (tyStr t)) && isGlb sc x && bltNms.contains x && decide (t ≠ .non)
  | _ => false
def chkTys (sc : Scope) : List Expr → List Ty → Bool
  | [], [] => true
  | e :: es, t :: ts => chkTy sc e t && chkTys sc es ts
  | _, _ => false
def chkIsi (sc : Scope) (ex : Expr) (ts : List Ty) : Bool := match ex, ts with
  | .Tuple es _ _, ts => chkTys sc es ts && decide (ts.length ≤ LIM)
  | e, [t] => chkTy sc e t
  | _, _ => false
/-- a target: strict where the names must be the block's own -/
def chkNm (N : List Str) (sc : Scope) (strict : Bool) (ex : Expr) (i : Nat) : Bool := match ex with
  | .Name x _ => decide (N[i]? = some x) && (isLoc sc x || (!strict && isCell sc x))
  | _ => false
def chkNms (N : List Str) (sc : Scope) (strict : Bool) : List Expr → List Nat → Bool
  | [], [] => true
  | e :: es, i :: is => chkNm N sc strict e i && chkNms N sc strict es is
  | _, _ => false
def chkT1 (N : List Str) (sc : Scope) (strict : Bool) (ex : Expr) (t : Tg) : Bool := match t with
  | .n i => chkNm N sc strict ex i
  | .t is => (match ex with
    | .Tuple es _ _ => chkNms N sc strict es is
    | _ => false)
  | .u _ => false
def chkTu (N : List Str) (sc : Scope) (strict : Bool) : List Expr → List (List Nat) → Bool
  | [], [] => true
  | e :: es, t :: ts => chkT1 N sc strict e (tgOf t) && chkTu N sc strict es ts
  | _, _ => false
def chkTg (N : List Str) (sc : Scope) (strict : Bool) (ex : Expr) (t : Tg) : Bool := match t with
  | .n i => chkNm N sc strict ex i
  | .t is => (match ex with
    | .Tuple es _ _ => chkNms N sc strict es is
    | _ => false)
  | .u ts => (match ex with
    | .Tuple es _ _ => chkTu N sc strict es ts
    | _ => false)
def ownOf (N : List Str) (is : List Nat) : List (Str × Nat) := is.map fun i => (N.getD i Str.empty, i)
def isTupE : Expr → Bool
  | .Tuple _ _ _ => true
  | _ => false
def chkO (oe : Option Expr) (nop : Bool) (f : Expr → Bool) : Bool := match oe with
  | none => nop
  | some e => f e
def isYes : T → Bool
  | .yes => true
  | _ => false
def chkC (ifs : List Expr) (yes : Bool) (f : Expr → Bool) : Bool := match ifs with
  | [] => yes
  | [e] => f e
  | _ => false
/-- no parameter -/
def noPar : Arguments → Bool
  | ⟨[], [], none, [], [], none, []⟩ => true
  | _ => false
/-- a built-in's method on one line -/
def chkM (nm want : Str) (apos cpos : Pos) : Bool := decide (nm = want) && (apos.endLine == cpos.line)
def chkKeys : List (Option Expr) → List D → Bool
  | [], [] => true
  | some (.Constant c _ _) :: r, k :: ks => (chkK c k && keyD k) && chkKeys r ks
  | _, _ => false
/-- super() is left out -/
def plainB (e : Expr) : Bool := match e with
  | .Call (.Name _ _) [] [] _ => false
  | _ => true
mutual
def chkE (M : Nm) (N : List Str) (sc : Scope) (ex : Expr) : E → Bool
  | .nop => false
  | .v i => (match ex with
    | .Name x _ => nameB N sc i x
    | _ => false)
  | .k d => (match ex with
    | .Constant c _ _ => chkK c d
    | _ => false)
  | .g j => (match ex with
    | .Name x _ => isGlb sc x && decide (M.gl[j]? = some x)
    | _ => false)
  | .bin o a b => (match ex with
    | .BinOp l op r _ => decide (op = opOf o) && (chkE M N sc l a && chkE M N sc r b)
    | _ => false)
  | .neg a => (match ex with
    | .UnaryOp .USub e _ => chkE M N sc e a
    | _ => false)
  | .not a => (match ex with
    | .UnaryOp .Not e _ => chkE M N sc e a
    | _ => false)
  | .and a b => (match ex with
    | .BoolOp .And [x, y] _ => chkE M N sc x a && chkE M N sc y b
    | .BoolOp .And (x :: y :: z :: r) p => chkE M N sc x a && chkE M N sc (.BoolOp .And (y :: z :: r) p) b
    | _ => false)
  | .or a b => (match ex with
    | .BoolOp .Or [x, y] _ => chkE M N sc x a && chkE M N sc y b
    | .BoolOp .Or (x :: y :: z :: r) p => chkE M N sc x a && chkE M N sc (.BoolOp .Or (y :: z :: r) p) b
    | _ => false)
  | .cmp o a b => (match ex with
    | .Compare l [op] [r] _ => decide (op = cmpOf o) && (chkE M N sc l a && chkE M N sc r b)
    | _ => false)
  | .chain o o' a b c => (match ex with
    | .Compare l [op, op'] [m, r] _ => (decide (op = cmpOf o) && decide (op' = cmpOf o')) && (chkE M N sc l a && (chkE M N sc m b && chkE M N sc r c))
    | _ => false)
  | .ife c a b => (match ex with
    | .IfExp t x y _ => chkT M N sc t c && (chkE M N sc x a && chkE M N sc y b)
    | _ => false)
  | .tup es => (match ex with
    | .Tuple xs _ _ => chkEs M N sc xs es
    | _ => false)
  | .lst es => (match ex with
    | .List xs _ => chkEs M N sc xs es
    | _ => false)
  | .ix a i => (match ex with
    | .Subscript v s _ => chkE M N sc v a && chkE M N sc s i
    | _ => false)
  | .ixv j i => (match ex with
    | .Subscript (.Name x _) s _ => nameB N sc j x && chkE M N sc s i
    | _ => false)
  | .sl a lo hi => (match ex with
    | .Subscript v (.Slice l u none _) _ => chkE M N sc v a && (chkO l (isNop lo) (fun e => chkE M N sc e lo) && chkO u (isNop hi) (fun e => chkE M N sc e hi))
    | _ => false)
  | .slv j lo hi => (match ex with
    | .Subscript (.Name x _) (.Slice l u none _) _ => nameB N sc j x && (chkO l (isNop lo) (fun e => chkE M N sc e lo) && chkO u (isNop hi) (fun e => chkE M N sc e hi))
    | _ => false)
  | .rev a => (match ex with
    | .Subscript v (.Slice none none (some (.UnaryOp .USub (.Constant (.int 1) _ _) _)) _) _ => chkE M N sc v a
    | _ => false)
  | .call j es => (match ex with
    | .Call (.Name x _) (y :: ys) [] _ => M.cm && ((isGlb sc x && decide (M.fn[j]? = some x)) && chkEs M N sc (y :: ys) es)
    | _ => false)
  | .cio j i es => (match ex with
    | .Call (.Name x _) (.Name y _ :: ys) [] _ => M.cm && ((isGlb sc x && decide (M.fn[j]? = some x)) && (nameB N sc i y && chkEs M N sc ys es))
    | _ => false)
  | .craw j i => (match ex with
    | .Call (.Name x _) [.Name y _] [] _ => M.cm && ((isGlb sc x && decide (M.fn[j]? = some x)) && nameB N sc i y)
    | _ => false)
  | .scr i n => (match ex with
    | .Subscript (.Name x _) (.Slice none (some (.Constant (.int m) _ _)) none _) _ => nameB N sc i x && decide (m = n)
    | _ => false)
  | .b1 b a => (match ex with
    | .Call (.Name x _) [v] [] _ => M.cm && ((decide (x = bltName b) && isGlb sc x) && chkE M N sc v a)
    | _ => false)
  | .b2 b a c => (match ex with
    | .Call (.Name x _) [v, w] [] _ => M.cm && ((decide (x = bltName b) && isGlb sc x && (decide (b = .min) || decide (b = .max))) && (chkE M N sc v a && chkE M N sc w c))
    | _ => false)
  | .isi a ts => (match ex with
    | .Call (.Name x _) [v, w] [] _ => (decide (x = ("isinstance" : Str)) && isGlb sc x && chkIsi sc w ts) && chkE M N sc v a
    | _ => false)
  | .lc elt tg it c => (match ex with
    | .ListComp v [⟨t, i, ifs, 0⟩] scope _ => M.cm && (blkC N sc scope (ownOf N tg.slots) && (chkTg N (relS scope sc) true t tg && (chkI M N sc t i it && (chkE M N (relS scope sc) v elt && chkC ifs (isYes c) (fun e => chkT M N (relS scope sc) e c)))))
    | _ => false)
  | .lam j e => (match ex with
    | .Call (.Name x _) [.Lambda params body scope _] [] _ => (M.cm && M.lm) && ((isGlb sc x && decide (M.fn[j]? = some x)) && ((noPar params && LamX.lamSB sc scope) && chkE { M with lm := false } N scope body e))
    | _ => false)
  | .isx i c => (match ex with
    | .Call (.Name x _) [.Name y _, .Name z _] [] _ => (decide (x = ("isinstance" : Str)) && isGlb sc x) && (nameB N sc i y && (isGlb sc z && (match c with
      | some c' => decide (M.ex[c']? = some z)
      | none => decide (z = ("ValueError" : Str)))))
    | _ => false)
  | .fld _ _ => false
  | .dic ks es => (match ex with
    | .Dict keys values _ => (chkKeys keys ks && decide (keys.length ≤ 15)) && (simEs es && chkEs M N sc values es)
    | _ => false)
  | .cnt a x => (match ex with
    | .Call (.Attribute v nm apos) [w] [] cpos => (chkM nm "count" apos cpos && (plainB v && simE x)) && (chkE M N sc v a && chkE M N sc w x)
    | _ => false)
  | .idx a x => (match ex with
    | .Call (.Attribute v nm apos) [w] [] cpos => (chkM nm "index" apos cpos && (plainB v && simE x)) && (chkE M N sc v a && chkE M N sc w x)
    | _ => false)
  | .joi a b => (match ex with
    | .Call (.Attribute v nm apos) [w] [] cpos => (chkM nm "join" apos cpos && plainB v) && (chkE M N sc v a && chkE M N sc w b)
    | _ => false)
def chkEs (M : Nm) (N : List Str) (sc : Scope) (xs : List Expr) : Es → Bool
  | .nil => (match xs with
    | [] => true
    | _ => false)
  | .cons e es => (match xs with
    | x :: r => chkE M N sc x e && chkEs M N sc r es
    | _ => false)
def chkI (M : Nm) (N : List Str) (sc : Scope) (tg ex : Expr) : It → Bool
  | .rng es => (match ex with
    | .Call (.Name x _) [a] [] _ => (decide (x = ("range" : Str)) && isGlb sc x) && chkEs M N sc [a] es
    | .Call (.Name x _) [a, b] [] _ => (decide (x = ("range" : Str)) && isGlb sc x) && chkEs M N sc [a, b] es
    | .Call (.Name x _) [a, b, c] [] _ => (decide (x = ("range" : Str)) && isGlb sc x) && chkEs M N sc [a, b, c] es
    | _ => false)
  | .of e => chkE M N sc ex e
  | .zip a b => (match ex with
    | .Call (.Name x _) [v, w] [] _ => (decide (x = ("zip" : Str)) && isGlb sc x && isTupE tg) && (chkE M N sc v a && chkE M N sc w b)
    | _ => false)
  | .enum a => (match ex with
    | .Call (.Name x _) [v] [] _ => (decide (x = ("enumerate" : Str)) && isGlb sc x && isTupE tg) && chkE M N sc v a
    | _ => false)
def chkT (M : Nm) (N : List Str) (sc : Scope) (ex : Expr) : T → Bool
  | .e a => (match ex with
    | .BoolOp _ _ _ => false
    | .UnaryOp .Not _ _ => false
    | .IfExp _ _ _ _ => false
    | e => chkE M N sc e a)
  | .and a b => (match ex with
    | .BoolOp .And [x, y] _ => chkT M N sc x a && chkT M N sc y b
    | .BoolOp .And (x :: y :: z :: r) p => chkT M N sc x a && chkT M N sc (.BoolOp .And (y :: z :: r) p) b
    | _ => false)
  | .or a b => (match ex with
    | .BoolOp .Or [x, y] _ => chkT M N sc x a && chkT M N sc y b
    | .BoolOp .Or (x :: y :: z :: r) p => chkT M N sc x a && chkT M N sc (.BoolOp .Or (y :: z :: r) p) b
    | _ => false)
  | .not a => (match ex with
    | .UnaryOp .Not e _ => chkT M N sc e a
    | _ => false)
  | .yes => false
end
end Pv

namespace Pv
open PySem L2 PyProof.Rows

/-- a def that the context may call -/
def FnAt (X : Cx) (xa : XAt τ) (call : Nat → List Slot → FR) (k j : Nat) (x : Str) : Prop := ∃ f fd ps, X.mg x = some (.ref f) ∧ PySem.W.keepIn X.K (.ref f) = true ∧ Binds X.K fd ps [] ∧ FnOk X.prog X.w X.K X.mg X.base (L2.CX X.prog X.w) k f fd ps (spOf X.K xa call j)
/-- a def that takes a lambda -/
def WdAt (X : Cx) (xa : XAt τ) (gl : Gls) (w : WFn) (x : Str) (q : Str) : Prop := ∃ (a : Str) (g : Addr) (pg : Arguments) (bg : List Stmt) (sg : Scope) (dV kV doc pm cdv ct oc : Value) (an od : Option Addr) (osl : Array (Option Value)) (Ng : List Str),
  X.mg x = some (.ref g) ∧ PySem.W.keepIn X.K (.ref g) = true ∧ X.K.lookup g = some ⟨oc, od, .func (PySem.W.fnOf x x pg bg sg dV kV doc pm an cdv ct), osl⟩ ∧ PySem.W.codeIn X.K cdv x = true ∧
  L2.Binds X.K (PySem.W.fnOf x x pg bg sg dV kV doc pm an cdv ct) [a] [] ∧ FnScope Ng [a] sg ∧ Ng[0]? = some a ∧ Vis sg a ∧ GiveS X Ng x sg g cdv bg a q (TTw X.K xa gl w) ∧ (a == ("__debug__" : Str)) = false ∧ (a == ("__classdict__" : Str)) = false
/-- the context's own code object and table -/
def LamAt (τ : Tls) (X : Cx) : Prop := ∃ c P, X.env.code = .ref c ∧ LamX.TabB X.base X.mg c P ∧ (P, X.env.qual ++ "<lambda>") ∈ τ ∧ ∀ p ∈ τ, p.1 = P → p.2 = X.env.qual ++ "<lambda>"
/-- what the context grants -/
structure Gd (X : Cx) (C : Cfg) (M : Nm) (xa : XAt τ) (k : Nat) : Prop where
  calm : M.cm = true → X.calm = true
  nd : X.N.Nodup
  kind : X.env.scope.kind = .function
  units : X.A.units + 100 < cLine
  room : M.cm = true → Room k X.A
  fns : ∀ j x, M.fn[j]? = some x → FnAt X xa C.call k j x
  lam : M.lm = true → LamAt τ X
  low : M.lm = true → (∃ k', k = k' + 2 ∧ (∀ j x, M.fn[j]? = some x → FnAt X xa C.lowc k' j x) ∧ C.wrd = wrdOf C.gl ∧ ∀ j x w, M.fn[j]? = some x → C.gl.w j = some w → WdAt X xa C.gl w x (X.env.qual ++ "<lambda>")) ∨ ∀ j o, C.wrd j o = .bad
  exn : M.cm = true → C.ex = none
  held : ∀ a c, C.ex = some (a, c, none) → CallR X (.builtin "isinstance") (rIsE X.K (xa c) a) ∧ c < C.gl.nx
  kit : ∀ c, c < C.gl.nx → PySem.W.kitOne X.K (.ref (xa c)) (.type "ValueError") = some true ∧ ∀ c' x, M.ex[c']? = some x → PySem.W.kitOne X.K (.ref (xa c)) (.ref (xa c')) = some (isub c c')
  gls : ∀ j x d, M.gl[j]? = some x → C.gl j = some d → ∃ u v, X.mg x = some u ∧ RelV v u ∧ ∀ F, Rep X.K F v d
  blt : ∀ x ∈ bltNms, X.mg x = none
  exs : ∀ c x, M.ex[c]? = some x → X.mg x = some (.ref (xa c)) ∧ PySem.W.keepIn X.K (.ref (xa c)) = true ∧ PySem.W.excIn X.K (xa c) He.veBase "ValueError.__new__" = true ∧ PySem.W.subIn X.K (.ref (xa c)) (.type "BaseException") = some true ∧ PySem.W.typeIn X.K (.ref (xa c)) = some (.type "type")
section
variable {M : Nm} {N : List Str} {sc : Scope}
theorem chk_star {e : Expr} {p : Pos} (m : E) : chkE M N sc (.Starred e p) m = false := by cases m <;> rfl
theorem chk_slice {l u s : Option Expr} {p : Pos} (m : E) : chkE M N sc (.Slice l u s p) m = false := by cases m <;> rfl
theorem chk_set {es : List Expr} {k : Nat} {p : Pos} (m : E) : chkE M N sc (.Set es k p) m = false := by cases m <;> rfl
theorem star_of {ex : Expr} {m : E} (h : chkE M N sc ex m = true) (es : List Expr) (env : PySem.Env) : starEach (ex :: es) env = (false, eval ex env) :: starEach es env := by
  cases ex <;> first | rfl | (rw [chk_star] at h; cases h)
theorem plain_of {ex : Expr} {m : E} (h : chkE M N sc ex m = true) : PlainIx ex := by
  intro o i
  cases ex <;> first | rfl | (rw [chk_slice] at h; cases h)
theorem mark_of {ex : Expr} {m : E} (h : chkE M N sc ex m = true) (op : CmpOp) : behindInMarks op ex = false := by
  cases ex <;> first | rfl | (rw [chk_set] at h; cases h)
theorem fold_of {ex : Expr} {m : E} (h : chkE M N sc ex m = true) (env : PySem.Env) (x : Value) : foldedSetIterable ex env x = pure x := by
  cases ex <;> first | rfl | (rw [chk_set] at h; cases h)
theorem back_star {ex : Expr} {m : E} (h : chkE M N sc ex m = true) {es : List Expr} {env : PySem.Env} {pos : Pos} (hr : (backTo pos (starEach es env)).any (·.1) = false) : (backTo pos (starEach (ex :: es) env)).any (·.1) = false := by
  rw [star_of h]
  exact hr
theorem chkEs_back : ∀ (m : Es) {xs : List Expr} {env : PySem.Env} {pos : Pos}, chkEs M N sc xs m = true → (backTo pos (starEach xs env)).any (·.1) = false
  | .nil, xs, env, pos, h => by
    cases xs with
    | nil => rfl
    | cons x r => cases h
  | .cons e es, xs, env, pos, h => by
    cases xs with
    | nil => cases h
    | cons x r =>
      have h : (chkE M N sc x e && chkEs M N sc r es) = true := h
      rw [Bool.and_eq_true] at h
      exact back_star h.1 (chkEs_back es h.2)
theorem ba {a b : Bool} (h : (a && b) = true) : a = true ∧ b = true := by rwa [Bool.and_eq_true] at h
theorem glb_of {X : Cx} {x : Str} (h : isGlb X.env.scope x = true) : Gl X x ∧ (x == ("__debug__" : Str)) = false := by
  obtain ⟨h1, h2⟩ := ba h
  have h1' : lk X.env.scope x = some .globalImplicit := of_decide_eq_true h1
  refine ⟨h1', ?_⟩
  cases hx : x == ("__debug__" : Str) with
  | false => rfl
  | true => rw [hx] at h2; cases h2
theorem name_of {X : Cx} {i : Nat} {x : Str} {p : Pos} (h : nameB X.N X.env.scope i x = true) : PE X (.Name x p) (tVar i) := by
  obtain ⟨h1, h4⟩ := ba h
  obtain ⟨h1, h3⟩ := ba h1
  obtain ⟨h1, h2⟩ := ba h1
  have nb : ∀ y : Str, (!(x == y)) = true → (x == y) = false := fun y hy => by
    cases hx : x == y with
    | false => rfl
    | true => rw [hx] at hy; cases hy
  refine pe_var (of_decide_eq_true h1) ?_ (nb _ h3) (nb _ h4)
  rcases Bool.or_eq_true_iff.mp h2 with h2 | h2
  · rcases Bool.or_eq_true_iff.mp h2 with h2 | h2
    · exact .inl (of_decide_eq_true h2)
    · exact .inr (.inl (of_decide_eq_true h2))
  · exact .inr (.inr (of_decide_eq_true h2))
theorem blt_in (b : Blt) : bltName b ∈ bltNms := by cases b <;> decide
end
section
variable {τ : Tls} {C : Cfg} {M : Nm} {xa : XAt τ} {k : Nat}
theorem isV_E {m : E} {i : Nat} (h : isV m = some i) : m = .v i := by cases m <;> first | (cases h; rfl) | cases h
theorem pe_pk {X : Cx} {W : WX} {ex : Expr} {m : E} (h : PE X ex (tV X.K xa W (evE C m))) (hc : chkE M X.N X.env.scope ex m = true) : PE X ex (tP X.K xa W fun ρ => pk (isV m) (fun ρ => evE C m ρ) ρ) := by
  cases hi : isV m with
  | none => exact pe_toP h
  | some i =>
    have := isV_E hi
    subst this
    cases ex <;> first | (cases hc; done) | skip
    exact pe_look (name_of hc)
theorem ty_ok {X : Cx} {ex : Expr} {t : Ty} (hb : ∀ x ∈ bltNms, X.mg x = none) (h : chkTy X.env.scope ex t = true) : PE X ex (tC (.ty (tyStr t))) ∧ ∀ es, starEach (ex :: es) X.env = (false, eval ex X.env) :: starEach es X.env := by
  unfold chkTy at h
  split at h
  · rename_i x p
    obtain ⟨h, h4⟩ := ba h
    obtain ⟨h, h3⟩ := ba h
    obtain ⟨h1, h2⟩ := ba h
    have e1 := of_decide_eq_true h1
    have hn := of_decide_eq_true h4
    obtain ⟨g1, g2⟩ := glb_of h2
    refine ⟨?_, fun es => rfl⟩
    have hm := hb x (by simpa using h3)
    subst e1
    refine pe_bltn g1 hm ?_ rfl ?_ g2
    · cases t <;> first | decide +kernel | exact absurd rfl hn
    · cases t <;> decide
  · cases h
theorem tys_ok {X : Cx} (hb : ∀ x ∈ bltNms, X.mg x = none) : ∀ {es : List Expr} {ts : List Ty}, chkTys X.env.scope es ts = true → TyNms X ts es
  | [], [], _ => .nil
  | [], _ :: _, h => by cases h
  | _ :: _, [], h => by cases h
  | e :: es, t :: ts, h => by
    have h : (chkTy X.env.scope e t && chkTys X.env.scope es ts) = true := h
    obtain ⟨h1, h2⟩ := ba h
    obtain ⟨a, b⟩ := ty_ok hb h1
    exact .cons a (b es) (tys_ok hb h2)
theorem nm_ok {X : Cx} {ex : Expr} {i : Nat} {strict : Bool} (hN : X.N.Nodup) (hf : strict = true ∨ ∀ x, X.fn x = true) (h : chkNm X.N X.env.scope strict ex i = true) : PG X ex (gName i) ∧ ∀ es, (assignEach (ex :: es) X.env).map (·.2) = assign ex X.env :: (assignEach es X.env).map (·.2) := by
  unfold chkNm at h
  split at h
  · obtain ⟨h1, h2⟩ := ba h
    refine ⟨?_, fun es => rfl⟩
    rcases Bool.or_eq_true_iff.mp h2 with h2 | h2
    · exact pg_name hN (of_decide_eq_true h1) (.inl (of_decide_eq_true h2)) (.inr (of_decide_eq_true h2))
    · obtain ⟨h2, h3⟩ := ba h2
      rcases hf with hf | hf
      · rw [hf] at h2; cases h2
      · exact pg_name hN (of_decide_eq_true h1) (.inr (of_decide_eq_true h3)) (.inl (hf _))
  · cases h
theorem nms_ok {X : Cx} {strict : Bool} (hN : X.N.Nodup) (hf : strict = true ∨ ∀ x, X.fn x = true) : ∀ {es : List Expr} {is : List Nat}, chkNms X.N X.env.scope strict es is = true → NmOk X is es ∧ (assignEach es X.env).length = is.length ∧ (assignEach es X.env).findIdx? (·.1) = none
  | [], [], _ => ⟨.nil, rfl, rfl⟩
  | [], _ :: _, h => by cases h
  | _ :: _, [], h => by cases h
  | e :: es, i :: is, h => by
    have h : (chkNm X.N X.env.scope strict e i && chkNms X.N X.env.scope strict es is) = true := h
    obtain ⟨h1, h2⟩ := ba h
    obtain ⟨a, b⟩ := nm_ok hN hf h1
    obtain ⟨c, d, f⟩ := nms_ok hN hf h2
    refine ⟨.cons a (b es) c, ?_, ?_⟩
    · unfold chkNm at h1
      split at h1
      · show (assignEach es X.env).length + 1 = is.length + 1
        rw [d]
      · cases h1
    · unfold chkNm at h1
      split at h1
      · show ((false, _) :: assignEach es X.env).findIdx? (·.1) = none
        rw [List.findIdx?_cons]
        simp [f]
      · cases h1
theorem t1_ok {X : Cx} {ex : Expr} {t : Tg} {strict : Bool} (hc : X.calm = true) (hN : X.N.Nodup) (hf : strict = true ∨ ∀ x, X.fn x = true) (h : chkT1 X.N X.env.scope strict ex t = true) : PG X ex (tG τ X.K t) ∧ ∀ es, assignEach (ex :: es) X.env = (false, assign ex X.env) :: assignEach es X.env := by
  cases t with
  | n i =>
    have h : chkNm X.N X.env.scope strict ex i = true := h
    refine ⟨pg_n (nm_ok hN hf h).1, ?_⟩
    unfold chkNm at h
    split at h
    · exact fun es => rfl
    · cases h
  | t is =>
    unfold chkT1 at h
    dsimp only at h
    split at h
    · obtain ⟨a, b, c⟩ := nms_ok hN hf h
      exact ⟨pg_t hc a b c, fun es => rfl⟩
    · cases h
  | u ts => cases h
theorem tu_ok {X : Cx} {strict : Bool} (hc : X.calm = true) (hN : X.N.Nodup) (hf : strict = true ∨ ∀ x, X.fn x = true) : ∀ {es : List Expr} {ts : List (List Nat)}, chkTu X.N X.env.scope strict es ts = true → TgOk τ X ts es ∧ (assignEach es X.env).length = ts.length ∧ (assignEach es X.env).findIdx? (·.1) = none
  | [], [], _ => ⟨.nil, rfl, rfl⟩
  | [], _ :: _, h => by cases h
  | _ :: _, [], h => by cases h
  | e :: es, t :: ts, h => by
    have h : (chkT1 X.N X.env.scope strict e (tgOf t) && chkTu X.N X.env.scope strict es ts) = true := h
    obtain ⟨h1, h2⟩ := ba h
    obtain ⟨a, b⟩ := t1_ok hc hN hf h1
    obtain ⟨c, d, f⟩ := tu_ok hc hN hf h2
    refine ⟨.cons a (by rw [b es]; rfl) c, ?_, ?_⟩
    · rw [b es]
      show (assignEach es X.env).length + 1 = ts.length + 1
      rw [d]
    · rw [b es, List.findIdx?_cons]
      simp [f]
theorem tg_ok {X : Cx} {ex : Expr} {t : Tg} {strict : Bool} (hc : X.calm = true) (hN : X.N.Nodup) (hf : strict = true ∨ ∀ x, X.fn x = true) (h : chkTg X.N X.env.scope strict ex t = true) : PG X ex (tG τ X.K t) := by
  cases t with
  | n i => exact pg_n (nm_ok hN hf h).1
  | t is =>
    unfold chkTg at h
    dsimp only at h
    split at h
    · obtain ⟨a, b, c⟩ := nms_ok hN hf h
      exact pg_t hc a b c
    · cases h
  | u ts =>
    unfold chkTg at h
    dsimp only at h
    split at h
    · obtain ⟨a, b, c⟩ := tu_ok hc hN hf h
      exact pg_u hc a b c
    · cases h
theorem gd_blk {X : Cx} (g : Gd X C M xa k) (cm : M.cm = true) {s : Shared} {H : Hp} {scope : Scope} {cl : List (Str × Addr)} {c : Addr} {fp : List Addr} (hk : scope.kind = .function) : Gd (X.blk s H scope (compEnvC scope cl c X.env) fp) C M xa k :=
  ⟨g.calm, g.nd, hk, g.units, g.room, g.fns, g.lam, g.low, g.exn, fun a c h => absurd ((g.exn cm).symm.trans h) (fun z => nomatch z), g.kit, g.gls, g.blt, g.exs⟩
theorem takesF {X : Cx} : Takes X WF := L2.takes0
theorem test_he {ex : Expr} (h1 : ∀ op vs p, ex ≠ .BoolOp op vs p) (h2 : ∀ e p, ex ≠ .UnaryOp .Not e p) (h3 : ∀ a b c p, ex ≠ .IfExp a b c p) (h4 : ∀ l o r p, ex ≠ .Compare l o r p) (env : PySem.Env) (whole : Sem Value) :
    isTrue ex env whole = (do let v ← whole; standAt ex.pos; holding [v] (truthy v)) := by
  cases ex <;> first | rfl | exact absurd rfl (h1 _ _ _) | exact absurd rfl (h3 _ _ _ _) | exact absurd rfl (h4 _ _ _ _) | skip
  rename_i op e p
  cases op <;> first | rfl | exact absurd rfl (h2 _ _)
theorem takes_n {X : Cx} : ∀ {W : WX}, Takes X W → Takes X W := fun h => h

theorem fn_at {X : Cx} (g : Gd X C M xa k) {j : Nat} {x : Str} (h : (isGlb X.env.scope x && decide (M.fn[j]? = some x)) = true) : Gl X x ∧ (x == ("__debug__" : Str)) = false ∧ FnAt X xa C.call k j x := by
  obtain ⟨h1, h2⟩ := ba h
  obtain ⟨a, b⟩ := glb_of h1
  exact ⟨a, b, g.fns j x (of_decide_eq_true h2)⟩
/-- the parts of a list comprehension -/
theorem lc_parts {X : Cx} {W : WX} (g : Gd X C M xa k) (cm : M.cm = true) {v t i : Expr} {ifs : List Expr} {scope : Scope} {elt : E} {tg : Tg} {it : It} {c : T}
    (h : (blkC X.N X.env.scope scope (ownOf X.N tg.slots) && (chkTg X.N (relS scope X.env.scope) true t tg && (chkI M X.N X.env.scope t i it && (chkE M X.N (relS scope X.env.scope) v elt && chkC ifs (isYes c) (fun e => chkT M X.N (relS scope X.env.scope) e c))))) = true)
    (hI : chkI M X.N X.env.scope t i it = true → PI X t i (tI X.K xa W (evI C it)) ∧ ∀ x, foldedSetIterable i X.env x = pure x)
    (hE : ∀ {X' : Cx}, Gd X' C M xa k → X'.N = X.N → X'.K = X.K → X'.env.scope = relS scope X.env.scope → PE X' v (tV X.K xa WF (evE C elt)))
    (hT : ∀ {X' : Cx} {e : Expr}, Gd X' C M xa k → X'.N = X.N → X'.K = X.K → X'.env.scope = relS scope X.env.scope → chkT M X'.N X'.env.scope e c = true → PT X' e (tBo X.K xa WF (evT C c))) :
    BlkOk X.N X.env.scope scope (ownOf X.N tg.slots) ∧ PI X t i (tI X.K xa W (evI C it)) ∧
      (∀ (s : Shared) (H : Hp) (c' : Addr) (cl : List (Str × Addr)) (fp : List Addr), PG (X.blk s H scope (compEnvC scope cl c' X.env) fp) t (tG τ X.K tg)) ∧
      (∀ (s : Shared) (H : Hp) (c' : Addr) (cl : List (Str × Addr)) (fp : List Addr), PTs (X.blk s H scope (compEnvC scope cl c' X.env) fp) ifs (tBo X.K xa WF (evT C c))) ∧
      (∀ (s : Shared) (H : Hp) (c' : Addr) (cl : List (Str × Addr)) (fp : List Addr), PE (X.blk s H scope (compEnvC scope cl c' X.env) fp) v (tD X.K xa WF fun ρ => dd (evE C elt ρ))) ∧ (∀ x, foldedSetIterable i X.env x = pure x) ∧ (ownOf X.N tg.slots).map (·.2) = tg.slots := by
  obtain ⟨h1, h⟩ := ba h
  obtain ⟨h2, h⟩ := ba h
  obtain ⟨h3, h⟩ := ba h
  obtain ⟨h4, h5⟩ := ba h
  have B := blkOk_by h1
  obtain ⟨pi, fo⟩ := hI h3
  refine ⟨B, pi, fun s H c' cl fp => ?_, fun s H c' cl fp => ?_, fun s H c' cl fp => ?_, fo, ?_⟩
  · exact tg_ok (X := X.blk s H scope (compEnvC scope cl c' X.env) fp) (g.calm cm) g.nd (.inl rfl) h2
  · have g' : Gd (X.blk s H scope (compEnvC scope cl c' X.env) fp) C M xa k := gd_blk g cm B.kind
    unfold chkC at h5
    split at h5
    · have ey : c = .yes := by cases c <;> first | rfl | cases h5
      subst ey
      exact pts_yes
    · exact pts_one (hT g' rfl rfl rfl h5)
    · cases h5
  · exact pe_toD (hE (gd_blk g cm B.kind) rfl rfl rfl)
  · unfold ownOf
    rw [List.map_map]
    exact List.map_id _
theorem base_of {e : Expr} (h : plainB e = true) (attr : Str) (env : PySem.Env) : attributeBase e attr env (eval e env) = eval e env := by
  unfold plainB at h
  split at h
  · cases h
  · rename_i hn
    cases e <;> first | rfl | skip
    rename_i f args kws p
    cases f <;> first | rfl | skip
    cases args <;> first | rfl | skip
    cases kws <;> first | rfl | skip
    exact absurd rfl (hn _ _ _)
theorem cst_ok {X : Cx} {ex : Expr} {d : D} {N : List Str} {sc : Scope} (h : chkE M N sc ex (.k d) = true) : PE X ex (tC (vC d)) := by
  unfold chkE at h
  split at h
  · unfold chkK at h
    split at h
    · exact pe_non
    · rename_i b c
      have e : b = c := by simpa using h
      subst e
      exact pe_bl
    · have e := of_decide_eq_true h
      subst e
      exact pe_int
    · have e := of_decide_eq_true h
      subst e
      exact pe_str
    · cases h
  · cases h
theorem sim_ok {X : Cx} {ex : Expr} {m : E} (hs : simE m = true) (h : chkE M X.N X.env.scope ex m = true) : ∃ rd, Sm X ex rd ∧ ∀ C : Cfg, (fun ρ => pk (isV m) (fun ρ => evE C m ρ) ρ) = rd := by
  cases m <;> first | (cases hs; done) | skip
  · rename_i i
    cases ex <;> first | (cases h; done) | skip
    exact ⟨_, sm_v (name_of h), fun C => rfl⟩
  · rename_i d
    exact ⟨_, sm_k (cst_ok h) (vC_rep hs), fun C => rfl⟩
theorem src_ok {X : Cx} {ex : Expr} {m : E} (hs : simE m = true) (h : chkE M X.N X.env.scope ex m = true) : PE X ex (tSrc m) := by
  cases m <;> first | (cases hs; done) | skip
  · cases ex <;> first | (cases h; done) | skip
    exact name_of h
  · exact cst_ok h
theorem dic_pps {X : Cx} {pos : Pos} : ∀ {keys : List (Option Expr)} {values : List Expr} {ks : List D} {es : Es}, chkKeys keys ks = true → simEs es = true → chkEs M X.N X.env.scope values es = true → ks.length = lenEs es →
    PPs X pos keys values (trsOf ks es) ∧ keys.all (·.isSome) = true ∧ keys.length = values.length
  | [], values, ks, es, h1, _, h3, hl => by
    cases ks with
    | cons _ _ => cases h1
    | nil =>
      cases es with
      | cons _ _ => cases hl
      | nil =>
        cases values with
        | cons _ _ => cases h3
        | nil => exact ⟨pps_nil, rfl, rfl⟩
  | key :: keys, values, ks, es, h1, h2, h3, hl => by
    cases ks with
    | nil => cases key <;> first | cases h1 | (rename_i c; cases c <;> cases h1)
    | cons k ks =>
      cases es with
      | nil => cases hl
      | cons e es =>
        cases values with
        | nil => cases h3
        | cons v vs =>
          obtain ⟨h4, h5⟩ := ba (show (simE e && simEs es) = true from h2)
          obtain ⟨h6, h7⟩ := ba (show (chkE M X.N X.env.scope v e && chkEs M X.N X.env.scope vs es) = true from h3)
          unfold chkKeys at h1
          split at h1
          · rename_i e1 e2
            cases e1
          · rename_i c p q r k' ks' e1 e2
            cases e1
            cases e2
            obtain ⟨h8, h9⟩ := ba h1
            obtain ⟨h10, h11⟩ := ba h8
            obtain ⟨P, a, b⟩ := dic_pps (pos := pos) h9 h5 h7 (Nat.succ.inj hl)
            exact ⟨pps_cons (cst_ok (M := M) (N := X.N) (sc := X.env.scope) (show chkE M X.N X.env.scope (.Constant c p q) (.k k) = true from h10)) (src_ok h4 h6) P, a, congrArg Nat.succ b⟩
          · cases h1
end
section
variable {τ : Tls} {xa : XAt τ}
mutual
theorem soundE : ∀ (m : E) {C : Cfg} {M : Nm} {k : Nat} {X : Cx} {W : WX} {ex : Expr}, Gd X C M xa k → Takes X W → chkE M X.N X.env.scope ex m = true → PE X ex (tV X.K xa W (evE C m))
  | .nop, C, M, k, X, W, ex, g, tk, h => by cases h
  | .v i, C, M, k, X, W, ex, g, tk, h => by
    unfold chkE at h
    split at h
    · exact pe_read (name_of h)
    · cases h
  | .k d, C, M, k, X, W, ex, g, tk, h => by
    unfold chkE at h
    split at h
    · unfold chkK at h
      split at h
      · exact pe_const pe_non fun F => .non
      · rename_i b c
        have e1 : b = c := by simpa using h
        subst e1
        exact pe_const pe_bl fun F => .bl b
      · rename_i i j
        have e1 := of_decide_eq_true h
        subst e1
        exact pe_const pe_int fun F => .int i
      · rename_i s t
        have e1 := of_decide_eq_true h
        subst e1
        exact pe_const pe_str fun F => .str s
      · cases h
    · cases h
  | .g j, C, M, k, X, W, ex, g, tk, h => by
    unfold chkE at h
    split at h
    · rename_i x p
      obtain ⟨h1, h2⟩ := ba h
      obtain ⟨g1, g2⟩ := glb_of h1
      cases hd : C.gl j with
      | none =>
        refine ⟨fun pins s σ H Q I hq => ?_⟩
        obtain ⟨e, F, ρ, rel, post⟩ := hq
        have post : Post X.K xa W e σ F (R.ofO ((C.gl j).map Val.pv) ρ) _ := post
        rw [hd] at post
        exact post.elim
      | some d =>
        obtain ⟨u, v, hu, rv, rep⟩ := g.gls j x d (of_decide_eq_true h2) hd
        refine pe_weak (pe_glob g1 hu rv g2) fun σ H Q ⟨e, F, ρ, rel, post⟩ => ?_
        have post : Post X.K xa W e σ F (R.ofO ((C.gl j).map Val.pv) ρ) _ := post
        rw [hd] at post
        exact post F H (Ex.refl F) rel v (rep F)
    · cases h
  | .bin o a b, C, M, k, X, W, ex, g, tk, h => by
    unfold chkE at h
    split at h
    · obtain ⟨h1, h⟩ := ba h
      obtain ⟨h2, h3⟩ := ba h
      have e1 := of_decide_eq_true h1
      subst e1
      exact pe_binS (bin_ok o) (soundE a g tk h2) (soundE b g tk h3)
    · cases h
  | .neg a, C, M, k, X, W, ex, g, tk, h => by
    unfold chkE at h
    split at h
    · exact pe_neg' (soundE a g tk h)
    · cases h
  | .not a, C, M, k, X, W, ex, g, tk, h => by
    unfold chkE at h
    split at h
    · exact pe_not' (soundE a g tk h)
    · cases h
  | .and a b, C, M, k, X, W, ex, g, tk, h => by
    unfold chkE at h
    split at h
    · obtain ⟨h1, h2⟩ := ba h
      exact pe_and' (soundE a g tk h1) (pe_one (soundE b g tk h2))
    · obtain ⟨h1, h2⟩ := ba h
      exact pe_and' (soundE a g tk h1) (soundE b g tk h2)
    · cases h
  | .or a b, C, M, k, X, W, ex, g, tk, h => by
    unfold chkE at h
    split at h
    · obtain ⟨h1, h2⟩ := ba h
      exact pe_or' (soundE a g tk h1) (pe_one (soundE b g tk h2))
    · obtain ⟨h1, h2⟩ := ba h
      exact pe_or' (soundE a g tk h1) (soundE b g tk h2)
    · cases h
  | .cmp o a b, C, M, k, X, W, ex, g, tk, h => by
    unfold chkE at h
    split at h
    · obtain ⟨h1, h⟩ := ba h
      obtain ⟨h2, h3⟩ := ba h
      have e1 := of_decide_eq_true h1
      subst e1
      exact pe_cmpP (cmp_ok g.units o) (soundE a g tk h2) (pe_pk (soundE b g tk h3) h3) (mark_of h3 _)
    · cases h
  | .chain o o' a b c, C, M, k, X, W, ex, g, tk, h => by
    unfold chkE at h
    split at h
    · obtain ⟨h0, h⟩ := ba h
      obtain ⟨h1, h2⟩ := ba h0
      obtain ⟨h3, h⟩ := ba h
      obtain ⟨h4, h5⟩ := ba h
      have e1 := of_decide_eq_true h1
      have e2 := of_decide_eq_true h2
      subst e1
      subst e2
      exact pe_chainP (cmp_ok g.units o) (cmp_ok g.units o') (soundE a g tk h3) (soundE b g tk h4) (soundE c g tk h5) (mark_of h5 _)
    · cases h
  | .ife c a b, C, M, k, X, W, ex, g, tk, h => by
    unfold chkE at h
    split at h
    · obtain ⟨h1, h⟩ := ba h
      obtain ⟨h2, h3⟩ := ba h
      exact pe_ife' (soundT c g tk h1).1 (soundE a g tk h2) (soundE b g tk h3)
    · cases h
  | .tup es, C, M, k, X, W, ex, g, tk, h => by
    unfold chkE at h
    split at h
    · exact pe_tup' (soundEs es g tk h).1
    · cases h
  | .lst es, C, M, k, X, W, ex, g, tk, h => by
    unfold chkE at h
    split at h
    · exact pe_lst' (soundEs es g tk h).1
    · cases h
  | .ix a i, C, M, k, X, W, ex, g, tk, h => by
    unfold chkE at h
    split at h
    · obtain ⟨h1, h2⟩ := ba h
      exact pe_ixE (soundE a g tk h1) (soundE i g tk h2) (plain_of h2)
    · cases h
  | .ixv j i, C, M, k, X, W, ex, g, tk, h => by
    unfold chkE at h
    split at h
    · obtain ⟨h1, h2⟩ := ba h
      exact pe_ixv (name_of h1) (soundE i g tk h2) (plain_of h2)
    · cases h
  | .sl a lo hi, C, M, k, X, W, ex, g, tk, h => by
    unfold chkE at h
    split at h
    · obtain ⟨h1, h⟩ := ba h
      obtain ⟨h2, h3⟩ := ba h
      refine pe_slE (soundE a g tk h1) ?_ ?_
      · unfold chkO at h2
        split at h2
        · have e1 : lo = .nop := by cases lo <;> first | rfl | cases h2
          subst e1
          exact po_none'
        · have e1 : isNop lo = false := by cases lo <;> first | rfl | cases h2
          rw [e1]
          exact po_some' (soundE lo g tk h2)
      · unfold chkO at h3
        split at h3
        · have e1 : hi = .nop := by cases hi <;> first | rfl | cases h3
          subst e1
          exact po_none'
        · have e1 : isNop hi = false := by cases hi <;> first | rfl | cases h3
          rw [e1]
          exact po_some' (soundE hi g tk h3)
    · cases h
  | .slv j lo hi, C, M, k, X, W, ex, g, tk, h => by
    unfold chkE at h
    split at h
    · obtain ⟨h1, h⟩ := ba h
      obtain ⟨h2, h3⟩ := ba h
      refine pe_slv (name_of h1) ?_ ?_
      · unfold chkO at h2
        split at h2
        · have e1 : lo = .nop := by cases lo <;> first | rfl | cases h2
          subst e1
          exact po_none'
        · have e1 : isNop lo = false := by cases lo <;> first | rfl | cases h2
          rw [e1]
          exact po_some' (soundE lo g tk h2)
      · unfold chkO at h3
        split at h3
        · have e1 : hi = .nop := by cases hi <;> first | rfl | cases h3
          subst e1
          exact po_none'
        · have e1 : isNop hi = false := by cases hi <;> first | rfl | cases h3
          rw [e1]
          exact po_some' (soundE hi g tk h3)
    · cases h
  | .rev a, C, M, k, X, W, ex, g, tk, h => by
    unfold chkE at h
    split at h
    · exact pe_rev' (pe_pk (soundE a g tk h) h)
    · cases h
  | .call j es, C, M, k, X, W, ex, g, tk, h => by
    unfold chkE at h
    split at h
    · obtain ⟨cm, h⟩ := ba h
      obtain ⟨h1, h2⟩ := ba h
      obtain ⟨a, b, f, fd, ps, c1, c2, c3, c4⟩ := fn_at g h1
      have hs := (soundEs es g tk h2)
      cases es with
      | nil => cases h2
      | cons e es =>
        have h3 := (ba h2).1
        exact pe_callE c4 (g.room cm) a c1 c2 c3 tk hs.1 b (star_of h3 _ _) (chkEs_back es (ba h2).2)
    · cases h
  | .cio j i es, C, M, k, X, W, ex, g, tk, h => by
    unfold chkE at h
    split at h
    · obtain ⟨cm, h⟩ := ba h
      obtain ⟨h1, h⟩ := ba h
      obtain ⟨h2, h3⟩ := ba h
      obtain ⟨a, b, f, fd, ps, c1, c2, c3, c4⟩ := fn_at g h1
      exact pe_cioE c4 (g.room cm) a c1 c2 c3 tk (name_of h2) (soundEs es g tk h3).1 b rfl (chkEs_back es h3)
    · cases h
  | .craw j i, C, M, k, X, W, ex, g, tk, h => by
    unfold chkE at h
    split at h
    · obtain ⟨cm, h⟩ := ba h
      obtain ⟨h1, h2⟩ := ba h
      obtain ⟨a, b, f, fd, ps, c1, c2, c3, c4⟩ := fn_at g h1
      exact pe_craw c4 (g.room cm) a c1 c2 c3 tk (name_of h2) b rfl rfl
    · cases h
  | .scr i n, C, M, k, X, W, ex, g, tk, h => by
    unfold chkE at h
    split at h
    · obtain ⟨h1, h2⟩ := ba h
      have e1 := of_decide_eq_true h2
      subst e1
      exact pe_scr (name_of h1) pe_int
    · cases h
  | .b1 b a, C, M, k, X, W, ex, g, tk, h => by
    unfold chkE at h
    split at h
    · obtain ⟨cm, h⟩ := ba h
      obtain ⟨h1, hh⟩ := ba h
      clear h
      obtain ⟨h2, h3⟩ := ba h1
      have e1 := of_decide_eq_true h2
      subst e1
      obtain ⟨g1, g2⟩ := glb_of h3
      exact pe_b1 (g.calm cm) g1 (g.blt _ (blt_in b)) (pe_pk (soundE a g tk hh) hh) (star_of hh _ _)
    · cases h
  | .b2 b a c, C, M, k, X, W, ex, g, tk, h => by
    unfold chkE at h
    split at h
    · obtain ⟨cm, h⟩ := ba h
      obtain ⟨h1, h⟩ := ba h
      obtain ⟨h5, h6⟩ := ba h
      obtain ⟨h1, h4⟩ := ba h1
      obtain ⟨h2, h3⟩ := ba h1
      have e1 := of_decide_eq_true h2
      subst e1
      obtain ⟨g1, g2⟩ := glb_of h3
      cases b <;> first | (cases h4; done) | skip
      · exact pe_min2 (g.calm cm) g1 (g.blt "min" (by decide)) (soundE a g tk h5) (soundE c g tk h6) (star_of h5 _ _) (star_of h6 _ _) (back_star h6 rfl)
      · exact pe_max2 (g.calm cm) g1 (g.blt "max" (by decide)) (soundE a g tk h5) (soundE c g tk h6) (star_of h5 _ _) (star_of h6 _ _) (back_star h6 rfl)
    · cases h
  | .isi a ts, C, M, k, X, W, ex, g, tk, h => by
    unfold chkE at h
    split at h
    · obtain ⟨h1, h5⟩ := ba h
      obtain ⟨h1, h4⟩ := ba h1
      obtain ⟨h2, h3⟩ := ba h1
      have e1 := of_decide_eq_true h2
      subst e1
      obtain ⟨g1, g2⟩ := glb_of h3
      have hm : X.mg "isinstance" = none := g.blt _ (by decide)
      unfold chkIsi at h4
      split at h4
      · obtain ⟨t1, t2⟩ := ba h4
        exact pe_isiT g1 hm (pe_pk (soundE a g tk h5) h5) (tys_ok g.blt t1) (of_decide_eq_true t2) (star_of h5 _ _) rfl
      · obtain ⟨t1, t2⟩ := ty_ok g.blt h4
        exact pe_isi1 g1 hm (pe_pk (soundE a g tk h5) h5) t1 (star_of h5 _ _) (t2 _) (by rw [t2]; rfl)
      · cases h4
    · cases h
  | .lc elt tg it c, C, M, k, X, W, ex, g, tk, h => by
    unfold chkE at h
    split at h
    · rename_i v t i ifs scope p
      obtain ⟨cm, h⟩ := ba h
      have hE := (ba (ba (ba (ba h).2).2).2).1
      obtain ⟨B, pi, pg, pt, pe, fo, hm⟩ := lc_parts (W := W) g cm h (fun hi => soundI it g tk hi) (fun {X'} g' e1 e2 e3 => by
        rw [← e2]
        exact soundE elt g' takesF (by rw [e1, e3]; exact hE)) (fun {X' e} g' e1 e2 e3 hc => by
        rw [← e2]
        exact (soundT c g' takesF hc).1)
      refine pe_weak (pe_lc (g.calm cm) g.nd pi B pg pt pe fo) fun σ H Q hq => ?_
      rw [hm]
      exact lc_read hq
    · cases h
  | .lam j e, C, M, k, X, W, ex, g, tk, h => by
    unfold chkE at h
    split at h
    · rename_i x p params body scope lp pos
      obtain ⟨h0, h⟩ := ba h
      obtain ⟨cm, lm⟩ := ba h0
      obtain ⟨h1, h⟩ := ba h
      obtain ⟨h2, h3⟩ := ba h
      obtain ⟨h4, h5⟩ := ba h2
      obtain ⟨h6, h7⟩ := ba h1
      obtain ⟨g1, g2⟩ := glb_of h6
      have hx := of_decide_eq_true h7
      have L := LamX.lamS_by h5
      have never : (∀ o, C.wrd j o = .bad) → PE X (.Call (.Name x p) [.Lambda params body scope lp] [] pos) (tV X.K xa W (evE C (.lam j e))) := fun hb => by
        refine ⟨fun pins s σ H Q I ⟨e', F, ρ, rel, post⟩ => ?_⟩
        have post : Post X.K xa W e' σ F (outL (evE C.low e ρ) fun o ρ => backR none ρ (C.wrd j o)) _ := post
        have e1 : outL (evE C.low e ρ) (fun o ρ => backR none ρ (C.wrd j o)) = .bad := by
          cases evE C.low e ρ with
          | ok v ρ1 => show backR none ρ1 (C.wrd j .ok) = .bad; rw [hb]; rfl
          | exc c' x' ρ1 => show backR none ρ1 (C.wrd j (.exc c' x')) = .bad; rw [hb]; rfl
          | bad => rfl
        rw [e1] at post
        exact post.elim
      rcases g.low lm with ⟨k', ek, hlow, hwrd, hwds⟩ | hbad
      rotate_left
      · exact never (hbad j)
      obtain ⟨c, P, l1, l2, l3, l4⟩ := g.lam lm
      cases hw : C.gl.w j with
      | none => exact never fun o => by rw [hwrd]; exact wrd_none hw
      | some w =>
        obtain ⟨a, gg, pg, bg, sg, dV, kV, doc, pm, cdv, ct, oc, an, od, osl, Ng, w1, w2, w3, w4, w5, w6, w7, w8, w9, w10, w11⟩ := hwds j x w hx hw
        have pn : params = ⟨[], [], none, [], [], none, []⟩ := by
          unfold noPar at h4
          split at h4
          · rfl
          · cases h4
        subst pn
        have rm : Room (k' + 2) X.A := by rw [← ek]; exact g.room cm
        refine pe_weak (pe_lamS (t := fun E => tV X.K xa (fun cls d _ H' => E cls d H') (evE C.low e)) g1 w1 w2 w3 w4 w5 w6 w7 w8 w9 l2 l1 l3 l4 rm L rfl (fun _ _ _ _ _ => rfl) (fun E A outer s H f c' hr => ?_) g2 w10 w11) fun σ H Q hq => lam_read hwrd hw hq
        refine soundE e (C := C.low) (M := { M with lm := false }) (k := k') (X := LamX.lamCx X A outer s H E scope f c') ?_ ?_ h3
        · exact { calm := fun _ => rfl, nd := g.nd, kind := L.kind, units := by have := hr.un; show (A.deeper _).units + 100 < cLine; omega, room := fun _ => hr, fns := hlow, lam := (fun z => nomatch z), low := (fun z => nomatch z), exn := fun _ => rfl, held := (fun _ _ z => nomatch z), kit := g.kit, gls := g.gls, blt := g.blt, exs := g.exs }
        · exact takes_of rfl rfl rfl rfl
    · cases h
  | .isx i c, C, M, k, X, W, ex, g, tk, h => by
    unfold chkE at h
    split at h
    · rename_i x p y p2 z p3 pos
      obtain ⟨h1, h⟩ := ba h
      obtain ⟨h2, h⟩ := ba h
      obtain ⟨h3, h4⟩ := ba h
      obtain ⟨h5, h6⟩ := ba h1
      have e1 := of_decide_eq_true h5
      subst e1
      obtain ⟨g1, g2⟩ := glb_of h6
      obtain ⟨g3, g4⟩ := glb_of h3
      have hm : X.mg "isinstance" = none := g.blt _ (by decide)
      cases hx : C.ex with
      | none =>
        refine ⟨fun pins s σ H Q I ⟨e, F, ρ, rel, post⟩ => ?_⟩
        have post : Post X.K xa W e σ F (isxV C ρ i c) _ := post
        unfold isxV at post
        rw [hx] at post
        split at post
        · rename_i q; cases q
        · exact post.elim
      | some t =>
        obtain ⟨b, d, o⟩ := t
        cases o with
        | some dd =>
          refine ⟨fun pins s σ H Q I ⟨e, F, ρ, rel, post⟩ => ?_⟩
          have post : Post X.K xa W e σ F (isxV C ρ i c) _ := post
          unfold isxV at post
          rw [hx] at post
          split at post
          · rename_i q; cases q
          · exact post.elim
        | none =>
          obtain ⟨hc, hlt⟩ := g.held b d hx
          obtain ⟨k1, k2⟩ := g.kit d hlt
          have key : ∀ (v : V) (u : Value) (r : Bool), PE X (.Name z p3) (tC v) → (∀ w, RelV v w → w = u) → PySem.W.kitOne X.K (.ref (xa d)) u = some r → isubO d c = r → PE X (.Call (.Name "isinstance" p) [.Name y p2, .Name z p3] [] pos) (tV X.K xa W (evE C (.isx i c))) := fun v u r hv hu hk hr => by
            refine pe_weak (pe_callB hc g1 hm (by decide +kernel) (pa_cons (name_of h2) (pa_cons hv pa_nil rfl) rfl) (by decide) (by decide) rfl rfl) fun σ H Q ⟨e, F, ρ, rel, post⟩ => ?_
            have post : Post X.K xa W e σ F (isxV C ρ i c) _ := post
            unfold isxV at post
            rw [hx] at post
            split at post
            · rename_i a' b' c' e1 e2
              cases e2
              split at post
              · rename_i e3
                subst e3
                obtain ⟨v', hv', q⟩ := rel.slot i _ e1
                have q : v' = .ref a' := q
                subst q
                refine ⟨_, hv', v, u, r, rfl, hu, hk, ?_⟩
                rw [← hr]
                exact post F H (Ex.refl _) rel _ (.bl _)
              · exact post.elim
            · exact post.elim
          cases c with
          | some c' =>
            have hz := of_decide_eq_true h4
            exact key (.ref (xa c')) (.ref (xa c')) _ (pe_glob g3 (g.exs c' z hz).1 rfl g4) (fun w hw => hw) (k2 c' z hz) rfl
          | none =>
            have hz := of_decide_eq_true h4
            subst hz
            exact key (.ty "ValueError") (.type "ValueError") _ (pe_bltn g3 (g.blt _ (by decide)) (by decide +kernel) rfl (by decide) g4) (fun w hw => hw) k1 rfl
    · cases h
  | .fld i f, C, M, k, X, W, ex, g, tk, h => by cases h
  | .dic ks es, C, M, k, X, W, ex, g, tk, h => by
    unfold chkE at h
    split at h
    · rename_i keys values p
      obtain ⟨h1, h2⟩ := ba h
      obtain ⟨h3, h4⟩ := ba h1
      obtain ⟨h5, h6⟩ := ba h2
      by_cases hl : ks.length = lenEs es
      · cases keys with
        | nil =>
          have e1 : ks = [] := by
            cases ks with
            | nil => rfl
            | cons _ _ => cases h3
          subst e1
          have e2 : es = .nil := by
            cases es with
            | nil => rfl
            | cons _ _ => cases hl
          subst e2
          have e3 : values = [] := by
            cases values with
            | nil => rfl
            | cons _ _ => cases h6
          subst e3
          exact pe_dic0
        | cons k0 kr =>
          obtain ⟨P, l1, l2⟩ := dic_pps (pos := p) h3 h5 h6 hl
          exact pe_dicN P h5 l1 l2 (fun z => nomatch z) (of_decide_eq_true h4) hl
      · refine ⟨fun pins s σ H Q I ⟨e, F, ρ, rel, post⟩ => ?_⟩
        obtain ⟨F', us, ds, ρ', ex, rel', rs, sv, q⟩ := sv_read h5 rel (Post.bind post)
        have q2 := q F' H (Ex.refl _) rel'
        obtain ⟨z, hz, q3⟩ := q2.ofO
        obtain ⟨w, hw, rfl⟩ := Option.map_eq_some_iff.mp hz
        unfold dicD at hw
        split at hw
        · rename_i hh
          have l1 := hh.1
          have l2 := sv_len sv
          have l3 := rs.length
          omega
        · cases hw
    · cases h
  | .cnt a x, C, M, k, X, W, ex, g, tk, h => by
    unfold chkE at h
    split at h
    · rename_i v nm apos w cpos
      obtain ⟨h1, h2⟩ := ba h
      obtain ⟨h3, h4⟩ := ba h1
      obtain ⟨h5, h6⟩ := ba h4
      obtain ⟨h7, h8⟩ := ba h2
      obtain ⟨m1, m2⟩ := ba h3
      have e1 := of_decide_eq_true m1
      subst e1
      obtain ⟨rd, s1, s2⟩ := sim_ok h6 h8
      exact pe_weak (pe_cnt g.units (pe_pk (soundE a g tk h7) h7) s1 (base_of h5 _ _) (star_of h8 [] X.env) m2) fun σ H Q hq => by
        show tV X.K xa W (fun ρ => _) σ H Q
        rw [← s2 C]
        exact hq
    · cases h
  | .idx a x, C, M, k, X, W, ex, g, tk, h => by
    unfold chkE at h
    split at h
    · rename_i v nm apos w cpos
      obtain ⟨h1, h2⟩ := ba h
      obtain ⟨h3, h4⟩ := ba h1
      obtain ⟨h5, h6⟩ := ba h4
      obtain ⟨h7, h8⟩ := ba h2
      obtain ⟨m1, m2⟩ := ba h3
      have e1 := of_decide_eq_true m1
      subst e1
      obtain ⟨rd, s1, s2⟩ := sim_ok h6 h8
      exact pe_weak (pe_idx g.units (pe_pk (soundE a g tk h7) h7) s1 (base_of h5 _ _) (star_of h8 [] X.env) m2) fun σ H Q hq => by
        show tV X.K xa W (fun ρ => _) σ H Q
        rw [← s2 C]
        exact hq
    · cases h
  | .joi a b, C, M, k, X, W, ex, g, tk, h => by
    unfold chkE at h
    split at h
    · rename_i v nm apos w cpos
      obtain ⟨h1, h2⟩ := ba h
      obtain ⟨h3, h5⟩ := ba h1
      obtain ⟨h7, h8⟩ := ba h2
      obtain ⟨m1, m2⟩ := ba h3
      have e1 := of_decide_eq_true m1
      subst e1
      exact pe_joi (soundE a g tk h7) (soundE b g tk h8) (base_of h5 _ _) (star_of h8 [] X.env) m2
    · cases h
theorem soundEs : ∀ (m : Es) {C : Cfg} {M : Nm} {k : Nat} {X : Cx} {W : WX} {xs : List Expr}, Gd X C M xa k → Takes X W → chkEs M X.N X.env.scope xs m = true → PA X xs (tL X.K xa W (evA C m)) ∧ LenIs (evA C m) xs.length
  | .nil, C, M, k, X, W, xs, g, tk, h => by
    cases xs with
    | nil => exact ⟨pa_nil', fun ρ ds ρ' e => by cases e; rfl⟩
    | cons x r => cases h
  | .cons e es, C, M, k, X, W, xs, g, tk, h => by
    cases xs with
    | nil => cases h
    | cons x r =>
      obtain ⟨h1, h2⟩ := ba h
      obtain ⟨a, b⟩ := soundEs es g tk h2
      refine ⟨pa_cons' (soundE e g tk h1) a (star_of h1 _ _), fun ρ ds ρ' he => ?_⟩
      have he : (bindD (evE C e ρ) fun x ρ => (evA C es ρ).bind fun xs ρ => .ok (x :: xs) ρ) = .ok ds ρ' := he
      rw [bindD_dd] at he
      cases hd : dd (evE C e ρ) with
      | bad => rw [hd] at he; cases he
      | exc c x ρ1 => rw [hd] at he; cases he
      | ok d ρ1 =>
        rw [hd] at he
        have he : ((evA C es ρ1).bind fun xs ρ => .ok (d :: xs) ρ) = .ok ds ρ' := he
        cases hr : evA C es ρ1 with
        | bad => rw [hr] at he; cases he
        | exc c x ρ1 => rw [hr] at he; cases he
        | ok ys ρ2 =>
          rw [hr] at he
          cases he
          rw [List.length_cons, List.length_cons, b ρ1 ys _ hr]
theorem soundI : ∀ (m : It) {C : Cfg} {M : Nm} {k : Nat} {X : Cx} {W : WX} {tg ex : Expr}, Gd X C M xa k → Takes X W → chkI M X.N X.env.scope tg ex m = true → PI X tg ex (tI X.K xa W (evI C m)) ∧ ∀ x, foldedSetIterable ex X.env x = pure x
  | .rng es, C, M, k, X, W, tg, ex, g, tk, h => by
    have hm : X.mg "range" = none := g.blt _ (by decide)
    unfold chkI at h
    split at h
    · obtain ⟨h1, h2⟩ := ba h
      obtain ⟨h3, h4⟩ := ba h1
      have e1 := of_decide_eq_true h3
      subst e1
      obtain ⟨g1, g2⟩ := glb_of h4
      obtain ⟨a, b⟩ := soundEs es g tk h2
      cases es with
      | nil => cases h2
      | cons e es =>
        have s1 := star_of (ba h2).1 [] X.env
        exact ⟨pi_rngA g1 hm a b s1, fun x => rfl⟩
    · obtain ⟨h1, h2⟩ := ba h
      obtain ⟨h3, h4⟩ := ba h1
      have e1 := of_decide_eq_true h3
      subst e1
      obtain ⟨g1, g2⟩ := glb_of h4
      obtain ⟨a, b⟩ := soundEs es g tk h2
      cases es with
      | nil => cases h2
      | cons e1 es =>
        have k1 := (ba h2).1
        have k0 := (ba h2).2
        cases es with
        | nil => cases k0
        | cons e2 es =>
          have s2 := star_of (ba k0).1 [] X.env
          exact ⟨pi_rngB g1 hm a b (by rw [star_of k1, s2]; rfl) s2, fun x => rfl⟩
    · obtain ⟨h1, h2⟩ := ba h
      obtain ⟨h3, h4⟩ := ba h1
      have e1 := of_decide_eq_true h3
      subst e1
      obtain ⟨g1, g2⟩ := glb_of h4
      obtain ⟨a, b⟩ := soundEs es g tk h2
      cases es with
      | nil => cases h2
      | cons e1 es =>
        have k1 := (ba h2).1
        have k0 := (ba h2).2
        cases es with
        | nil => cases k0
        | cons e2 es =>
          have k2 := (ba k0).1
          have k3 := (ba k0).2
          cases es with
          | nil => cases k3
          | cons e3 es => exact ⟨pi_rngC g1 hm a b (star_of k1 _ _) (back_star k2 (back_star (ba k3).1 rfl)), fun x => rfl⟩
    · cases h
  | .of e, C, M, k, X, W, tg, ex, g, tk, h => ⟨pi_of (soundE e g tk h), fun x => fold_of h _ x⟩
  | .zip a b, C, M, k, X, W, tg, ex, g, tk, h => by
    have hm : X.mg "zip" = none := g.blt _ (by decide)
    unfold chkI at h
    split at h
    · obtain ⟨h1, h⟩ := ba h
      obtain ⟨h5, h6⟩ := ba h
      obtain ⟨h1, h4⟩ := ba h1
      obtain ⟨h2, h3⟩ := ba h1
      have e1 := of_decide_eq_true h2
      subst e1
      obtain ⟨g1, g2⟩ := glb_of h3
      cases tg <;> first | (cases h4; done) | skip
      exact ⟨pi_zip' g1 hm (soundE a g tk h5) (soundE b g tk h6) (star_of h5 _ _) (star_of h6 _ _) (back_star h6 rfl), fun x => rfl⟩
    · cases h
  | .enum a, C, M, k, X, W, tg, ex, g, tk, h => by
    have hm : X.mg "enumerate" = none := g.blt _ (by decide)
    unfold chkI at h
    split at h
    · obtain ⟨h1, h5⟩ := ba h
      obtain ⟨h1, h4⟩ := ba h1
      obtain ⟨h2, h3⟩ := ba h1
      have e1 := of_decide_eq_true h2
      subst e1
      obtain ⟨g1, g2⟩ := glb_of h3
      cases tg <;> first | (cases h4; done) | skip
      exact ⟨pi_enum' g1 hm (soundE a g tk h5) (star_of h5 [] _), fun x => rfl⟩
    · cases h
theorem soundT : ∀ (m : T) {C : Cfg} {M : Nm} {k : Nat} {X : Cx} {W : WX} {ex : Expr}, Gd X C M xa k → Takes X W → chkT M X.N X.env.scope ex m = true → PT X ex (tBo X.K xa W (evT C m)) ∧ ∀ op vs p, ex = .BoolOp op vs p → PW X ex (tBo X.K xa W (evT C m))
  | .e a, C, M, k, X, W, ex, g, tk, h => by
    unfold chkT at h
    split at h
    · cases h
    · cases h
    · cases h
    · rename_i n1 n2 n3
      refine ⟨?_, fun op vs p e => absurd e (n1 op vs p)⟩
      by_cases hc : ∃ l o r p, ex = .Compare l o r p
      · obtain ⟨l, o, r, p, rfl⟩ := hc
        cases a <;> first | (cases h; done) | skip
        · rename_i o a b
          unfold chkE at h
          split at h
          · rename_i e1
            cases e1
            obtain ⟨h1, hh⟩ := ba h
            obtain ⟨h2, h3⟩ := ba hh
            have e1 := of_decide_eq_true h1
            subst e1
            exact pt_cmpP (cmp_ok g.units o) (soundE a g tk h2) (pe_pk (soundE b g tk h3) h3) (mark_of h3 _)
          · cases h
        · rename_i o o' a b c
          unfold chkE at h
          split at h
          · rename_i e1
            cases e1
            obtain ⟨h0, h⟩ := ba h
            obtain ⟨h1, h2⟩ := ba h0
            obtain ⟨h3, h⟩ := ba h
            obtain ⟨h4, h5⟩ := ba h
            have e1 := of_decide_eq_true h1
            have e2 := of_decide_eq_true h2
            subst e1
            subst e2
            exact pt_chainP (cmp_ok g.units o) (cmp_ok g.units o') (soundE a g tk h3) (soundE b g tk h4) (soundE c g tk h5) (mark_of h5 _)
          · cases h
      · exact pt_val' (pe_pk (soundE a g tk h) h) (test_he n1 n2 n3 (fun l o r p e => hc ⟨l, o, r, p, e⟩) _)
  | .and a b, C, M, k, X, W, ex, g, tk, h => by
    unfold chkT at h
    split at h
    · obtain ⟨h1, h2⟩ := ba h
      have key := pw_and' (pos := by assumption) (soundT a g tk h1).1 (pw_and1 (soundT b g tk h2).1)
      exact ⟨key.pt, fun _ _ _ _ => key⟩
    · obtain ⟨h1, h2⟩ := ba h
      have key := pw_and' (soundT a g tk h1).1 ((soundT b g tk h2).2 _ _ _ rfl)
      exact ⟨key.pt, fun _ _ _ _ => key⟩
    · cases h
  | .or a b, C, M, k, X, W, ex, g, tk, h => by
    unfold chkT at h
    split at h
    · obtain ⟨h1, h2⟩ := ba h
      have key := pw_or' (pos := by assumption) (soundT a g tk h1).1 (pw_or1 (soundT b g tk h2).1)
      exact ⟨key.pt, fun _ _ _ _ => key⟩
    · obtain ⟨h1, h2⟩ := ba h
      have key := pw_or' (soundT a g tk h1).1 ((soundT b g tk h2).2 _ _ _ rfl)
      exact ⟨key.pt, fun _ _ _ _ => key⟩
    · cases h
  | .not a, C, M, k, X, W, ex, g, tk, h => by
    unfold chkT at h
    split at h
    · exact ⟨pt_not' (soundT a g tk h).1, fun _ _ _ e => nomatch e⟩
    · cases h
  | .yes, C, M, k, X, W, ex, g, tk, h => by cases h
end
end
end Pv

namespace Pv
open PySem L2 PyProof.Rows

def isStarE : Expr → Bool
  | .Starred _ _ => true
  | _ => false
def locNm (sc : Scope) (line : Nat) : Expr → Option Str
  | .Name id pos => if sc.names.lookup id == some .local && pos.line == line then some id else none
  | _ => none
def swNms (sc : Scope) (ts : List Expr) : List Str := ts.filterMap (locNm sc ((ts.head?.map (·.pos.line)).getD 0))
/-- what the text's own look says of stores that are exchanged -/
def swN (sc : Scope) (ts vs : List Expr) : Option (Option (List Str)) :=
  if (!(ts.length == 2 || ts.length == 3) || vs.length != ts.length || ScopeKind.function != ScopeKind.function) = true then some none
  else if vs.any isStarE = true then some none
  else if ((swNms sc ts).length != ts.length || (swNms sc ts).eraseDups.length != (swNms sc ts).length) = true then some none
  else if vs.all (foldedForSure 8) = true then some none
  else if vs.all (constantsAlone 8) = true then none
  else some (some (swNms sc ts))
def swM (sc : Scope) (ts vs : List Expr) : Sem (Option (List Str)) :=
  if (!(ts.length == 2 || ts.length == 3) || vs.length != ts.length || ScopeKind.function != ScopeKind.function) = true then pure none
  else if vs.any isStarE = true then pure none
  else if ((swNms sc ts).length != ts.length || (swNms sc ts).eraseDups.length != (swNms sc ts).length) = true then pure none
  else if vs.all (foldedForSure 8) = true then pure none
  else if vs.all (constantsAlone 8) = true then (do unsupported "assign.tuple-of-constant-expressions:order-of-the-stores"; pure (some (swNms sc ts)))
  else pure (some (swNms sc ts))
theorem swM_eq {env : PySem.Env} {ts vs : List Expr} {k k2 : Nat} {p p2 : Pos} (hk : env.scope.kind = .function) : swappedStores [.Tuple ts k p] (.Tuple vs k2 p2) env = swM env.scope ts vs := by
  have hb : env.blockKind = .function := by unfold Env.blockKind; rw [hk]; rfl
  unfold swappedStores
  rw [hb]
  rfl
theorem sw_eq {env : PySem.Env} {ts vs : List Expr} {k k2 : Nat} {p p2 : Pos} {o : Option (List Str)} (hk : env.scope.kind = .function) (h : swN env.scope ts vs = some o) : swappedStores [.Tuple ts k p] (.Tuple vs k2 p2) env = pure o := by
  rw [swM_eq hk]
  unfold swN at h
  unfold swM
  split at h
  · rename_i c1
    cases h
    rw [if_pos c1]
  · rename_i c1
    rw [if_neg c1]
    split at h
    · rename_i c2
      cases h
      rw [if_pos c2]
    · rename_i c2
      rw [if_neg c2]
      split at h
      · rename_i c3
        cases h
        rw [if_pos c3]
      · rename_i c3
        rw [if_neg c3]
        split at h
        · rename_i c4
          cases h
          rw [if_pos c4]
        · rename_i c4
          rw [if_neg c4]
          split at h
          · cases h
          · rename_i c5
            cases h
            rw [if_neg c5]
theorem sw_non {tg v : Expr} {env : PySem.Env} (h : ∀ vs k p, v ≠ .Tuple vs k p) : swappedStores [tg] v env = pure none := by
  cases tg <;> cases v <;> first | rfl | exact absurd rfl (h _ _ _)
theorem sw_subs {o i v : Expr} {p : Pos} {env : PySem.Env} : swappedStores [.Subscript o i p] v env = pure none := by
  cases v <;> rfl
theorem sws_tup {ts : List Expr} {k l : Nat} {p : Pos} {v : Expr} {env : PySem.Env} : swapsWithSole [.Tuple ts k p] v l env = pure false := by
  cases v <;> rfl
theorem sws_sub {o i : Expr} {p : Pos} {l : Nat} {v : Expr} {env : PySem.Env} : swapsWithSole [.Subscript o i p] v l env = pure false := by
  cases v <;> rfl
def isCompE : Expr → Bool
  | .ListComp _ _ _ _ => true
  | .SetComp _ _ _ _ => true
  | .DictComp _ _ _ _ _ => true
  | _ => false
theorem sw_nc {v : Expr} {t : Option Expr} {l : Nat} {env : PySem.Env} (h : isCompE v = false) : swapsWith v t l env = pure false := by
  cases v <;> first | rfl | cases h
def swB (sc : Scope) (x : Str) (px : Pos) : Expr → Bool
  | .ListComp _ _ scope pos => sc.names.lookup x == some .local && px.line == pos.line && !(scope.names.any fun (n, k) => n == x && (k == .local || k == .cell))
  | _ => false
theorem sw_lc {elt : Expr} {gs : List Comprehension} {scope : Scope} {pos px : Pos} {x : Str} {l : Nat} {env : PySem.Env} (hk : env.scope.kind = .function) : swapsWith (.ListComp elt gs scope pos) (some (.Name x px)) l env = pure (swB env.scope x px (.ListComp elt gs scope pos)) := by
  have hb : env.blockKind = .function := by unfold Env.blockKind; rw [hk]; rfl
  show pure (env.blockKind == .function && env.kindOf x == some .local && px.line == pos.line && !(scope.names.any fun (n, k) => n == x && (k == .local || k == .cell))) = _
  rw [hb]
  rfl
def parB (N : List Str) (sc : Scope) : List Expr → List Nat → Bool
  | [], [] => true
  | .Name x _ :: es, i :: is => decide (N[i]? = some x) && isLoc sc x && decide (i ∉ is) && parB N sc es is
  | _, _ => false
def nmsOf : List Expr → List Str
  | .Name x _ :: es => x :: nmsOf es
  | _ => []
def augOk (op : Operator) (o : BOp) : Bool := (decide (op = .Add) && decide (o = .add)) || (decide (op = .Sub) && decide (o = .sub))
section
variable (M : Nm) (N : List Str) (sc : Scope)
mutual
def chkS (st : Stmt) : S → Bool
  | .asg (.n i) e => (match st with
    | .Assign [.Name x p] v _ => chkNm N sc false (.Name x p) i && chkE M N sc v e
    | _ => false)
  | .asg (.t is) e => (match st with
    | .Assign [.Tuple ts k p] (.Tuple vs k2 p2) _ => M.cm && (chkTg N sc false (.Tuple ts k p) (.t is) && decide (swN sc ts vs = some none) && chkE M N sc (.Tuple vs k2 p2) e)
    | .Assign [.Tuple ts k p] v _ => M.cm && (chkTg N sc false (.Tuple ts k p) (.t is) && !isTupE v && chkE M N sc v e)
    | _ => false)
  | .asg (.u ts') e => (match st with
    | .Assign [.Tuple ts k p] (.Tuple vs k2 p2) _ => M.cm && (chkTg N sc false (.Tuple ts k p) (.u ts') && decide (swN sc ts vs = some none) && chkE M N sc (.Tuple vs k2 p2) e)
    | .Assign [.Tuple ts k p] v _ => M.cm && (chkTg N sc false (.Tuple ts k p) (.u ts') && !isTupE v && chkE M N sc v e)
    | _ => false)
  | .par is es => (match st with
    | .Assign [.Tuple ts _ _] (.Tuple vs _ _) _ => M.cm && ((parB N sc ts is && decide (swN sc ts vs = some (some (nmsOf ts)))) && chkEs M N sc vs es)
    | _ => false)
  | .set i x e => (match st with
    | .Assign [.Subscript (.Name y _) s _] v _ => nameB N sc i y && (chkE M N sc s x && chkE M N sc v e)
    | _ => false)
  | .aug i o e => (match st with
    | .AugAssign (.Name x p) op v _ => chkNm N sc false (.Name x p) i && augOk op o && chkE M N sc v e
    | _ => false)
  | .app i e => (match st with
    | .Expr (.Call (.Attribute (.Name x _) a apos) [v] [] cpos) _ => nameB N sc i x && (decide (a = ("append" : Str)) && (apos.endLine == cpos.line)) && chkE M N sc v e
    | _ => false)
  | .ext i e => (match st with
    | .Expr (.Call (.Attribute (.Name x _) a apos) [v] [] cpos) _ => nameB N sc i x && (decide (a = ("extend" : Str)) && (apos.endLine == cpos.line)) && chkE M N sc v e
    | _ => false)
  | .expr e => (match st with
    | .Expr v _ => !isCompE v && chkE M N sc v e
    | _ => false)
  | .ite c a b => (match st with
    | .If t xs ys _ => chkT M N sc t c && (chkSs xs a && chkSs ys b)
    | _ => false)
  | .whl c b => (match st with
    | .While t xs [] _ => M.cm && (chkT M N sc t c && chkSs xs b)
    | _ => false)
  | .for_ t it b => (match st with
    | .For tg i xs [] _ => M.cm && (chkTg N sc false tg t && (chkI M N sc tg i it && chkSs xs b))
    | _ => false)
  | .ret e => (match st with
    | .Return (some v) _ => chkE M N sc v e
    | _ => false)
  | .retv i => (match st with
    | .Return (some (.Name x _)) _ => nameB N sc i x
    | _ => false)
  | .retN => (match st with
    | .Return none _ => true
    | _ => false)
  | .raise c => (match st with
    | .Raise (some (.Call (.Name x _) [] [] _)) none _ => M.cm && (isGlb sc x && decide (M.ex[c]? = some x))
    | _ => false)
  | .raisex _ _ => (match st with
    | .Raise _ _ _ => true
    | _ => false)
  | .pass => (match st with
    | .Pass _ => true
    | _ => false)
  | .brk => (match st with
    | .Break _ => true
    | _ => false)
  | .ct => (match st with
    | .Continue _ => true
    | _ => false)
def chkSs (sts : List Stmt) : Ss → Bool
  | .nil => (match sts with
    | [] => true
    | _ => false)
  | .cons s r => (match sts with
    | st :: rest => chkS st s && chkSs rest r
    | _ => false)
end
end
structure GdS (X : Cx) (C : Cfg) (M : Nm) (xa : XAt τ) (k : Nat) : Prop extends Gd X C M xa k where
  fnall : ∀ x, X.fn x = true
  pass : M.cm = true → PassesOwn (model X.prog X.w) X.A X.env X.xe
section
variable {τ : Tls} {C : Cfg} {M : Nm} {xa : XAt τ} {k : Nat}
theorem asg1 {tg : Expr} {env : PySem.Env} (h : ∀ e p, tg ≠ .Starred e p) : (assignEach [tg] env).map (·.2) = [assign tg env] := by
  cases tg <;> first | rfl | exact absurd rfl (h _ _)
theorem aug_add {x y z : D} (h : augD .add x y = some z) : ∃ a b, x = .int a ∧ y = .int b ∧ z = .int ((fun i j => i + j) a b) := by
  cases x <;> cases y <;> first | (cases h; done) | skip
  cases h
  exact ⟨_, _, rfl, rfl, rfl⟩
theorem aug_sub {x y z : D} (h : augD .sub x y = some z) : ∃ a b, x = .int a ∧ y = .int b ∧ z = .int ((fun i j => i - j) a b) := by
  cases x <;> cases y <;> first | (cases h; done) | skip
  cases h
  exact ⟨_, _, rfl, rfl, rfl⟩
theorem parB_cons {N : List Str} {sc : Scope} {ts : List Expr} {i : Nat} {is : List Nat} (h : parB N sc ts (i :: is) = true) : ∃ x p es, ts = .Name x p :: es ∧ N[i]? = some x ∧ sc.names.lookup x = some .local ∧ i ∉ is ∧ parB N sc es is = true := by
  cases ts with
  | nil => cases h
  | cons e es =>
    cases e <;> first | (cases h; done) | skip
    rename_i x p
    obtain ⟨h1, h4⟩ := ba h
    obtain ⟨h1, h3⟩ := ba h1
    obtain ⟨h1, h2⟩ := ba h1
    exact ⟨x, p, es, rfl, of_decide_eq_true h1, of_decide_eq_true h2, of_decide_eq_true h3, h4⟩
theorem parB_nil {N : List Str} {sc : Scope} {ts : List Expr} (h : parB N sc ts [] = true) : ts = [] := by
  cases ts with
  | nil => rfl
  | cons e es => cases e <;> cases h
theorem parB_len {N : List Str} {sc : Scope} : ∀ {is : List Nat} {ts : List Expr}, parB N sc ts is = true → ts.length = is.length
  | [], ts, h => by rw [parB_nil h]; rfl
  | i :: is, ts, h => by
    obtain ⟨x, p, es, rfl, _, _, _, h5⟩ := parB_cons h
    rw [List.length_cons, List.length_cons, parB_len h5]
theorem swN_len {sc : Scope} {ts vs : List Expr} {l : List Str} (h : swN sc ts vs = some (some l)) : (ts.length = 2 ∨ ts.length = 3) ∧ vs.length = ts.length := by
  unfold swN at h
  split at h
  · cases h
  · rename_i c1
    have c1 := Bool.eq_false_iff.mpr c1
    obtain ⟨c1, _⟩ := Bool.or_eq_false_iff.mp c1
    obtain ⟨c1, c2⟩ := Bool.or_eq_false_iff.mp c1
    refine ⟨?_, by simpa using c2⟩
    have c3 : ¬ ts.length = 2 → ts.length = 3 := by simpa using c1
    omega
theorem soundVs : ∀ (m : Es) {C : Cfg} {M : Nm} {k : Nat} {X : Cx} {W : WX} {xs : List Expr}, Gd X C M xa k → Takes X W → chkEs M X.N X.env.scope xs m = true → PA X xs (tVs X.K xa W (evVs C m)) ∧ LenIs (evVs C m) xs.length
  | .nil, C, M, k, X, W, xs, g, tk, h => by
    cases xs with
    | nil => exact ⟨pa_nilV, fun ρ ds ρ' e => by cases e; rfl⟩
    | cons x r => cases h
  | .cons e es, C, M, k, X, W, xs, g, tk, h => by
    cases xs with
    | nil => cases h
    | cons x r =>
      obtain ⟨h1, h2⟩ := ba h
      obtain ⟨a, b⟩ := soundVs es g tk h2
      refine ⟨pa_consV (soundE e g tk h1) a (star_of h1 _ _), fun ρ ds ρ' he => ?_⟩
      have he : ((evE C e ρ).bind fun x ρ => (evVs C es ρ).bind fun xs ρ => .ok (x :: xs) ρ) = .ok ds ρ' := he
      cases hd : evE C e ρ with
      | bad => rw [hd] at he; cases he
      | exc c x ρ1 => rw [hd] at he; cases he
      | ok d ρ1 =>
        rw [hd] at he
        have he : ((evVs C es ρ1).bind fun xs ρ => .ok (d :: xs) ρ) = .ok ds ρ' := he
        cases hr : evVs C es ρ1 with
        | bad => rw [hr] at he; cases he
        | exc c x ρ1 => rw [hr] at he; cases he
        | ok ys ρ2 =>
          rw [hr] at he
          cases he
          rw [List.length_cons, List.length_cons, b ρ1 ys _ hr]
theorem par_sound {X : Cx} {W : WX} {ts vs : List Expr} {is : List Nat} {es : Es} {k1 k2 : Nat} {p1 p2 pos : Pos} (hc : X.calm = true) (nd : X.N.Nodup) (h1 : parB X.N X.env.scope ts is = true) (hs : swN X.env.scope ts vs = some (some (nmsOf ts))) (sw : swappedStores [.Tuple ts k1 p1] (.Tuple vs k2 p2) X.env = pure (some (nmsOf ts)))
    (pa : PA X vs (tVs X.K xa W (evVs C es))) (ln : LenIs (evVs C es) vs.length) : PS X (.Assign [.Tuple ts k1 p1] (.Tuple vs k2 p2) pos) (tS X.K xa W (evS C (.par is es))) := by
  obtain ⟨hl, hv⟩ := swN_len hs
  have hl2 := parB_len h1
  match is, h1, hl2 with
  | [], h1, hl2 => rw [hl2] at hl; rcases hl with hl | hl <;> cases hl
  | [i], h1, hl2 => rw [hl2] at hl; rcases hl with hl | hl <;> cases hl
  | [i, j], h1, hl2 =>
    obtain ⟨x, px, es1, rfl, a1, a2, a3, h1⟩ := parB_cons h1
    obtain ⟨y, py, es2, rfl, b1, b2, b3, h1⟩ := parB_cons h1
    have e0 := parB_nil h1
    subst e0
    match vs, hv, pa, ln, sw with
    | [a, b], _, pa, ln, sw => exact ps_par2' ln (ps_par hc nd a1 b1 (by simpa using a3) a2 b2 pa sw)
  | [i, j, l], h1, hl2 =>
    obtain ⟨x, px, es1, rfl, a1, a2, a3, h1⟩ := parB_cons h1
    obtain ⟨y, py, es2, rfl, b1, b2, b3, h1⟩ := parB_cons h1
    obtain ⟨z, pz, es3, rfl, c1, c2, c3, h1⟩ := parB_cons h1
    have e0 := parB_nil h1
    subst e0
    have a4 : i ≠ j ∧ i ≠ l := by simpa using a3
    have b4 : j ≠ l := by simpa using b3
    match vs, hv, pa, ln, sw with
    | [a, b, c], _, pa, ln, sw => exact ps_par3' ln (ps_par3 hc nd a1 b1 c1 a4.1 a4.2 b4 a2 b2 c2 pa sw)
  | i :: j :: l :: m :: r, h1, hl2 =>
    rw [hl2] at hl
    simp only [List.length_cons] at hl
    omega
theorem sub_asg {o i : Expr} {p : Pos} {env : PySem.Env} {N : List Str} {sc : Scope} {m : E} (h : chkE M N sc i m = true) (v : Value) : assign (.Subscript o i p) env v = (do
    let ov ← holding [v] (eval o env)
    let iv ← holding [v, ov] (eval i env)
    standAt p
    holding [v, ov, iv] (setItem ov iv v)
    release [v, ov, iv] []) := by
  cases i <;> first | rfl | (rw [chk_slice] at h; cases h)
mutual
theorem soundS : ∀ (m : S) {X : Cx} {W : WX} {st : Stmt}, GdS X C M xa k → Takes X W → chkS M X.N X.env.scope st m = true → PS X st (tS X.K xa W (evS C m))
  | .asg (.n i) e, X, W, st, g, tk, h => by
    unfold chkS at h
    split at h
    · rename_i x p v pos
      obtain ⟨h1, h2⟩ := ba h
      have hE := soundE e g.toGd tk h2
      obtain ⟨pg, _⟩ := nm_ok g.nd (.inr g.fnall) h1
      have other : swapsWith v (some (.Name x p)) pos.line X.env = pure false → PS X (.Assign [.Name x p] v pos) (tS X.K xa W (evS C (.asg (.n i) e))) := fun hs =>
        ps_asgN (ps_asg hE pg hs (by cases v <;> rfl) rfl) fun σ H Q hq => hq
      cases hc : isCompE v with
      | false => exact other (sw_nc hc)
      | true =>
        cases v <;> first | (cases hc; done) | (cases e <;> cases h2; done) | skip
        rename_i elt gs scope p2
        cases hb : swB X.env.scope x p (.ListComp elt gs scope p2) with
        | false => exact other (by rw [sw_lc g.kind, hb])
        | true =>
          have hloc : X.env.scope.names.lookup x = some .local := by
            have hb' := (ba (ba hb).1).1
            exact eq_of_beq hb'
          have hN : X.N[i]? = some x := of_decide_eq_true (ba h1).1
          cases e <;> first | (cases h2; done) | skip
          rename_i el tg it c
          unfold chkE at h2
          split at h2
          · rename_i v t i' ifs scope' p3 heq
            cases heq
            obtain ⟨cm, h2⟩ := ba h2
            have hE := (ba (ba (ba (ba h2).2).2).2).1
            obtain ⟨B, pi, pg', pt, pe, fo, hm⟩ := lc_parts (W := W) g.toGd cm h2 (fun hi => soundI it g.toGd tk hi) (fun {X'} g' e1 e2 e3 => by
              rw [← e2]
              exact soundE el g' takesF (by rw [e1, e3]; exact hE)) (fun {X' e} g' e1 e2 e3 hc => by
              rw [← e2]
              exact (soundT c g' takesF hc).1)
            have key := ps_setLc (py := p) (spos := pos) (g.calm cm) g.nd hN hloc (by rw [sw_lc g.kind, hb]) pi B pg' pt pe fo
            rw [hm] at key
            exact ps_asgN key fun σ H Q hq => lc_read hq
          · cases h2
    · cases h
  | .asg (.t is) e, X, W, st, g, tk, h => by
    unfold chkS at h
    split at h
    · obtain ⟨cm, h⟩ := ba h
      obtain ⟨h1, h2⟩ := ba h
      obtain ⟨h1, h3⟩ := ba h1
      exact ps_asgT (soundE e g.toGd tk h2) (tg_ok (g.calm cm) g.nd (.inr g.fnall) h1) sws_tup (sw_eq g.kind (of_decide_eq_true h3)) rfl
    · obtain ⟨cm, h⟩ := ba h
      obtain ⟨h1, h2⟩ := ba h
      obtain ⟨h1, h3⟩ := ba h1
      exact ps_asgT (soundE e g.toGd tk h2) (tg_ok (g.calm cm) g.nd (.inr g.fnall) h1) sws_tup (sw_non fun vs k p z => by rw [z] at h3; cases h3) rfl
    · cases h
  | .asg (.u ts') e, X, W, st, g, tk, h => by
    unfold chkS at h
    split at h
    · obtain ⟨cm, h⟩ := ba h
      obtain ⟨h1, h2⟩ := ba h
      obtain ⟨h1, h3⟩ := ba h1
      exact ps_asgU (soundE e g.toGd tk h2) (tg_ok (g.calm cm) g.nd (.inr g.fnall) h1) sws_tup (sw_eq g.kind (of_decide_eq_true h3)) rfl
    · obtain ⟨cm, h⟩ := ba h
      obtain ⟨h1, h2⟩ := ba h
      obtain ⟨h1, h3⟩ := ba h1
      exact ps_asgU (soundE e g.toGd tk h2) (tg_ok (g.calm cm) g.nd (.inr g.fnall) h1) sws_tup (sw_non fun vs k p z => by rw [z] at h3; cases h3) rfl
    · cases h
  | .par is es, X, W, st, g, tk, h => by
    unfold chkS at h
    split at h
    · obtain ⟨cm, h⟩ := ba h
      obtain ⟨h1, h2⟩ := ba h
      obtain ⟨h1, h3⟩ := ba h1
      have hs := of_decide_eq_true h3
      obtain ⟨pa, ln⟩ := soundVs es g.toGd tk h2
      exact par_sound (g.calm cm) g.nd h1 hs (sw_eq g.kind hs) pa ln
    · cases h
  | .set i x e, X, W, st, g, tk, h => by
    unfold chkS at h
    split at h
    · obtain ⟨h1, h⟩ := ba h
      obtain ⟨h2, h3⟩ := ba h
      exact ps_set' (soundE e g.toGd tk h3) (pg_sub (name_of h1) (pe_toD (soundE x g.toGd tk h2)) set_list (sub_asg h2)) sws_sub sw_subs rfl
    · cases h
  | .aug i o e, X, W, st, g, tk, h => by
    unfold chkS at h
    split at h
    · rename_i x p op v pos
      obtain ⟨h1, h3⟩ := ba h
      obtain ⟨h1, h2⟩ := ba h1
      have hE := pe_toD (soundE e g.toGd tk h3)
      obtain ⟨h4, h5⟩ := ba h1
      have hx : Loc X.env.scope x := by
        rcases Bool.or_eq_true_iff.mp h5 with h5 | h5
        · exact .inl (of_decide_eq_true h5)
        · exact .inr (of_decide_eq_true (ba h5).2)
      have hN := of_decide_eq_true h4
      unfold augOk at h2
      rcases Bool.or_eq_true_iff.mp h2 with h2 | h2
      · obtain ⟨e1, e2⟩ := ba h2
        have e1 := of_decide_eq_true e1
        have e2 := of_decide_eq_true e2
        subst e1
        subst e2
        exact ps_aug' (ps_aug g.nd hN hx hE ip_add (.inl (g.fnall x))) fun x y z hz => aug_add hz
      · obtain ⟨e1, e2⟩ := ba h2
        have e1 := of_decide_eq_true e1
        have e2 := of_decide_eq_true e2
        subst e1
        subst e2
        exact ps_aug' (ps_aug g.nd hN hx hE ip_sub (.inl (g.fnall x))) fun x y z hz => aug_sub hz
    · cases h
  | .app i e, X, W, st, g, tk, h => by
    unfold chkS at h
    split at h
    · obtain ⟨h1, h5⟩ := ba h
      clear h
      obtain ⟨h0, h2⟩ := ba h1
      clear h1
      obtain ⟨h2, h3⟩ := ba h2
      have e1 := of_decide_eq_true h2
      subst e1
      have hE := soundE e g.toGd tk h5
      have hs := star_of h5 [] X.env
      refine ps_app' (ps_expr (pe_bm PySem.F.plainAttrs_list PySem.F.slot_list_append PySem.F.type_list_append mt_append (name_of h0) (pa_cons (pe_toD hE) pa_nil hs) rfl ?_ h3 hs rfl))
      rw [hs]
      rfl
    · cases h
  | .ext i e, X, W, st, g, tk, h => by
    unfold chkS at h
    split at h
    · obtain ⟨h1, h5⟩ := ba h
      clear h
      obtain ⟨h0, h2⟩ := ba h1
      clear h1
      obtain ⟨h2, h3⟩ := ba h2
      have e1 := of_decide_eq_true h2
      subst e1
      have hE := soundE e g.toGd tk h5
      have hs := star_of h5 [] X.env
      refine ps_ext' (ps_expr (pe_bm PySem.F.plainAttrs_list PySem.F.slot_list_extend PySem.F.type_list_extend mt_extend (name_of h0) (pa_cons (pe_toD hE) pa_nil hs) rfl ?_ h3 hs rfl))
      rw [hs]
      rfl
    · cases h
  | .expr e, X, W, st, g, tk, h => by
    unfold chkS at h
    split at h
    · rename_i v p
      obtain ⟨h1, h2⟩ := ba h
      exact ps_expr' (soundE e g.toGd tk h2) (sw_nc (by cases hc : isCompE v with | false => rfl | true => rw [hc] at h1; cases h1))
    · cases h
  | .ite c a b, X, W, st, g, tk, h => by
    unfold chkS at h
    split at h
    · obtain ⟨h1, h⟩ := ba h
      obtain ⟨h2, h3⟩ := ba h
      exact ps_ite' (soundT c g.toGd tk h1).1 (soundSs a g tk h2) (soundSs b g tk h3)
    · cases h
  | .whl c b, X, W, st, g, tk, h => by
    unfold chkS at h
    split at h
    · obtain ⟨cm, h⟩ := ba h
      obtain ⟨h1, h2⟩ := ba h
      exact ps_whl' (g.pass cm) (soundT c g.toGd tk h1).1 (soundSs b g tk h2)
    · cases h
  | .for_ t it b, X, W, st, g, tk, h => by
    unfold chkS at h
    split at h
    · obtain ⟨cm, h⟩ := ba h
      obtain ⟨h1, h⟩ := ba h
      obtain ⟨h2, h3⟩ := ba h
      obtain ⟨pi, fo⟩ := soundI it g.toGd tk h2
      exact ps_for' (g.pass cm) (g.calm cm) pi (tg_ok (g.calm cm) g.nd (.inr g.fnall) h1) (soundSs b g tk h3) fo
    · cases h
  | .ret e, X, W, st, g, tk, h => by
    unfold chkS at h
    split at h
    · exact ps_ret' (soundE e g.toGd tk h)
    · cases h
  | .retv i, X, W, st, g, tk, h => by
    unfold chkS at h
    split at h
    · exact ps_retv' (name_of h)
    · cases h
  | .retN, X, W, st, g, tk, h => by
    unfold chkS at h
    split at h
    · exact ps_retN'
    · cases h
  | .raise c, X, W, st, g, tk, h => by
    unfold chkS at h
    split at h
    · rename_i x p p2 p3
      obtain ⟨cm, h⟩ := ba h
      obtain ⟨h1, h2⟩ := ba h
      obtain ⟨g1, g2⟩ := glb_of h1
      obtain ⟨e1, e2, e3, e4, e5⟩ := g.exs c x (of_decide_eq_true h2)
      exact ps_raise0 (g.calm cm) tk (pmk_own0 PySem.F.excBase_ValueError e3 e1 e2 (raises_own e4 e5) g1 g2)
    · cases h
  | .raisex c x, X, W, st, g, tk, h => ps_bad fun ρ => rfl
  | .pass, X, W, st, g, tk, h => by
    unfold chkS at h
    split at h
    · exact ps_pass'
    · cases h
  | .brk, X, W, st, g, tk, h => by
    unfold chkS at h
    split at h
    · exact ps_brk'
    · cases h
  | .ct, X, W, st, g, tk, h => by
    unfold chkS at h
    split at h
    · exact ps_ct'
    · cases h
theorem soundSs : ∀ (m : Ss) {X : Cx} {W : WX} {sts : List Stmt}, GdS X C M xa k → Takes X W → chkSs M X.N X.env.scope sts m = true → PSs X sts (tS X.K xa W (evSs C m))
  | .nil, X, W, sts, g, tk, h => by
    cases sts with
    | nil => exact pss_nil'
    | cons s r => cases h
  | .cons s r, X, W, sts, g, tk, h => by
    cases sts with
    | nil => cases h
    | cons st rest =>
      obtain ⟨h1, h2⟩ := ba h
      exact pss_cons' (soundS s g tk h1) (soundSs r g tk h2)
end
end
end Pv

namespace Pv
open PySem L2 PySem.Spec PyProof.Rows

/-! ### a def that calls what it is handed, in a try -/
def hdNm (M : Nm) : Nm := { M with fn := [], cm := false, lm := false }
section
variable (M : Nm) (N : List Str) (sc : Scope)
def chkHds : List ExceptHandler → List Hd → Bool
  | [], [] => true
  | .ExceptHandler (some (.Name x _)) none (b0 :: suite) _ :: r, h :: hs => ((isGlb sc x && decide (M.ex[h.c]? = some x)) && (h.as.isNone && chkSs (hdNm M) N sc (b0 :: suite) h.b)) && chkHds r hs
  | _, _ => false
def chkHd1 : List ExceptHandler → List Hd → Bool
  | [.ExceptHandler (some (.Name x _)) (some n) (b0 :: suite) _], [h] => (isGlb sc x && decide (M.ex[h.c]? = some x)) && ((match h.as with
    | some i => decide (N[i]? = some n) && isLoc sc n
    | none => false) && chkSs (hdNm M) N sc (b0 :: suite) h.b)
  | _, _ => false
def chkTry (a : Str) (w : WFn) : List Stmt → Bool
  | .Try [.Expr (.Call (.Name y _) [] [] _) _] (h0 :: hds) [] [] _ :: post => decide (y = a) && ((chkHds M N sc (h0 :: hds) w.hs || chkHd1 M N sc (h0 :: hds) w.hs) && chkSs (hdNm M) N sc post w.post)
  | _ => false
def chkW (a : Str) (w : WFn) (body : List Stmt) : Bool := match w.pre, body with
  | none, b => chkTry M N sc a w b
  | some (i, d), .Assign [.Name x p] v _ :: b => ((chkNm N sc false (.Name x p) i && (cnD d && !(i == 0))) && (chkE M N sc v (.k d) && !isCompE v)) && chkTry M N sc a w b
  | _, _ => false
end
/-- what is known of the classes of exceptions -/
structure XcOk {τ : Tls} (K : PySem.W.Frag) (xa : XAt τ) (ex : List Str) (nx : Nat) : Prop where
  exc : ∀ c, c < nx → ExcC K (xa c)
  exm : ∀ c, c < nx → ∀ c' x, ex[c']? = some x → PySem.W.exmOne K (.ref (xa c)) (.ref (xa c')) = some (isub c c')
  kv : ∀ c, c < nx → PySem.W.kitOne K (.ref (xa c)) (.type "ValueError") = some true
  kit : ∀ c, c < nx → ∀ c' x, ex[c']? = some x → PySem.W.kitOne K (.ref (xa c)) (.ref (xa c')) = some (isub c c')
/-- what is known of the module -/
structure ModOk {τ : Tls} (K : PySem.W.Frag) (mg : Str → Option Value) (xa : XAt τ) (gl : Gls) (M : Nm) : Prop where
  xc : XcOk K xa M.ex gl.nx
  gls : ∀ j x d, M.gl[j]? = some x → gl j = some d → ∃ u v, mg x = some u ∧ RelV v u ∧ ∀ F, Rep K F v d
  blt : ∀ x ∈ bltNms, mg x = none
  exs : ∀ c x, M.ex[c]? = some x → mg x = some (.ref (xa c)) ∧ PySem.W.keepIn K (.ref (xa c)) = true ∧ PySem.W.excIn K (xa c) He.veBase "ValueError.__new__" = true ∧ PySem.W.subIn K (.ref (xa c)) (.type "BaseException") = some true ∧ PySem.W.typeIn K (.ref (xa c)) = some (.type "type")
theorem getElem_nil {α : Type} {j : Nat} {x : α} (h : ([] : List α)[j]? = some x) : False := by simp at h
section
variable {τ : Tls} {xa : XAt τ} {M : Nm} {gl : Gls}
theorem gd_hd {X : Cx} {C : Cfg} (m : ModOk X.K X.mg xa gl M) (hgl : C.gl = gl) (nd : X.N.Nodup) (kind : X.env.scope.kind = .function) (hu : X.A.units + 100 < cLine) (hf : ∀ x, X.fn x = true)
    (held : ∀ a c, C.ex = some (a, c, none) → CallR X (.builtin "isinstance") (rIsE X.K (xa c) a) ∧ c < C.gl.nx) : GdS X C (hdNm M) xa 0 := by
  subst hgl
  exact { calm := (fun z => nomatch z), nd := nd, kind := kind, units := hu, room := (fun z => nomatch z), fns := fun j x h => (getElem_nil h).elim, lam := (fun z => nomatch z), low := (fun z => nomatch z), exn := (fun z => nomatch z), held := held, kit := fun c hc => ⟨m.xc.kv c hc, m.xc.kit c hc⟩, gls := m.gls, blt := m.blt, exs := m.exs, fnall := hf, pass := (fun z => nomatch z) }
/-- the beginning behind the lambda -/
abbrev entW (τ : Tls) (F H : Hp) : Ent τ := ⟨F, H, fun _ => False, none⟩
variable {K : PySem.W.Frag} {F H : Hp} {w : WFn} {Q : VK} {dv : D}
theorem frame_w {ρ : Env} {σ : L2.St} {F2 H2 : Hp} (r : Rel K (entW τ F H) F2 H2 ρ σ) : Frame τ F H none F2 H2 := ⟨fun a o h ho _ => r.frm a o h ho (fun z => z), fun a h1 h2 _ => r.old a h1 h2 (fun z => z), r.tab, r.nt⟩
abbrev endW (Q : VK) : Ends := { nx := fun _ H' => Q .non H', rt := Q }
theorem post_fin {r : SR} {F1 : Hp} (ex1 : Ex F F1) (hv : valR r = some dv) (hl : ∀ F2 H2 v, Ex F F2 → Ex F2 H2 → Frame τ F H none F2 H2 → Rep K F2 v dv → Q v H2) : PostS K xa WF (entW τ F H) F1 (endW Q) r := by
  cases r with
  | ret x ρ =>
    cases x with
    | fr xs => cases hv
    | pv d =>
      cases hv
      exact fun F' H' σ' v ex rel rep => hl F' H' v (ex1.trans ex) rel.sub (frame_w rel) rep
  | nx ρ =>
    cases hv
    exact fun F' H' σ' ex rel => hl F' H' .non (ex1.trans ex) rel.sub (frame_w rel) .non
  | _ => cases hv
/-- the first slots -/
def sWE (w : WFn) (σ : L2.St) : L2.St := match w.pre with
  | none => σ
  | some (i, d) => σ.set i (some (vC d))
theorem wEnv_len (w : WFn) : (wEnv w).length = w.nl := by
  unfold wEnv
  split
  · rw [List.length_replicate]
  · rw [List.length_set, List.length_replicate]
theorem rel_w {σ : L2.St} (hlen : w.nl = σ.length) (hpre : ∀ i d, w.pre = some (i, d) → cnD d = true) (sub : Ex F H) (tab : LamX.Tabs τ H) (nt : ∀ a ps, F a ≠ some (.tbl ps)) : Rel K (entW τ F H) F H (wEnv w) (sWE w σ) := by
  have slot : ∀ (i : Nat) (s : Slot), (wEnv w)[i]? = some (some s) → ∃ d, s = .v d ∧ cnD d = true ∧ (sWE w σ)[i]? = some (some (vC d)) := fun i s h => by
    unfold wEnv at h
    unfold sWE
    cases hp : w.pre with
    | none =>
      rw [hp] at h
      dsimp only at h
      rw [List.getElem?_replicate] at h
      split at h <;> cases h
    | some p =>
      obtain ⟨j, d⟩ := p
      rw [hp] at h
      dsimp only at h ⊢
      by_cases hj : j = i
      · subst hj
        by_cases hl : j < w.nl
        · rw [List.getElem?_set_self (by rw [List.length_replicate]; exact hl)] at h
          cases h
          exact ⟨d, rfl, hpre j d hp, List.getElem?_set_self (by rw [← hlen]; exact hl)⟩
        · rw [List.getElem?_eq_none (by rw [List.length_set, List.length_replicate]; omega)] at h
          cases h
      · rw [List.getElem?_set_ne hj, List.getElem?_replicate] at h
        split at h <;> cases h
  refine ⟨?_, Ex.refl F, sub, fun i s h => ?_, fun i j s t p hij h1 h2 m1 m2 => ?_, fun a o h _ _ => h, fun a h _ _ => h, fun p hp => hp.elim, fun p hp => (nomatch hp), tab, nt⟩
  · rw [wEnv_len]
    unfold sWE
    cases w.pre with
    | none => exact hlen
    | some p => rw [List.length_set]; exact hlen
  · obtain ⟨d, rfl, hd, hv⟩ := slot i s h
    exact ⟨_, hv, vC_rep hd F⟩
  · obtain ⟨d, rfl, _⟩ := slot i s h1
    cases m1
theorem rel_set {e : Ent τ} {ρ : Env} {σ : L2.St} {i : Nat} {v : Option V} (r : Rel K e F H ρ σ) : Rel K e F H (ρ.set i none) (σ.set i v) := by
  have place : ∀ (j : Nat) (s : Slot), (ρ.set i none)[j]? = some (some s) → i ≠ j ∧ ρ[j]? = some (some s) := fun j s h => by
    by_cases hj : i = j
    · subst hj
      by_cases hi : i < ρ.length
      · rw [List.getElem?_set_self hi] at h
        cases h
      · rw [List.getElem?_eq_none (by rw [List.length_set]; omega)] at h
        cases h
    · rw [List.getElem?_set_ne hj] at h
      exact ⟨hj, h⟩
  refine ⟨by rw [List.length_set, List.length_set]; exact r.len, r.sub0, r.sub, fun j s h => ?_, fun j k s t p hjk h1 h2 m1 m2 hσ => ?_, r.frm, r.old, r.mh, r.pm, r.tab, r.nt⟩
  · obtain ⟨hj, h⟩ := place j s h
    rw [List.getElem?_set_ne hj]
    exact r.slot j s h
  · obtain ⟨hj, h1⟩ := place j s h1
    obtain ⟨hk, h2⟩ := place k t h2
    rw [List.getElem?_set_ne hj] at hσ
    rw [List.getElem?_set_ne hk]
    exact r.dis j k s t p hjk h1 h2 m1 m2 hσ
theorem rel_xc {e : Ent τ} {ρ : Env} {σ : L2.St} {i : Nat} {a : Addr} (r : Rel K e F H ρ σ) (hi : i < ρ.length) : Rel K e F H (ρ.set i (some (.xc a))) (σ.set i (some (.ref a))) := by
  have hiσ : i < σ.length := by rw [← r.len]; exact hi
  have place : ∀ (j : Nat) (s : Slot), (ρ.set i (some (.xc a)))[j]? = some (some s) → (i = j ∧ s = .xc a) ∨ (i ≠ j ∧ ρ[j]? = some (some s)) := fun j s h => by
    by_cases hj : i = j
    · subst hj
      rw [List.getElem?_set_self hi] at h
      cases h
      exact .inl ⟨rfl, rfl⟩
    · rw [List.getElem?_set_ne hj] at h
      exact .inr ⟨hj, h⟩
  refine ⟨by rw [List.length_set, List.length_set]; exact r.len, r.sub0, r.sub, fun j s h => ?_, fun j k s t p hjk h1 h2 m1 m2 hσ => ?_, r.frm, r.old, r.mh, r.pm, r.tab, r.nt⟩
  · rcases place j s h with ⟨rfl, rfl⟩ | ⟨hj, h⟩
    · exact ⟨_, List.getElem?_set_self hiσ, rfl⟩
    · rw [List.getElem?_set_ne hj]
      exact r.slot j s h
  · rcases place j s h1 with ⟨_, rfl⟩ | ⟨hj, h1⟩
    · cases m1
    · rcases place k t h2 with ⟨_, rfl⟩ | ⟨hk, h2⟩
      · cases m2
      · rw [List.getElem?_set_ne hj] at hσ
        rw [List.getElem?_set_ne hk]
        exact r.dis j k s t p hjk h1 h2 m1 m2 hσ
theorem freeAt_lt {ρ : Env} {i : Nat} (h : freeAt ρ i = true) : i < ρ.length := by
  unfold freeAt at h
  cases hx : ρ[i]? with
  | none => rw [hx] at h; cases h
  | some s => exact (List.getElem?_eq_some_iff.mp hx).1
end

section
variable {τ : Tls} {X : Cx} {xa : XAt τ} {M : Nm} {gl : Gls} {w : WFn} {Ng : List Str} {x a : Str} {sg : Scope} {g : Addr} {cdg : Value} {s : Shared} {H : Hp} {Q : VK} {D : Ends} {dv : PyData} {k : Nat}
theorem valR_bind {r : SR} {f : Env → SR} {d : PyData} (h : valR (r.bind f) = some d) : (∃ ρ, r = .nx ρ ∧ valR (f ρ) = some d) ∨ ∃ ρ, r = .ret (.pv d) ρ := by
  cases r with
  | nx ρ => exact .inl ⟨ρ, rfl, h⟩
  | ret y ρ =>
    cases y with
    | pv d' => cases h; exact .inr ⟨ρ, rfl⟩
    | fr xs => cases h
  | _ => cases h
/-- the clauses' readings -/
def tsL {τ : Tls} (K : PySem.W.Frag) (xa : XAt τ) (gl : Gls) (hs : List Hd) : List (Value × (Addr → Value → Option Addr → TS)) := hs.map fun h => (Value.ref (xa h.c), fun _ _ _ => tS K xa WF (evSs (noC gl none) h.b))
def tsA {τ : Tls} (K : PySem.W.Frag) (xa : XAt τ) (gl : Gls) (h : Hd) (a : Addr) (cls : Value) (d : Option Addr) : TS := fun D σ H => ∃ c y, cls = .ref (xa c) ∧ c < gl.nx ∧ (y = none → d = none) ∧ tS K xa WF (evSs (noC gl (some (a, c, y))) h.b) D σ H
theorem un_w (hr : Room (k + 1) X.A) : (gCx X Ng x sg g cdg s H).A.units + 100 < cLine := by
  have := (hr.deeper (envOfC x sg s.heap.objs.size g cdg)).un
  show (X.A.deeper (envOfC x sg s.heap.objs.size g cdg)).units + 100 < cLine
  omega
theorem hds_ok (m : ModOk X.K X.mg xa gl M) (Sg : FnScope Ng [a] sg) (hr : Room (k + 1) X.A) : ∀ {hds : List ExceptHandler} {hs : List Hd}, chkHds M Ng sg hds hs = true → HdsOk (gCx X Ng x sg g cdg s H).nox hds (tsL X.K xa gl hs)
  | [], [], _ => .nil
  | [], _ :: _, h => by cases h
  | hd :: hds, [], h => by
    unfold chkHds at h
    split at h
    · rename_i e1 e2; cases e1
    · rename_i e1 e2; cases e2
    · cases h
  | hd :: hds, h0 :: hs, h => by
    unfold chkHds at h
    split at h
    · rename_i e1 e2; cases e1
    · rename_i y p b0 suite p' r h' hs' e1 e2
      cases e1
      cases e2
      obtain ⟨h1, h2⟩ := ba h
      obtain ⟨h3, h4⟩ := ba h1
      obtain ⟨h5, h6⟩ := ba h3
      obtain ⟨h7, h8⟩ := ba h4
      obtain ⟨g1, g2⟩ := glb_of (X := (gCx X Ng x sg g cdg s H).nox) h5
      refine .cons ⟨g1, g2, .inl (m.exs _ y (of_decide_eq_true h6)).1⟩ (fun a oe cls d pn hz hf => ?_) (hds_ok m Sg hr h2)
      exact soundSs (C := noC gl none) (M := hdNm M) (k := 0) h0.b (X := (gCx X Ng x sg g cdg s H).nox.suite a ((a, oe) :: pn)) (gd_hd m rfl Sg.nd Sg.kind (un_w (Ng := Ng) (x := x) (sg := sg) (g := g) (cdg := cdg) (s := s) (H := H) hr) (fun _ => rfl) (fun _ _ z => nomatch z)) takesF h8
    · cases h
theorem as_none {h : Hd} (e : h.as.isNone = true) : h.as = none := by
  cases q : h.as with
  | none => rfl
  | some i => rw [q] at e; cases e
theorem many_ok {F' H' : Hp} {σ : L2.St} {c : Nat} {y : Option PyData} {d : Option Addr} {ad : Nat} (m : ModOk X.K X.mg xa gl M) (hlt : c < gl.nx) (rel : Rel X.K (entW τ F' H') F' H' (wEnv w) σ)
    (hl : ∀ F2 H2 v, Ex F' F2 → Ex F2 H2 → Frame τ F' H' none F2 H2 → Rep X.K F2 v dv → Q v H2) : ∀ {hds : List ExceptHandler} {hs : List Hd}, chkHds M Ng sg hds hs = true → valR ((hdRun gl ad c y hs (wEnv w)).bind fun ρ => evSs (noC gl none) w.post ρ) = some dv →
      wMany X.K WF { endW Q with nx := tS X.K xa WF (evSs (noC gl none) w.post) (endW Q) } (tsL X.K xa gl hs) (.ref (xa c)) d σ H'
  | _, [], _, hv => by cases hv
  | [], _ :: _, h, _ => by cases h
  | hd :: hds, h0 :: hs, h, hv => by
    unfold chkHds at h
    split at h
    · rename_i e1 e2; cases e1
    · rename_i z p b0 suite p' r h' hs' e1 e2
      cases e1
      cases e2
      obtain ⟨h1, h2⟩ := ba h
      obtain ⟨h3, h4⟩ := ba h1
      obtain ⟨h5, h6⟩ := ba h3
      obtain ⟨h7, h8⟩ := ba h4
      refine ⟨isub c h0.c, m.xc.exm c hlt _ z (of_decide_eq_true h6), fun hb ad' _ => ?_, fun hb => ?_⟩
      · unfold hdRun at hv
        rw [if_pos hb, as_none h7] at hv
        dsimp only at hv
        refine ⟨entW τ F' H', F', wEnv w, fun _ z => z.elim, rel, ?_⟩
        rcases valR_bind hv with ⟨ρ, e, hv2⟩ | ⟨ρ, e⟩
        · rw [e]
          exact fun F2 H2 σ2 ex2 rel2 => ⟨entW τ F' H', F2, ρ, fun _ z => z.elim, rel2, post_fin ex2 hv2 hl⟩
        · rw [e]
          exact fun F2 H2 σ2 v ex2 rel2 rep => hl F2 H2 v ex2 rel2.sub (frame_w rel2) rep
      · unfold hdRun at hv
        rw [if_neg (by rw [hb]; exact Bool.false_ne_true)] at hv
        exact many_ok m hlt rel hl h2 hv
    · cases h
theorem one_ok {F' H' : Hp} {σ : L2.St} {c i : Nat} {y : Option PyData} {d : Option Addr} {h0 : Hd} {z : Str} (m : ModOk X.K X.mg xa gl M) (hlt : c < gl.nx) (hz : M.ex[h0.c]? = some z) (hi : h0.as = some i) (hy : y = none → d = none) (rel : Rel X.K (entW τ F' H') F' H' (wEnv w) σ)
    (hl : ∀ F2 H2 v, Ex F' F2 → Ex F2 H2 → Frame τ F' H' none F2 H2 → Rep X.K F2 v dv → Q v H2) (hv : ∀ ad, valR ((hdRun gl ad c y [h0] (wEnv w)).bind fun ρ => evSs (noC gl none) w.post ρ) = some dv) :
      wAs X.K (.ref (xa h0.c)) i (tsA X.K xa gl h0) WF { endW Q with nx := tS X.K xa WF (evSs (noC gl none) w.post) (endW Q) } (.ref (xa c)) d σ H' := by
  refine ⟨isub c h0.c, m.xc.exm c hlt _ z hz, fun hb ad _ => ?_, fun hb => ?_⟩
  · have hv := hv ad
    unfold hdRun at hv
    rw [if_pos hb, hi] at hv
    dsimp only at hv
    split at hv
    · rename_i hf
      have hlen := freeAt_lt hf
      refine ⟨c, y, rfl, hlt, hy, entW τ F' H', F', _, fun _ z => z.elim, rel_xc (a := ad) rel hlen, ?_⟩
      generalize hR : evSs (noC gl (some (ad, c, y))) h0.b ((wEnv w).set i (some (.xc ad))) = r at hv
      cases r with
      | nx ρ =>
        have hv : valR (evSs (noC gl none) w.post (ρ.set i none)) = some dv := hv
        exact fun F2 H2 σ2 ex2 rel2 => ⟨entW τ F' H', F2, ρ.set i none, fun _ z => z.elim, rel_set rel2, post_fin ex2 hv hl⟩
      | ret u ρ =>
        cases u with
        | fr xs => cases hv
        | pv d' =>
          cases hv
          exact fun F2 H2 σ2 v ex2 rel2 rep => hl F2 H2 v ex2 rel2.sub (frame_w rel2) rep
      | _ => cases hv
    · cases hv
  · have hv := hv 0
    unfold hdRun at hv
    rw [if_neg (by rw [hb]; exact Bool.false_ne_true)] at hv
    cases hv
/-- the try and what follows -/
theorem try_ok {st : List Stmt} {f c' : Addr} {q : Str} {tl : XK → Hp → VK → Prop} {σ1 : L2.St} (m : ModOk X.K X.mg xa gl M) (Sg : FnScope Ng [a] sg) (hr : Room (k + 1) X.A) (hc : chkTry M Ng sg a w st = true)
    (act : ∀ (W : WX) (pn : List (Addr × Obj)) (xe : Value → Shared → Prop) (p1 p2 : Pos), Takes ((gCx X Ng x sg g cdg s H).tr pn xe) W →
      PE ((gCx X Ng x sg g cdg s H).tr pn xe) (.Call (.Name a p1) [] [] p2) (fun σ1 H1 Q => σ1[0]? = some (some (.ref f)) ∧ H1 c' = some (LamX.CodeO c' q) ∧ tl (WE W σ1) H1 Q))
    (hco : H c' = some (LamX.CodeO c' q)) (hT : TTw (τ := τ) X.K xa gl w tl H Q) (h0 : σ1[0]? = some (some (.ref f)))
    (rel : ∀ F' H', Ex F' H' → LamX.Tabs τ H' → (∀ a ps, F' a ≠ some (.tbl ps)) → Rel X.K (entW τ F' H') F' H' (wEnv w) σ1) :
    ∃ t, PSs (gCx X Ng x sg g cdg s H).nox st t ∧ t (endW Q) σ1 H := by
  unfold chkTry at hc
  split at hc
  · rename_i y p1 p2 p3 hd hds p4 post
    obtain ⟨e1, hc⟩ := ba hc
    obtain ⟨h1, h2⟩ := ba hc
    have e1 := of_decide_eq_true e1
    subst e1
    have hpost : PSs (gCx X Ng x sg g cdg s H).nox post (tS X.K xa WF (evSs (noC gl none) w.post)) :=
      soundSs (C := noC gl none) (M := hdNm M) (k := 0) w.post (X := (gCx X Ng x sg g cdg s H).nox) (gd_hd m rfl Sg.nd Sg.kind (un_w (Ng := Ng) (x := x) (sg := sg) (g := g) (cdg := cdg) (s := s) (H := H) hr) (fun _ => rfl) (fun _ _ z => nomatch z)) takesF h2
    have body : ∀ (W : WX) (pn : List (Addr × Obj)) (xe : Value → Shared → Prop), Takes ((gCx X Ng x sg g cdg s H).nox.tr pn xe) W → PassesOwn (model X.prog X.w) (gCx X Ng x sg g cdg s H).nox.A (gCx X Ng x sg g cdg s H).nox.env xe →
        PSs ((gCx X Ng x sg g cdg s H).nox.tr pn xe) [.Expr (.Call (.Name y p1) [] [] p2) p3] (tDrop (fun σ1 H1 Q => σ1[0]? = some (some (.ref f)) ∧ H1 c' = some (LamX.CodeO c' q) ∧ tl (WE W σ1) H1 Q)) := fun W pn xe tk _ =>
      pss_one (ps_expr (act W pn xe p1 p2 tk))
    have ok : ∀ W : WX, (∀ c d F' H' z, Ex F' H' → LamX.Tabs τ H' → (∀ a ps, F' a ≠ some (.tbl ps)) → XR X.K F' z d → Leads (τ := τ) X.K gl w (.exc c z) F' H' Q → c < gl.nx → W (.ref (xa c)) d σ1 H') →
        tDrop (fun σ1 H1 Q => σ1[0]? = some (some (.ref f)) ∧ H1 c' = some (LamX.CodeO c' q) ∧ tl (WE W σ1) H1 Q) { endW Q with nx := tS X.K xa WF (evSs (noC gl none) w.post) (endW Q) } σ1 H := fun W hW => by
      refine ⟨h0, hco, hT _ _ (fun c d H' hx => ?_) fun v H' ho => ?_⟩
      · obtain ⟨F', z, ex, tb, nt, xr, ld⟩ := hx
        by_cases hlt : c < gl.nx
        · exact hW c d F' H' z ex tb nt xr ld hlt
        · obtain ⟨dv, hv, _⟩ := ld
          have := hv 0
          unfold wrun at this
          dsimp only at this
          rw [if_neg hlt] at this
          cases this
      · obtain ⟨F', ex, tb, nt, dv, hv, hl⟩ := ho
        exact ⟨entW τ F' H', F', wEnv w, fun _ z => z.elim, rel F' H' ex tb nt, post_fin (Ex.refl _) (hv 0) hl⟩
    have wr : ∀ c z a, c < gl.nx → wrun gl w (.exc c z) a = (hdRun gl a c z w.hs (wEnv w)).bind fun ρ => evSs (noC gl none) w.post ρ := fun c z a hlt => by
      show (if c < gl.nx then (hdRun gl a c z w.hs (wEnv w)).bind fun ρ => evSs (noC gl none) w.post ρ else .bad) = _
      rw [if_pos hlt]
    rcases Bool.or_eq_true_iff.mp h1 with k1 | k1
    · refine ⟨_, pss_cons (ps_try_many rfl rfl L2.takes0 body (hds_ok m Sg hr k1)) hpost, ?_⟩
      refine ok _ fun c d F' H' z ex tb nt xr ld hlt => ?_
      obtain ⟨dv, hv, hl⟩ := ld
      have hv := hv 0
      rw [wr c z 0 hlt] at hv
      exact many_ok m hlt (rel F' H' ex tb nt) hl k1 hv
    · unfold chkHd1 at k1
      split at k1
      · rename_i z p5 n b0 suite p6 h0' e1 e2
        cases e1
        obtain ⟨h3, h4⟩ := ba k1
        obtain ⟨h5, h6⟩ := ba h3
        obtain ⟨h7, h8⟩ := ba h4
        obtain ⟨g1, g2⟩ := glb_of (X := (gCx X Ng x sg g cdg s H).nox) h5
        have hz := of_decide_eq_true h6
        cases hi : h0'.as with
        | none => rw [hi] at h7; cases h7
        | some i =>
          rw [hi] at h7
          obtain ⟨h9, h10⟩ := ba h7
          have suiteOk : ∀ (ad : Addr) (oe : Obj) (cls : Value) (d : Option Addr) (pn : List (Addr × Obj)), Zc cls d oe → (∃ vs, oe.data = .fields vs) → PSs ((gCx X Ng x sg g cdg s H).nox.suite ad ((ad, oe) :: pn)) (b0 :: suite) (tsA X.K xa gl h0' ad cls d) := fun ad oe cls d pn hZ hf =>
            ⟨fun pins s' σ' H' D' I ⟨c, y', ec, hlt, hy, hh⟩ => by
              subst ec
              refine (soundSs (C := noC gl (some (ad, c, y'))) (M := hdNm M) (k := 0) h0'.b (X := (gCx X Ng x sg g cdg s H).nox.suite ad ((ad, oe) :: pn)) (gd_hd m rfl Sg.nd Sg.kind (un_w (Ng := Ng) (x := x) (sg := sg) (g := g) (cdg := cdg) (s := s) (H := H) hr) (fun _ => rfl) fun a' c'' hx => ?_) takesF h8).run pins s' σ' H' D' I hh
              cases hx
              have hd := hy rfl
              subst hd
              exact ⟨call_isE (m.xc.exc c hlt) hZ hf, hlt⟩⟩
          refine ⟨_, pss_cons (ps_try_as (i := i) (c := .ref (xa h0'.c)) rfl rfl Sg.nd (of_decide_eq_true h9) (of_decide_eq_true h10) ⟨g1, g2, .inl (m.exs _ z hz).1⟩ L2.takes0 body suiteOk) hpost, ?_⟩
          refine ok _ fun c d F' H' y' ex tb nt xr ld hlt => ?_
          obtain ⟨dv, hv, hl⟩ := ld
          refine one_ok (y := y') m hlt hz hi (fun e => ?_) (rel F' H' ex tb nt) hl fun ad => ?_
          · subst e; exact xr
          · have := hv ad
            rw [wr c y' ad hlt, e2] at this
            exact this
      · cases k1
  · cases hc
theorem gives_w {bg : List Stmt} {q : Str} (m : ModOk X.K X.mg xa gl M) (Sg : FnScope Ng [a] sg) (hr : Room (k + 1) X.A) (hc : chkW M Ng sg a w bg = true) (hnl : Ng.length = w.nl) (h1 : 0 < w.nl) : GiveS X Ng x sg g cdg bg a q (TTw (τ := τ) X.K xa gl w) := by
  intro f c' s H Q tl act hco hT
  have hs0 : (L2.start Ng [V.ref f])[0]? = some (some (.ref f)) := rfl
  have hlen : w.nl = (L2.start Ng [V.ref f]).length := by
    unfold L2.start
    rw [List.length_append, List.length_map, List.length_replicate, ← hnl]
    have : 0 < Ng.length := by rw [hnl]; exact h1
    simp only [List.length_cons, List.length_nil]
    omega
  unfold chkW at hc
  split at hc
  · rename_i b hp
    have hpre : ∀ i d, w.pre = some (i, d) → cnD d = true := fun i d e => by rw [hp] at e; cases e
    have e1 : sWE w (L2.start Ng [V.ref f]) = L2.start Ng [V.ref f] := by unfold sWE; rw [hp]
    exact try_ok m Sg hr hc act hco hT hs0 fun F' H' ex tb nt => by rw [← e1]; exact rel_w hlen hpre ex tb nt
  · rename_i i d y p v p2 b hp
    obtain ⟨h2, h3⟩ := ba hc
    obtain ⟨h4, h5⟩ := ba h2
    obtain ⟨h6, h7⟩ := ba h4
    obtain ⟨h8, h9⟩ := ba h5
    obtain ⟨h10, h11⟩ := ba h7
    have hpre : ∀ i' d', w.pre = some (i', d') → cnD d' = true := fun i' d' e => by rw [hp] at e; cases e; exact h10
    have e1 : sWE w (L2.start Ng [V.ref f]) = (L2.start Ng [V.ref f]).set i (some (vC d)) := by unfold sWE; rw [hp]
    have i0 : i ≠ 0 := fun z => by rw [z] at h11; cases h11
    have hσ0 : (sWE w (L2.start Ng [V.ref f]))[0]? = some (some (.ref f)) := by rw [e1, List.getElem?_set_ne i0]; exact hs0
    obtain ⟨t, ht, hq⟩ := try_ok m Sg hr h3 act hco hT hσ0 fun F' H' ex tb nt => rel_w hlen hpre ex tb nt
    obtain ⟨pg, _⟩ := nm_ok (X := (gCx X Ng x sg g cdg s H).nox) (strict := false) Sg.nd (.inr fun _ => rfl) h6
    have hnc : isCompE v = false := by
      cases e : isCompE v with
      | false => rfl
      | true => rw [e] at h9; cases h9
    refine ⟨_, pss_cons (ps_asg (cst_ok (X := (gCx X Ng x sg g cdg s H).nox) h8) pg (show swapsWith v (some (.Name y p)) p2.line (gCx X Ng x sg g cdg s H).nox.env = pure false from sw_nc hnc) (by cases v <;> rfl) rfl) ht, ?_⟩
    show t (endW Q) ((L2.start Ng [V.ref f]).set i (some (vC d))) H
    rw [← e1]
    exact hq
  · cases hc
end
end Pv

namespace Pv
open PySem L2 PyProof.Rows
/-! ### a def's promise -/
theorem argR_len {K : PySem.W.Frag} {F H : Hp} : ∀ {vs : List V} {as : List Slot}, ArgR K F H vs as → vs.length = as.length
  | [], [], _ => rfl
  | [], _ :: _, h => h.elim
  | _ :: _, [], h => h.elim
  | v :: vs, .v d :: ss, h => congrArg Nat.succ (argR_len h.2)
  | v :: vs, .io d :: ss, h => congrArg Nat.succ (argR_len h.2)
  | v :: vs, .raw d :: ss, h => congrArg Nat.succ (argR_len h.2)
  | v :: vs, .own d :: ss, h => h.elim
  | v :: vs, .fz d :: ss, h => h.elim
  | v :: vs, .xc d :: ss, h => h.elim
def isVS : Slot → Bool
  | .v _ => true
  | _ => false
theorem argR_get {K : PySem.W.Frag} {F H : Hp} : ∀ {vs : List V} {as : List Slot} {i : Nat} {s : Slot}, ArgR K F H vs as → as[i]? = some s → ∃ v, vs[i]? = some v ∧ match s with
    | .v d => Rep K F v d
    | .io xs => ∃ p us, v = .ref p ∧ F p = none ∧ H p = some (.lst us) ∧ Reps K F us xs
    | .raw xs => ∃ p us, v = .ref p ∧ SqL K F p us ∧ Reps K F us xs
    | _ => False
  | [], [], i, s, _, h => by simp at h
  | [], _ :: _, _, _, h, _ => h.elim
  | _ :: _, [], _, _, h, _ => h.elim
  | v :: vs, .v d :: ss, 0, s, h, e => by cases e; exact ⟨v, rfl, h.1⟩
  | v :: vs, .io d :: ss, 0, s, h, e => by cases e; exact ⟨v, rfl, h.1⟩
  | v :: vs, .raw d :: ss, 0, s, h, e => by cases e; exact ⟨v, rfl, h.1⟩
  | v :: vs, .v d :: ss, i + 1, s, h, e => by obtain ⟨w, h1, h2⟩ := argR_get (i := i) h.2 (by simpa using e); exact ⟨w, by simpa using h1, h2⟩
  | v :: vs, .io d :: ss, i + 1, s, h, e => by obtain ⟨w, h1, h2⟩ := argR_get (i := i) h.2 (by simpa using e); exact ⟨w, by simpa using h1, h2⟩
  | v :: vs, .raw d :: ss, i + 1, s, h, e => by obtain ⟨w, h1, h2⟩ := argR_get (i := i) h.2 (by simpa using e); exact ⟨w, by simpa using h1, h2⟩
  | v :: vs, .own d :: ss, _, _, h, _ => h.elim
  | v :: vs, .fz d :: ss, _, _, h, _ => h.elim
  | v :: vs, .xc d :: ss, _, _, h, _ => h.elim
theorem argOk_io : ∀ {as : List Slot} {i : Nat} {xs : List D}, argOk as = true → as[i]? = some (.io xs) → i = 0
  | [], _, _, _, e => by simp at e
  | s :: r, 0, _, _, _ => rfl
  | .v d :: r, i + 1, xs, h, e => by
    have e : r[i]? = some (.io xs) := by simpa using e
    have := List.all_eq_true.mp (show r.all _ = true from h) _ (List.mem_of_getElem? e)
    cases this
  | .io d :: r, i + 1, xs, h, e => by
    have e : r[i]? = some (.io xs) := by simpa using e
    have := List.all_eq_true.mp (show r.all _ = true from h) _ (List.mem_of_getElem? e)
    cases this
  | [.raw d], i + 1, xs, h, e => by simp at e
  | .raw d :: b :: r, i + 1, xs, h, e => by cases h
  | .own d :: r, i + 1, xs, h, e => by cases h
  | .fz d :: r, i + 1, xs, h, e => by cases h
  | .xc d :: r, i + 1, xs, h, e => by cases h
theorem ioAddr_io {v : V} {vs : List V} {xs : List D} {as : List Slot} {p : Addr} (h : v = .ref p) : ioAddr (v :: vs) (.io xs :: as) = some p := by subst h; rfl
theorem ioAddr_some {vs : List V} {as : List Slot} {p : Addr} (h : ioAddr vs as = some p) : ∃ vr xs ar, vs = .ref p :: vr ∧ as = .io xs :: ar := by
  unfold ioAddr at h
  split at h
  · cases h; exact ⟨_, _, _, rfl, rfl⟩
  · cases h
theorem start_get {N : List Str} {as : List Slot} {n i : Nat} {s : Slot} (h : (as.map some ++ List.replicate n none)[i]? = some (some s)) : as[i]? = some s := by
  by_cases hi : i < as.length
  · rw [List.getElem?_append_left (by simpa using hi), List.getElem?_map] at h
    cases e : as[i]? with
    | none => rw [e] at h; cases h
    | some t => rw [e] at h; cases h; rfl
  · rw [List.getElem?_append_right (by simpa using Nat.le_of_not_lt hi)] at h
    rw [List.getElem?_replicate] at h
    split at h <;> cases h
/-- what is meant by the beginning of a def -/
theorem rel_start {τ : Tls} {K : PySem.W.Frag} {F H : Hp} {vs : List V} {as : List Slot} {N : List Str} {n : Nat} (ex : Ex F H) (tb : LamX.Tabs τ H) (nt : ∀ a ps, F a ≠ some (.tbl ps)) (ar : ArgR K F H vs as) (ok : argOk as = true) (hn : n = N.length - as.length) :
    Rel K (⟨F, H, fun a => ioAddr vs as = some a, ioAddr vs as⟩ : Ent τ) F H (as.map some ++ List.replicate n none) (L2.start N vs) := by
  have hl := argR_len ar
  have io0 : ∀ {i : Nat} {s : Slot}, (as.map some ++ List.replicate n none)[i]? = some (some s) → s.isM = true → i = 0 := fun {i s} h hm => by
    have h := start_get (N := N) h
    cases s with
    | io xs => exact argOk_io ok h
    | own xs => obtain ⟨v, _, q⟩ := argR_get ar h; exact q.elim
    | v d => cases hm
    | fz xs => cases hm
    | raw xs => cases hm
    | xc a => cases hm
  refine ⟨?_, Ex.refl F, ex, fun i s h => ?_, fun i j s t p hij h1 h2 m1 m2 _ => absurd ((io0 h1 m1).trans (io0 h2 m2).symm) hij, fun a o h _ _ => h, fun a h _ _ => h, fun p hp => ?_, fun p hp => hp, tb, nt⟩
  · unfold L2.start
    rw [List.length_append, List.length_append, List.length_map, List.length_map, List.length_replicate, List.length_replicate, hn, hl]
  · have h := start_get (N := N) h
    obtain ⟨v, hv, q⟩ := argR_get ar h
    refine ⟨v, ?_, ?_⟩
    · unfold L2.start
      have hi : i < vs.length := (List.getElem?_eq_some_iff.mp hv).1
      rw [List.getElem?_append_left (by simpa using hi), List.getElem?_map, hv]
      rfl
    · cases s with
      | v d => exact q
      | io xs =>
        obtain ⟨p, us, rfl, q1, q2, q3⟩ := q
        have i0 := argOk_io ok h
        subst i0
        have : ioAddr vs as = some p := by
          cases as with
          | nil => simp at h
          | cons a as =>
            cases vs with
            | nil => simp at hv
            | cons w vs =>
              simp at h hv
              subst h
              subst hv
              rfl
        exact ⟨p, us, rfl, q1, q2, q3, this, this⟩
      | raw xs => exact q
      | own xs => exact q.elim
      | fz xs => exact q.elim
      | xc a => exact q.elim
  · obtain ⟨vr, xs, ar', rfl, rfl⟩ := ioAddr_some hp
    obtain ⟨⟨q, us, e, _, h2, _⟩, _⟩ := ar
    cases e
    exact ⟨_, h2⟩
section
variable {τ : Tls} {K : PySem.W.Frag} {F H F' H' : Hp} {vs : List V} {as : List Slot} {ρ : Env} {σ : L2.St} {v : V}
theorem frame_of (r : Rel K (⟨F, H, fun a => ioAddr vs as = some a, ioAddr vs as⟩ : Ent τ) F' H' ρ σ) : Frame τ F H (ioAddr vs as) F' H' := ⟨fun a o h ho hn => r.frm a o h ho hn, fun a h1 h2 hn => r.old a h1 h2 hn, r.tab, r.nt⟩
theorem out_of {o : Option Slot} (r : Rel K (⟨F, H, fun a => ioAddr vs as = some a, ioAddr vs as⟩ : Ent τ) F' H' ρ σ) (h : outOf as ρ = some o) : OutR K F' H' (ioAddr vs as) o := by
  unfold outOf at h
  split at h
  · have get : ∀ s, ρ.getD 0 none = some s → ρ[0]? = some (some s) := fun s e => by
      rw [List.getD_eq_getElem?_getD] at e
      cases hr : ρ[0]? with
      | none => rw [hr] at e; cases e
      | some t => rw [hr] at e; rw [show t = some s from e]
    split at h
    · rename_i xs hs
      cases h
      obtain ⟨w, _, p, us, _, q1, q2, q3, _, q5⟩ := r.slot 0 _ (get _ hs)
      exact ⟨p, us, q5, q1, q2, q3⟩
    · rename_i xs hs
      cases h
      obtain ⟨w, _, p, e, q1, q2⟩ := r.slot 0 _ (get _ hs)
      subst e
      obtain ⟨a, us, e, h1, _⟩ := q2.list_inv'
      cases e
      exact ⟨p, q1, q2, us, h1⟩
    · cases h
  · rename_i hn
    cases h
    show ioAddr vs as = none
    cases hi : ioAddr vs as with
    | none => rfl
    | some p =>
      obtain ⟨vr, xs, ar', _, e⟩ := ioAddr_some hi
      exact absurd e (hn xs ar')
theorem vrc_of {x : Val} (h : VR K (⟨F, H, fun a => ioAddr vs as = some a, ioAddr vs as⟩ : Ent τ) F' H' ρ σ v x) : VRc K H F' H' (ioAddr vs as) v x := by
  cases x with
  | pv d => exact h
  | fr xs =>
    obtain ⟨p, us, e, h1, h2, h3, h4, _, h6, _⟩ := h
    exact ⟨p, us, e, h1, h2, h3, h4, h6⟩
end
/-- a def of the program and its form in the pure language -/
structure DefOk (τ : Tls) (cs : List (Addr × Addr)) (K : PySem.W.Frag) (mg : Str → Option Value) (M : Nm) (PL : List Fn) (gl : Gls) (PN : Nat → List Str) (j : Nat) (x : Str) where
  F : Fn
  hF : PL[j]? = some F
  N : List Str
  ps : List Str
  hps : ps = PN j
  params : Arguments
  body : List Stmt
  scope : Scope
  f : Addr
  fd : FuncData
  lm : Bool
  fun_ : FunD K x x params body scope [] [] f fd
  mg_ : mg x = some (.ref f)
  binds : Binds K fd ps []
  bindA : ∀ (s : Shared) (us : List Value), us.length = ps.length → BindsTo s fd ⟨us, []⟩ (ps.zip us)
  sc : FnScope N ps scope
  nl : N.length = F.nl
  ar : ps.length = F.ar
  chk : gl.w j = none → chkSs { M with lm := lm } N scope body F.body = true
  lam : lm = true → ∃ c P, fd.code = .ref c ∧ (c, P) ∈ cs ∧ (P, (x ++ ".<locals>.") ++ "<lambda>") ∈ τ ∧ ∀ p ∈ τ, p.1 = P → p.2 = (x ++ ".<locals>.") ++ "<lambda>"
  wbad : ∀ w, gl.w j = some w → F.body = .cons (.raisex 0 .nop) .nil
  wchk : ∀ w, gl.w j = some w → ∃ a, ps = [a] ∧ N[0]? = some a ∧ Vis scope a ∧ (a == ("__debug__" : Str)) = false ∧ (a == ("__classdict__" : Str)) = false ∧ chkW M N scope a w body = true ∧ N.length = w.nl ∧ 0 < w.nl
section
variable {τ : Tls} {cs : List (Addr × Addr)} {P : Program} {w : World} {K : PySem.W.Frag} {mg : Str → Option Value} {base : Heap} {M : Nm} {PL : List Fn} {gl : Gls} {xa : XAt τ}
theorem spOf_len {call : Nat → List Slot → FR} {j : Nat} {vs : List V} {H : Hp} {Q : VK} {E : XK} (h : spOf K xa call j vs H Q E) : ∃ as, vs.length = as.length ∧ call j as ≠ .bad := by
  obtain ⟨F, as, _, ar, q⟩ := h
  exact ⟨as, argR_len ar, fun z => by rw [z] at q; exact q⟩
theorem fn_never {CX : CXT} {k : Nat} {f : Addr} {fd : FuncData} {ps : List Str} {call : Nat → List Slot → FR} {j : Nat} (h : ∀ as, call j as = .bad) : FnOk P w K mg base CX k f fd ps (spOf K xa call j) :=
  ⟨fun vs H Q E q => by obtain ⟨as, _, z⟩ := spOf_len q; exact absurd (h as) z, fun A outer s H args us vs Q E _ _ _ _ q => by obtain ⟨as, _, z⟩ := spOf_len q; exact absurd (h as) z⟩
theorem run_bad {n j : Nat} {F : Fn} (hF : PL[j]? = some F) (hb : F.body = .cons (.raisex 0 .nop) .nil) : ∀ as, run PL gl n j as = .bad := fun as => by
  cases n with
  | zero => rfl
  | succ n =>
    rw [run_eq, hF]
    dsimp only
    rw [hb]
    split <;> rfl
/-- a def at one level, from the levels below -/
theorem level {PN : Nat → List Str} (dk : (j : Nat) → (x : Str) → M.fn[j]? = some x → DefOk τ cs K mg M PL gl PN j x) (m : ModOk K mg xa gl M) (hT : ∀ p ∈ cs, LamX.TabB base mg p.1 p.2) (hcm : M.cm = true) (n : Nat)
    (ih : ∀ (j : Nat) (x : Str) (hx : M.fn[j]? = some x), FnOk P w K mg base (L2.CX P w) n (dk j x hx).f (dk j x hx).fd (dk j x hx).ps (spOf K xa (run PL gl n) j))
    (ih2 : ∀ k, n = k + 2 → ∀ (j : Nat) (x : Str) (hx : M.fn[j]? = some x), FnOk P w K mg base (L2.CX P w) k (dk j x hx).f (dk j x hx).fd (dk j x hx).ps (spOf K xa (run PL gl k) j))
    (j : Nat) (x : Str) (hx : M.fn[j]? = some x) : FnOk P w K mg base (L2.CX P w) (n + 1) (dk j x hx).f (dk j x hx).fd (dk j x hx).ps (spOf K xa (run PL gl (n + 1)) j) := by
  have wds : ∀ (X : Cx), X.prog = P → X.w = w → X.K = K → X.mg = mg → X.base = base → Room n X.A → 2 ≤ n → ∀ (j : Nat) (x : Str) (wf : WFn) (q : Str), M.fn[j]? = some x → gl.w j = some wf → WdAt X xa gl wf x q := fun X e1 e2 e3 e4 e5 hr h2 j x wf q hx hw => by
    subst e1 e2 e3 e4 e5
    have D := dk j x hx
    obtain ⟨a, w1, w2, w3, w4, w5, w6, w7, w8⟩ := D.wchk wf hw
    obtain ⟨oc, od, dV, kV, doc, pm, an, cdv, ct, osl, hfd, lk, hcd, _, _⟩ := D.fun_.ex
    have hsc := D.sc
    have hb := D.binds
    rw [w1] at hsc hb
    refine ⟨a, D.f, D.params, D.body, D.scope, dV, kV, doc, pm, cdv, ct, oc, an, od, osl, D.N, D.mg_, D.fun_.kp, by rw [← hfd]; exact lk, hcd, by rw [← hfd]; exact hb, hsc, w2, w3, ?_, w4, w5⟩
    obtain ⟨k, ek⟩ : ∃ k, n = k + 1 := ⟨n - 1, by omega⟩
    exact gives_w m hsc (by rw [← ek]; exact hr) w6 w7 w8
  generalize dk j x hx = D at *
  cases hw : gl.w j with
  | some wf => exact fn_never (run_bad D.hF (D.wbad wf hw))
  | none =>
    obtain ⟨F, hF, DN, Dps, eps, Dparams, Dbody, Dscope, Df, Dfd, Dlm, Dfun, Dmg, Dbinds, DbA, Dsc, Dnl, Dar, Dchk, Dlam, _, _⟩ := D
    dsimp only
    have Dchk := Dchk hw
    have good : ∀ as, run PL gl (n + 1) j as ≠ .bad → as.length = F.ar ∧ argOk as = true ∧ run PL gl (n + 1) j as = finR as (evSs (cf PL gl n) F.body (as.map some ++ List.replicate (F.nl - F.ar) none)) := fun as h => by
      rw [run_eq] at h ⊢
      rw [hF] at h ⊢
      dsimp only at h ⊢
      split at h
      · rename_i hc
        exact ⟨hc.1, hc.2, if_pos hc⟩
      · exact absurd rfl h
    obtain ⟨oc, od, dV, kV, doc, pm, an, cdv, ct, osl, hfd, lk, hcd, _, _⟩ := Dfun.ex
    have key := fn_of (P := P) (w := w) (mg := mg) (base := base) (CX := L2.CX P w) (k := n) (sp := spOf K xa (run PL gl (n + 1)) j) (by rw [← hfd]; exact lk) hcd Dsc (fun vs H Q E h => by
      obtain ⟨as, hl, h⟩ := spOf_len h
      rw [hl, (good as h).1, Dar]) (fun A outer s H vs Q E hr hsp => by
      obtain ⟨F0, as, ⟨ex, tb, nt⟩, ar, q⟩ := hsp
      have hg := good as (fun z => by rw [z] at q; exact q)
      obtain ⟨g1, g2, g3⟩ := hg
      rw [g3] at q
      refine ⟨tS K xa (fun cls d _ H => E cls d H) (evSs (cf PL gl n) F.body), ?_, ?_⟩
      · refine soundSs (C := cf PL gl n) (M := { M with lm := Dlm }) (xa := xa) (k := n) F.body (X := cxOf (L2.CX P w) P w K mg base DN x Dscope Df cdv A outer s H E) ?_ ?_ Dchk
        · exact { calm := fun _ => rfl, nd := Dsc.nd, kind := Dsc.kind, units := by have := hr.un; show (A.deeper _).units + 100 < cLine; omega, room := fun _ => hr,
                  fns := fun j x hx => ⟨(dk j x hx).f, (dk j x hx).fd, (dk j x hx).ps, (dk j x hx).mg_, (dk j x hx).fun_.kp, (dk j x hx).binds, ih j x hx⟩,
                  lam := fun hl => by
                    obtain ⟨c, T, h1, h2, h3, h4⟩ := Dlam hl
                    refine ⟨c, T, ?_, hT _ h2, h3, h4⟩
                    show cdv = .ref c
                    rw [← h1, hfd]
                  low := fun hl => by
                    by_cases h2 : 2 ≤ n
                    · obtain ⟨k, ek⟩ : ∃ k, n = k + 2 := ⟨n - 2, by omega⟩
                      refine .inl ⟨k, ek, fun j x hx => ⟨(dk j x hx).f, (dk j x hx).fd, (dk j x hx).ps, (dk j x hx).mg_, (dk j x hx).fun_.kp, (dk j x hx).binds, ?_⟩, wrdN_ge h2, fun j x wf hx hw' => wds _ rfl rfl rfl rfl rfl hr h2 j x wf _ hx hw'⟩
                      have := ih2 k ek j x hx
                      subst ek
                      exact this
                    · refine .inr fun j o => ?_
                      show wrdN gl n j o = .bad
                      match n, h2 with
                      | 0, _ => rfl
                      | 1, _ => rfl
                      | n + 2, h2 => omega
                  exn := fun _ => rfl, held := (fun _ _ z => nomatch z), kit := fun c hc => ⟨m.xc.kv c hc, m.xc.kit c hc⟩, gls := m.gls, blt := m.blt, exs := m.exs, fnall := fun _ => rfl, pass := fun _ => passes_of rfl }
        · exact takes_of rfl rfl rfl rfl
      · refine ⟨_, F0, _, ?_, rel_start ex tb nt ar g2 (by rw [g1, Dnl]), ?_⟩
        · exact fun a h => h
        · generalize hR : evSs (cf PL gl n) F.body (as.map some ++ List.replicate (F.nl - F.ar) none) = r at q
          cases r with
          | bad => exact q.elim
          | brk ρ => exact q.elim
          | ct ρ => exact q.elim
          | nx ρ =>
            intro F' H' σ' ex' rel
            unfold finR at q
            cases ho : outOf as ρ with
            | none => simp only [ho] at q
            | some o =>
              simp only [ho] at q
              exact q F' H' .non ex' rel.sub (frame_of rel) (out_of rel ho) .non
          | ret x ρ =>
            intro F' H' σ' v ex' rel hv
            unfold finR at q
            cases ho : outOf as ρ with
            | none => simp only [ho] at q
            | some o =>
              simp only [ho] at q
              exact q F' H' v ex' rel.sub (frame_of rel) (out_of rel ho) (vrc_of hv)
          | exc c x ρ =>
            intro F' H' σ' d ex' rel xr
            unfold finR at q
            cases ho : outOf as ρ with
            | none => simp only [ho] at q
            | some o =>
              simp only [ho] at q
              exact q F' H' d ex' rel.sub (frame_of rel) (out_of rel ho) xr)
    rw [← hfd] at key
    exact key
/-- THE WALK: every def of the program does what its pure form tells -/
theorem levels {PN : Nat → List Str} (dk : (j : Nat) → (x : Str) → M.fn[j]? = some x → DefOk τ cs K mg M PL gl PN j x) (m : ModOk K mg xa gl M) (hT : ∀ p ∈ cs, LamX.TabB base mg p.1 p.2) (hcm : M.cm = true) :
    ∀ (n j : Nat) (x : Str) (hx : M.fn[j]? = some x), FnOk P w K mg base (L2.CX P w) n (dk j x hx).f (dk j x hx).fd (dk j x hx).ps (spOf K xa (run PL gl n) j)
  | 0, j, x, hx => fn_never fun as => rfl
  | 1, j, x, hx => level dk m hT hcm 0 (fun j x hx => levels dk m hT hcm 0 j x hx) (fun k ek => by omega) j x hx
  | 2, j, x, hx => level dk m hT hcm 1 (fun j x hx => levels dk m hT hcm 1 j x hx) (fun k ek => by omega) j x hx
  | n + 3, j, x, hx => level dk m hT hcm (n + 2) (fun j x hx => levels dk m hT hcm (n + 2) j x hx) (fun k ek => by
      have e : k = n := by omega
      subst e
      exact fun j x hx => levels dk m hT hcm k j x hx) j x hx
end
end Pv

namespace Pv
open PySem L2 PyProof.Rows
/-! ### a law's end: what the head tells, read for the defs and the constants -/
def vOf : D → Value → V
  | .none, _ => .non
  | .bool b, _ => .bl b
  | .int i, _ => .int i
  | .str s, _ => .str s
  | _, .ref a => .ref a
  | _, _ => .non
mutual
def repB (K : PySem.W.Frag) (u : Value) : D → Bool
  | .none => (match u with
    | .none => true
    | _ => false)
  | .bool b => (match u with
    | .bool c => b == c
    | _ => false)
  | .int i => (match u with
    | .int j _ => decide (j = i)
    | _ => false)
  | .str s => (match u with
    | .str t _ => decide (t = s)
    | _ => false)
  | .tuple ds => (match u with
    | .ref a => (match K.lookup a with
      | some ⟨.type c, _, .seq its _, _⟩ => (decide (c = "tuple") && decide (its.size ≤ sizeLine)) && repsB K its.toList ds
      | _ => false)
    | _ => false)
  | .list _ => false
  | .dict _ => false
def repsB (K : PySem.W.Frag) (us : List Value) : List D → Bool
  | [] => (match us with
    | [] => true
    | _ => false)
  | d :: ds => (match us with
    | u :: r => repB K u d && repsB K r ds
    | [] => false)
end
section
variable {K : PySem.W.Frag}
mutual
theorem repB_ok : ∀ {d : D} {u : Value}, repB K u d = true → ∃ v, RelV v u ∧ ∀ F, Rep K F v d
  | .none, u, h => by
    unfold repB at h
    split at h
    · exact ⟨.non, rfl, fun F => .non⟩
    · cases h
  | .bool b, u, h => by
    unfold repB at h
    split at h
    · rename_i c
      have e : b = c := by simpa using h
      subst e
      exact ⟨.bl b, rfl, fun F => .bl b⟩
    · cases h
  | .int i, u, h => by
    unfold repB at h
    split at h
    · rename_i j t
      have e : j = i := of_decide_eq_true h
      subst e
      exact ⟨.int j, ⟨t, rfl⟩, fun F => .int j⟩
    · cases h
  | .str z, u, h => by
    unfold repB at h
    split at h
    · rename_i j t
      have e : j = z := of_decide_eq_true h
      subst e
      exact ⟨.str j, ⟨t, rfl⟩, fun F => .str j⟩
    · cases h
  | .tuple ds, u, h => by
    unfold repB at h
    split at h
    · rename_i a
      split at h
      · rename_i c od its n sl q
        obtain ⟨h1, h2⟩ := ba h
        obtain ⟨h3, h4⟩ := ba h1
        obtain ⟨vs, rv, rp⟩ := repsB_ok h2
        exact ⟨.ref a, rfl, fun F => .tup (.inr ⟨_, its, n, q, congrArg Value.type (of_decide_eq_true h3), rfl, of_decide_eq_true h4, rv⟩) (rp F)⟩
      · cases h
    · cases h
  | .list _, u, h => by cases h
  | .dict _, u, h => by cases h
theorem repsB_ok : ∀ {ds : List D} {us : List Value}, repsB K us ds = true → ∃ vs, Vals vs us ∧ ∀ F, Reps K F vs ds
  | [], us, h => by
    unfold repsB at h
    split at h
    · exact ⟨[], .nil, fun F => .nil⟩
    · cases h
  | d :: ds, us, h => by
    unfold repsB at h
    split at h
    · obtain ⟨h1, h2⟩ := ba h
      obtain ⟨v, r1, r2⟩ := repB_ok h1
      obtain ⟨vs, s1, s2⟩ := repsB_ok h2
      exact ⟨v :: vs, .cons r1 s1, fun F => .cons (r2 F) (s2 F)⟩
    · cases h
end
end
/-- a module's constant -/
def glB (p : Str × D) (K : PySem.W.Frag) : Bool := match PySem.W.nsIn K mainGlobals p.1 with
  | some (some u) => repB K u p.2
  | _ => false
theorem glB_ok {p : Str × D} {K : PySem.W.Frag} {h : Heap} {mg : Str → Option Value} (X : K.In h) (G : h.Ns mainGlobals mg) (c : glB p K = true) : ∃ u v, mg p.1 = some u ∧ RelV v u ∧ ∀ F, Rep K F v p.2 := by
  unfold glB at c
  split at c
  · rename_i u e
    obtain ⟨v, r, q⟩ := repB_ok c
    exact ⟨u, v, PySem.W.mg_of X G e, r, q⟩
  · cases c
/-- a def's datum: its name, its statement, its block's names, its parameters, its form; a def that takes a lambda; does it make lambdas? -/
structure Dt where
  x : Str
  st : Stmt
  N : List Str
  ps : List Str
  f : Fn
  w : Option WFn
  lm : Bool
def Dt.d (t : Dt) : He.DefD := ⟨(t.x, none), t.x, t.x, defArgs t.st, defBody t.st, defScope t.st, [], []⟩
def scB (N ps : List Str) (sc : Scope) : Bool := decide (sc.kind = .function) && (decide (sc.isCoroutine = false) && (decide (sc.isGenerator = false) && (decide N.Nodup && (decide (N.take ps.length = ps) && ((ps.all fun x => decide (sc.names.lookup x = some .local) || decide (sc.names.lookup x = some .cell)) && (sc.names.all fun y => decide (y.2 ≠ .free)))))))
theorem scB_ok {N ps : List Str} {sc : Scope} (h : scB N ps sc = true) : FnScope N ps sc := by
  obtain ⟨h1, h⟩ := ba h
  obtain ⟨h2, h⟩ := ba h
  obtain ⟨h3, h⟩ := ba h
  obtain ⟨h4, h⟩ := ba h
  obtain ⟨h5, h⟩ := ba h
  obtain ⟨h6, h7⟩ := ba h
  refine ⟨of_decide_eq_true h1, of_decide_eq_true h2, of_decide_eq_true h3, of_decide_eq_true h4, of_decide_eq_true h5, fun x hx => ?_, fun y hy => of_decide_eq_true (List.all_eq_true.mp h7 y hy)⟩
  rcases Bool.or_eq_true_iff.mp (List.all_eq_true.mp h6 x hx) with h | h
  · exact .inl (of_decide_eq_true h)
  · exact .inr (of_decide_eq_true h)
def wOk (M : Nm) (t : Dt) (w : WFn) : Bool := match t.ps with
  | [a] => (decide (t.N[0]? = some a) && (isLoc (defScope t.st) a && (!(a == ("__debug__" : Str)) && !(a == ("__classdict__" : Str))))) && (chkW M t.N (defScope t.st) a w (defBody t.st) && (decide (t.N.length = w.nl) && decide (0 < w.nl)))
  | _ => false
def isBad : Ss → Bool
  | .cons (.raisex 0 .nop) .nil => true
  | _ => false
theorem isBad_ok {b : Ss} (h : isBad b = true) : b = .cons (.raisex 0 .nop) .nil := by
  unfold isBad at h
  split at h
  · rfl
  · cases h
def Dt.ok (M : Nm) (t : Dt) : Bool := scB t.N t.ps (defScope t.st) && ((decide (t.N.length = t.f.nl) && decide (t.ps.length = t.f.ar)) && (match t.w with
  | none => chkSs { M with lm := t.lm } t.N (defScope t.st) (defBody t.st) t.f.body
  | some w => isBad t.f.body && wOk M t w))
def Dt.Bi (t : Dt) : Prop := ∀ (kV doc pm : Value) (an : Option Addr) (cdv ct : Value) (us : List Value), us.length = t.ps.length → bindArgs (PySem.W.fnOf t.x t.x (defArgs t.st) (defBody t.st) (defScope t.st) .none kV doc pm an cdv ct) ⟨us, []⟩ = pure (t.ps.zip us)
def AllBi : List Dt → Prop
  | [] => True
  | t :: r => t.Bi ∧ AllBi r
theorem AllBi.get : ∀ {l : List Dt} {t : Dt}, AllBi l → t ∈ l → t.Bi
  | _ :: _, t, h, m => by
    rcases List.mem_cons.mp m with e | m
    · subst e; exact h.1
    · exact AllBi.get h.2 m
/-- what the written part says of the classes -/
def excB (K : PySem.W.Frag) (D : Addr) : Bool :=
  He.eqO (PySem.W.findIn K (.ref D) "__getattribute__") (some (some (.builtin "BaseException.__getattribute__"))) && (He.eqO (PySem.W.findIn K (.ref D) "__getattr__") (some none) && (decide (PySem.W.subIn K (.ref D) (.type "BaseException") = some true) &&
  (PySem.W.hasDictIn K D && (He.eqO (PySem.W.findIn K (.ref D) "__class__") (some (some (.builtin "object.__class__"))) && (He.eqO (PySem.W.specialIn K (.builtin "object.__class__") "__get__") (some (some (.builtin "getset_descriptor.__get__"))) &&
  (decide (PySem.W.takesIn K (.builtin "object.__class__") = some true) && decide (PySem.W.mroIn K D (.type "object") = some true)))))))
theorem excB_ok {K : PySem.W.Frag} {D : Addr} (h : excB K D = true) : ExcC K D := by
  obtain ⟨h1, h⟩ := ba h
  obtain ⟨h2, h⟩ := ba h
  obtain ⟨h3, h⟩ := ba h
  obtain ⟨h4, h⟩ := ba h
  obtain ⟨h5, h⟩ := ba h
  obtain ⟨h6, h⟩ := ba h
  obtain ⟨h7, h8⟩ := ba h
  exact ⟨He.eqO_ok h1, He.eqO_ok h2, of_decide_eq_true h3, h4, He.eqO_ok h5, He.eqO_ok h6, of_decide_eq_true h7, of_decide_eq_true h8⟩
def xcB (K : PySem.W.Frag) (exs : List Str) (nx : Nat) : Bool := (List.range nx).all fun c => excB K (He.ga K (exs.getD c Str.empty)) && (decide (PySem.W.kitOne K (.ref (He.ga K (exs.getD c Str.empty))) (.type "ValueError") = some true) &&
  (List.range exs.length).all fun c' => decide (PySem.W.exmOne K (.ref (He.ga K (exs.getD c Str.empty))) (.ref (He.ga K (exs.getD c' Str.empty))) = some (isub c c')) && decide (PySem.W.kitOne K (.ref (He.ga K (exs.getD c Str.empty))) (.ref (He.ga K (exs.getD c' Str.empty))) = some (isub c c')))
theorem xcB_ok {τ : Tls} {K : PySem.W.Frag} {exs : List Str} {nx : Nat} (h : xcB K exs nx = true) : XcOk K (⟨fun i => He.ga K (exs.getD i Str.empty)⟩ : XAt τ) exs nx := by
  have at_ : ∀ c, c < nx → _ := fun c hc => List.all_eq_true.mp h c (List.mem_range.mpr hc)
  have two : ∀ c, c < nx → ∀ c' x, exs[c']? = some x → _ := fun c hc c' x hx => List.all_eq_true.mp (ba (ba (at_ c hc)).2).2 c' (List.mem_range.mpr (List.getElem?_eq_some_iff.mp hx).1)
  exact ⟨fun c hc => excB_ok (ba (at_ c hc)).1, fun c hc c' x hx => of_decide_eq_true (ba (two c hc c' x hx)).1, fun c hc => of_decide_eq_true (ba (ba (at_ c hc)).2).1, fun c hc c' x hx => of_decide_eq_true (ba (two c hc c' x hx)).2⟩
theorem inj_nd {α β : Type} {f : α → β} : ∀ {l : List α}, (l.map f).Nodup → ∀ {a b : α}, a ∈ l → b ∈ l → f a = f b → a = b
  | [], _, _, _, h, _, _ => nomatch h
  | x :: l, hn, a, b, ha, hb, e => by
    rw [List.map_cons, List.nodup_cons] at hn
    rcases List.mem_cons.mp ha with h1 | h1
    · rcases List.mem_cons.mp hb with h2 | h2
      · rw [h1, h2]
      · exact absurd (List.mem_map.mpr ⟨b, h2, by rw [← e, h1]⟩) hn.1
    · rcases List.mem_cons.mp hb with h2 | h2
      · exact absurd (List.mem_map.mpr ⟨a, h1, by rw [e, h2]⟩) hn.1
      · exact inj_nd hn.2 h1 h2 e
section
variable (L : List Dt) (gls : List (Str × D)) (exs : List Str) (nx : Nat)
def nmOf : Nm := ⟨L.map (·.x), gls.map (·.1), exs, true, false⟩
def faOf : List He.Fa := L.map (fun t => .glo t.x) ++ (exs.map .glo ++ (exs.map .exc ++ bltNms.map .free))
def fnOf : List He.DefD := L.map Dt.d
def tfOf : List He.Defn := (L.filter (·.lm)).map fun t => (t.x, none)
def tlOf (K : PySem.W.Frag) : Tls := (tfOf L).map fun p => ((He.cT K p).2, (p.1 ++ ".<locals>.") ++ "<lambda>")
def csOf (K : PySem.W.Frag) : List (Addr × Addr) := (tfOf L).map (He.cT K)
def exOf (K : PySem.W.Frag) : Bool := (gls.all fun p => glB p K) && (xcB K exs nx && decide (((tfOf L).map fun p => (He.cT K p).2).Nodup))
def glOf : Gls := ⟨fun j => (gls[j]?).map (·.2), fun j => (L[j]?).bind (·.w), nx⟩
def plOf : List Fn := L.map (·.f)
def hkOf (n : Nat) : PySem.W.Hook := He.hookX n (faOf L exs) (fnOf L) [] (tfOf L) (exOf L gls exs nx)
def obOf (n : Nat) (s : PySem.W.SharedT) : He.AlX := He.obsX n (faOf L exs) (fnOf L) [] (tfOf L) (exOf L gls exs nx) (HandSHeadRun.getT s)
theorem ob_eq (n : Nat) (s : PySem.W.SharedT) : obOf L gls exs nx n s = (hkOf L gls exs nx n).obs s.abs := He.obsX_eq (HandSHeadRun.getT_eq s)
end
section
variable {L : List Dt} {gls : List (Str × D)} {exs : List Str} {nx : Nat} {P : Program} {w : World} {K : PySem.W.Frag} {h : Heap} {mg : Str → Option Value}
theorem fa_glo {t : Dt} (m : t ∈ L) : He.Fa.glo t.x ∈ faOf L exs := List.mem_append_left _ (List.mem_map_of_mem m)
theorem fa_ex {x : Str} (m : x ∈ exs) : He.Fa.glo x ∈ faOf L exs ∧ He.Fa.exc x ∈ faOf L exs := ⟨List.mem_append_right _ (List.mem_append_left _ (List.mem_map_of_mem m)), List.mem_append_right _ (List.mem_append_right _ (List.mem_append_left _ (List.mem_map_of_mem m)))⟩
theorem fa_free {x : Str} (m : x ∈ bltNms) : He.Fa.free x ∈ faOf L exs := List.mem_append_right _ (List.mem_append_right _ (List.mem_append_right _ (List.mem_map_of_mem m)))
def pnOf (L : List Dt) (j : Nat) : List Str := ((L[j]?).map (·.ps)).getD []
theorem the_def (X : K.In h) (G : h.Ns mainGlobals mg) (c : He.SaysX (faOf L exs) (fnOf L) [] (tfOf L) (exOf L gls exs nx) w h K) (bi : AllBi L) (ok : L.all (Dt.ok (nmOf L gls exs)) = true) {j : Nat} {x : Str} (hx : (nmOf L gls exs).fn[j]? = some x) :
    Nonempty (DefOk (tlOf L K) (csOf L K) K mg (nmOf L gls exs) (plOf L) (glOf L gls nx) (pnOf L) j x) := by
  have hx : (L.map (·.x))[j]? = some x := hx
  rw [List.getElem?_map] at hx
  cases e : L[j]? with
  | none => rw [e] at hx; cases hx
  | some t =>
    rw [e] at hx
    cases hx
    have m : t ∈ L := List.mem_of_getElem? e
    have ht := List.all_eq_true.mp ok t m
    obtain ⟨h1, h⟩ := ba ht
    obtain ⟨h2, h3⟩ := ba h
    obtain ⟨h4, h5⟩ := ba h2
    obtain ⟨fd, F⟩ := c.t.d.defs (d := t.d) (List.mem_map_of_mem m)
    have F' : FunD K t.x t.x (defArgs t.st) (defBody t.st) (defScope t.st) [] [] (He.fAd K (t.x, none)) fd := F
    have b := bi.get m
    have ew : (glOf L gls nx).w j = t.w := by
      show (L[j]?).bind (·.w) = t.w
      rw [e]
      rfl
    have wk : ∀ wf, (glOf L gls nx).w j = some wf → isBad t.f.body = true ∧ wOk (nmOf L gls exs) t wf = true := fun wf hw => by
      rw [ew] at hw
      rw [hw] at h3
      exact ba h3
    refine ⟨{ F := t.f, hF := by unfold plOf; rw [List.getElem?_map, e]; rfl, N := t.N, ps := t.ps, hps := by unfold pnOf; rw [e]; rfl, params := _, body := _, scope := _, f := _, fd := fd, lm := t.lm, fun_ := F',
              mg_ := He.glo_ok X G (c.t.d.facts (fa_glo m)), binds := F'.bindsN b, bindA := F'.bindsA b, sc := scB_ok h1, nl := of_decide_eq_true h4, ar := of_decide_eq_true h5, chk := fun hw => ?_, lam := fun hl => ?_, wbad := fun wf hw => isBad_ok (wk wf hw).1, wchk := fun wf hw => ?_ }⟩
    · rw [ew] at hw
      rw [hw] at h3
      exact h3
    · obtain ⟨oc, od, dV, kV, doc, pm, an, cdv, ct, osl, hfd, lk, hcd, _, _⟩ := F'.ex
      obtain ⟨cc, hcc⟩ := He.codeIn_ref hcd
      have hcode : fd.code = .ref cc := by rw [hfd]; exact hcc
      have hm : (t.x, none) ∈ tfOf L := List.mem_map.mpr ⟨t, List.mem_filter.mpr ⟨m, hl⟩, rfl⟩
      have h0 : He.codeOf K (t.x, none) = cc := He.codeOf_eq lk hcode
      refine ⟨cc, (He.cT K (t.x, none)).2, hcode, ?_, List.mem_map.mpr ⟨_, hm, rfl⟩, fun p hp hp1 => ?_⟩
      · have : (cc, (He.cT K (t.x, none)).2) = He.cT K (t.x, none) := by rw [← h0]; rfl
        rw [this]
        exact List.mem_map.mpr ⟨_, hm, rfl⟩
      · obtain ⟨p0, hp0, rfl⟩ := List.mem_map.mp hp
        have nd := of_decide_eq_true (ba (ba c.more).2).2
        have := inj_nd nd hp0 hm hp1
        rw [this]
    · have hk := (wk wf hw).2
      unfold wOk at hk
      split at hk
      · rename_i a ha
        obtain ⟨k1, k2⟩ := ba hk
        obtain ⟨k3, k4⟩ := ba k1
        obtain ⟨k5, k6⟩ := ba k4
        obtain ⟨k7, k8⟩ := ba k6
        obtain ⟨k9, k10⟩ := ba k2
        obtain ⟨k11, k12⟩ := ba k10
        have nb : ∀ y : Str, (!(a == y)) = true → (a == y) = false := fun y hy => by
          cases hx : a == y with
          | false => rfl
          | true => rw [hx] at hy; cases hy
        exact ⟨a, ha, of_decide_eq_true k3, .inl (of_decide_eq_true k5), nb _ k7, nb _ k8, k9, of_decide_eq_true k11, of_decide_eq_true k12⟩
      · cases hk
/-- without the tables -/
def noTb (H : Hp) : Hp := fun b => match H b with
  | some (.tbl _) => none
  | o => o
theorem noTb_eq {H : Hp} {b : Addr} {o : HO} (h : H b = some o) (ho : ∀ ps, o ≠ .tbl ps) : noTb H b = some o := by
  unfold noTb
  rw [h]
  cases o <;> first | rfl | exact absurd rfl (ho _)
theorem noTb_ex (H : Hp) : Ex (noTb H) H := fun a o h => by
  unfold noTb at h
  split at h
  · cases h
  · exact h
theorem noTb_nt (H : Hp) : ∀ a ps, noTb H a ≠ some (.tbl ps) := fun a ps h => by
  unfold noTb at h
  split at h
  · cases h
  · rename_i hn
    exact hn ps h
theorem rd_noTb {H : Hp} {a : Addr} {us : List V} (h : Rd H a (.lst us)) : Rd (noTb H) a (.lst us) := by
  rcases h with h | ⟨o, h⟩
  · exact .inl (noTb_eq h fun _ z => nomatch z)
  · exact .inr ⟨o, noTb_eq h fun _ z => nomatch z⟩
theorem sqL_noTb {H : Hp} {a : Addr} {us : List V} (h : SqL K H a us) : SqL K (noTb H) a us := by
  rcases h with h | h
  · exact .inl (rd_noTb h)
  · exact .inr h
/-- a law's walk: from what the pure run tells -/
theorem law_end {l : PySem.W.OpenLaw} {n k j : Nat} {fa : Addr} {sn : Str} {tl : Dt} (hj : L[j]? = some tl) (hps : tl.ps = [sn]) (X : K.In h) (G : h.Ns mainGlobals mg) (c : He.SaysX (faOf L exs) (fnOf L) [] (tfOf L) (exOf L gls exs nx) w h K) (bi : AllBi L) (ok : L.all (Dt.ok (nmOf L gls exs)) = true)
    (hfa : mg tl.x = some (.ref fa))
    (hrun : ∀ ns : List Int, ns.length ≤ n → run (plOf L) (glOf L gls nx) k j [.raw (ns.map PyData.int)] = .ret (.pv (.bool true)) none) :
    LamX.LawAtS l w K (L2.CX l.prog w) k n sn mg fa h := by
  have hx : (nmOf L gls exs).fn[j]? = some tl.x := by
    show (L.map (·.x))[j]? = some tl.x
    rw [List.getElem?_map, hj]
    rfl
  let dk : (j : Nat) → (x : Str) → (nmOf L gls exs).fn[j]? = some x → DefOk (tlOf L K) (csOf L K) K mg (nmOf L gls exs) (plOf L) (glOf L gls nx) (pnOf L) j x := fun j x hx => Classical.choice (the_def X G c bi ok hx)
  have more := ba c.more
  have mo : ModOk K mg (⟨fun i => He.ga K (exs.getD i Str.empty)⟩ : XAt (tlOf L K)) (glOf L gls nx) (nmOf L gls exs) :=
    { xc := xcB_ok (ba more.2).1
      gls := fun i x d h1 h2 => by
        have h1 : (gls.map (·.1))[i]? = some x := h1
        have h2 : (gls[i]?).map (·.2) = some d := h2
        rw [List.getElem?_map] at h1
        cases e : gls[i]? with
        | none => rw [e] at h1; cases h1
        | some p =>
          rw [e] at h1 h2
          cases h1
          cases h2
          exact glB_ok X G (List.all_eq_true.mp more.1 p (List.mem_of_getElem? e))
      blt := fun x hx => He.free_ok X G (c.t.d.facts (fa_free hx))
      exs := fun i x h1 => by
        have h1 : exs[i]? = some x := h1
        have m : x ∈ exs := List.mem_of_getElem? h1
        have e : exs.getD i Str.empty = x := by rw [List.getD_eq_getElem?_getD, h1]; rfl
        obtain ⟨q1, q2, q3, q4⟩ := He.exc_ok (c.t.d.facts (fa_ex (L := L) m).2)
        dsimp only
        rw [e]
        exact ⟨He.glo_ok X G (c.t.d.facts (fa_ex (L := L) m).1), q2, q1, q3, q4⟩ }
  have e1 : (dk j tl.x hx).ps = [sn] := by rw [(dk j tl.x hx).hps]; unfold pnOf; rw [hj]; exact hps
  have e2 : (dk j tl.x hx).f = fa := by
    have e := (dk j tl.x hx).mg_.symm.trans hfa
    cases e
    rfl
  refine ⟨(dk j tl.x hx).fd, csOf L K, spOf K (⟨fun i => He.ga K (exs.getD i Str.empty)⟩ : XAt (tlOf L K)) (run (plOf L) (glOf L gls nx) k) j, fun p hp => ?_, fun p hp => ?_, fun p hp => ?_, fun s u => ?_, fun H a ns hn _ hT hS => ?_, fun base _ _ hT => ?_⟩
  · obtain ⟨q, hq, rfl⟩ := List.mem_map.mp hp
    exact c.empty q hq
  · obtain ⟨q, hq, rfl⟩ := List.mem_map.mp hp
    exact c.out q hq
  · obtain ⟨q, hq, rfl⟩ := List.mem_map.mp hp
    exact PySem.W.codeHd_of_K X (c.hd q hq)
  · have b := (dk j tl.x hx).bindA s [u] (by rw [e1]; rfl)
    rw [e1] at b
    exact b
  · have rp : ∀ ns : List Int, Reps K (noTb H) (ns.map V.int) (ns.map PyData.int) := fun ns => by
      induction ns with
      | nil => exact .nil
      | cons i r ih => exact .cons (.int i) ih
    refine ⟨noTb H, [.raw (ns.map PyData.int)], ⟨noTb_ex H, fun p hp => ?_, noTb_nt H⟩, ⟨⟨a, _, rfl, sqL_noTb hS, rp ns⟩, trivial⟩, ?_⟩
    · obtain ⟨q, hq, rfl⟩ := List.mem_map.mp hp
      exact LamX.TabS.nil (hT _ (List.mem_map.mpr ⟨q, hq, rfl⟩))
    · rw [hrun ns hn]
      exact fun F' H' v _ _ _ _ hv => Rep.bool_inv hv
  · have := levels (P := l.prog) (w := w) dk mo hT rfl k j tl.x hx
    rw [e1, e2] at this
    exact this
/-- the whole walk of a law -/
theorem law_walk {l : PySem.W.OpenLaw} {n k j m : Nat} {q : Program} {loose : List Str} {XP : (Str → Option Value) → Heap → Prop} {d : DefRec} {tl : Dt} {sn : Str} {L : List Dt} {gls : List (Str × D)} {exs : List Str} {nx : Nat}
    (hn : l.most = some n) (hz : n ≤ sizeLine) (hdf : d.params.defaults = []) (hr : Room k callerA) (hj : L[j]? = some tl) (hps : tl.ps = [sn]) (bi : AllBi L) (ok : L.all (Dt.ok (nmOf L gls exs)) = true) (hnm : d.name = tl.x)
    (hrun : ∀ ns : List Int, ns.length ≤ n → run (plOf L) (glOf L gls nx) k j [.raw (ns.map PyData.int)] = .ret (.pv (.bool true)) none) :
    PySem.W.WalkO q loose XP (hkOf L gls exs nx m).says l.row.toRowW d [] (fun f vs => PySem.call f vs) := by
  refine LamX.walk_ofTsE (CX := fun w => L2.CX l.prog w) (x := sn) hn hz hdf hr (fun w mg fa h Y G hmg => ?_) ?_
  · obtain ⟨K, X, c⟩ := Y
    rw [hnm] at hmg
    exact ⟨K, X, law_end hj hps X G c bi ok hmg hrun⟩
  · rintro w H s e s' ⟨_, _, _, _, _, _, _, _, _, _, _, _, z⟩
    exact z
end
end Pv

namespace Pv
open PySem
/-! ### reckoning with the pure run -/
section
variable {C : Cfg} {ρ : Env}
@[simp] theorem e_nop : evE C .nop ρ = .ok (.pv .none) ρ := rfl
@[simp] theorem e_v {i : Nat} : evE C (.v i) ρ = readV ρ i := rfl
@[simp] theorem e_k {d : D} : evE C (.k d) ρ = .ok (.pv d) ρ := rfl
@[simp] theorem e_g {j : Nat} : evE C (.g j) ρ = R.ofO ((C.gl j).map .pv) ρ := rfl
@[simp] theorem e_bin {o : BOp} {a b : E} : evE C (.bin o a b) ρ = bindD (evE C a ρ) fun x ρ => bindD (evE C b ρ) fun y ρ => R.ofO ((binD o x y).map frV) ρ := rfl
@[simp] theorem e_neg {a : E} : evE C (.neg a) ρ = bindD (evE C a ρ) fun x ρ => R.ofO ((negD x).map .pv) ρ := rfl
@[simp] theorem e_not {a : E} : evE C (.not a) ρ = bindD (evE C a ρ) fun x ρ => R.ofO ((notD x).map .pv) ρ := rfl
@[simp] theorem e_and {a b : E} : evE C (.and a b) ρ = bindD (evE C a ρ) fun x ρ => andD x (evE C b ρ) ρ := rfl
@[simp] theorem e_or {a b : E} : evE C (.or a b) ρ = bindD (evE C a ρ) fun x ρ => orD x (evE C b ρ) ρ := rfl
@[simp] theorem e_cmp {o : COp} {a b : E} : evE C (.cmp o a b) ρ = bindD (evE C a ρ) fun x ρ => (pk (isV b) (fun ρ => evE C b ρ) ρ).bind fun y ρ => R.ofO ((cmpD o x y).map fun b => .pv (.bool b)) ρ := rfl
@[simp] theorem e_chain {o p : COp} {a b c : E} : evE C (.chain o p a b c) ρ = bindD (evE C a ρ) fun x ρ => bindD (evE C b ρ) fun y ρ => chainD (cmpD o x y) (bindD (evE C c ρ) fun z ρ => R.ofO ((cmpD p y z).map fun b => .pv (.bool b)) ρ) ρ := rfl
@[simp] theorem e_ife {c : T} {a b : E} : evE C (.ife c a b) ρ = (evT C c ρ).bind fun t ρ => iteR t (evE C a ρ) (evE C b ρ) := rfl
@[simp] theorem e_tup {es : Es} : evE C (.tup es) ρ = (evA C es ρ).bind fun ds ρ => tupV ds ρ := rfl
@[simp] theorem e_lst {es : Es} : evE C (.lst es) ρ = (evA C es ρ).bind fun ds ρ => lstV ds ρ := rfl
@[simp] theorem e_ix {a i : E} : evE C (.ix a i) ρ = bindD (evE C a ρ) fun x ρ => bindD (evE C i ρ) fun y ρ => R.ofO ((ixD x y).map .pv) ρ := rfl
@[simp] theorem e_ixv {j : Nat} {i : E} : evE C (.ixv j i) ρ = (lookV ρ j).bind fun _ ρ => bindD (evE C i ρ) fun y ρ => (lookV ρ j).bind fun x ρ => R.ofO ((ixD x y).map .pv) ρ := rfl
@[simp] theorem e_sl {a lo hi : E} : evE C (.sl a lo hi) ρ = bindD (evE C a ρ) fun x ρ => (partR (isNop lo) (evE C lo ρ)).bind fun l ρ => (partR (isNop hi) (evE C hi ρ)).bind fun h ρ => R.ofO ((slD x l h).map frV) ρ := rfl
@[simp] theorem e_slv {j : Nat} {lo hi : E} : evE C (.slv j lo hi) ρ = (lookV ρ j).bind fun _ ρ => (partR (isNop lo) (evE C lo ρ)).bind fun l ρ => (partR (isNop hi) (evE C hi ρ)).bind fun h ρ => (lookV ρ j).bind fun x ρ => R.ofO ((slD x l h).map frV) ρ := rfl
@[simp] theorem e_rev {a : E} : evE C (.rev a) ρ = (pk (isV a) (fun ρ => evE C a ρ) ρ).bind fun x ρ => R.ofO ((revD x).map frV) ρ := rfl
@[simp] theorem e_call {j : Nat} {es : Es} : evE C (.call j es) ρ = (evA C es ρ).bind fun ds ρ => backR none ρ (C.call j (ds.map .v)) := rfl
theorem e_cio {j i : Nat} {es : Es} : evE C (.cio j i es) ρ = cioGo (C.call j) i (fun ρ => evA C es ρ) ρ := rfl
@[simp] theorem e_craw {j i : Nat} : evE C (.craw j i) ρ = crawGo (C.call j) i ρ := rfl
@[simp] theorem e_scr {i : Nat} {n : Int} : evE C (.scr i n) ρ = scrV ρ i n := rfl
@[simp] theorem e_b1 {b : Blt} {a : E} : evE C (.b1 b a) ρ = (pk (isV a) (fun ρ => evE C a ρ) ρ).bind fun x ρ => R.ofO ((bltD b [x]).map (bltV b)) ρ := rfl
@[simp] theorem e_b2 {b : Blt} {a c : E} : evE C (.b2 b a c) ρ = bindD (evE C a ρ) fun x ρ => bindD (evE C c ρ) fun y ρ => R.ofO ((bltD b [x, y]).map .pv) ρ := rfl
@[simp] theorem e_isi {a : E} {ts : List Ty} : evE C (.isi a ts) ρ = (pk (isV a) (fun ρ => evE C a ρ) ρ).bind fun x ρ => .ok (.pv (.bool (ts.any fun t => t.is x))) ρ := rfl
theorem e_lc {elt : E} {tg : Tg} {it : It} {c : T} : evE C (.lc elt tg it c) ρ = (evI C it ρ).bind fun xs ρ => lcEnd (lcGo (lcTurn tg fun ρ => (evT C c ρ).bind fun t ρ => iteR t (bindD (evE C elt ρ) fun y ρ => .ok (some y) ρ) (.ok none ρ)) xs ρ) := rfl
@[simp] theorem e_dic {ks : List D} {es : Es} : evE C (.dic ks es) ρ = (evA C es ρ).bind fun ds ρ => R.ofO ((dicD ks ds).map .pv) ρ := rfl
theorem e_lam {j : Nat} {e : E} : evE C (.lam j e) ρ = outL (evE C.low e ρ) fun o ρ => backR none ρ (C.wrd j o) := rfl
@[simp] theorem e_isx {i : Nat} {c : Option Nat} : evE C (.isx i c) ρ = isxV C ρ i c := rfl
@[simp] theorem e_cnt {a x : E} : evE C (.cnt a x) ρ = (pk (isV a) (fun ρ => evE C a ρ) ρ).bind fun y ρ => lsR y ((pk (isV x) (fun ρ => evE C x ρ) ρ).bind fun z ρ => R.ofO ((cntD y z).map .pv) ρ) := rfl
@[simp] theorem e_idx {a x : E} : evE C (.idx a x) ρ = (pk (isV a) (fun ρ => evE C a ρ) ρ).bind fun y ρ => lsR y ((pk (isV x) (fun ρ => evE C x ρ) ρ).bind fun z ρ => R.ofO ((idxD y z).map .pv) ρ) := rfl
@[simp] theorem e_joi {a b : E} : evE C (.joi a b) ρ = bindD (evE C a ρ) fun x ρ => stR x (bindD (evE C b ρ) fun y ρ => R.ofO ((joiD x y).map .pv) ρ) := rfl
@[simp] theorem s_ext {i : Nat} {e : E} : evS C (.ext i e) ρ = (R.ofO (ioArg ρ i) ρ).toS fun _ ρ => (dd (evE C e ρ)).toS fun y ρ => extX ρ i y := rfl
@[simp] theorem t_e {a : E} : evT C (.e a) ρ = (pk (isV a) (fun ρ => evE C a ρ) ρ).bind fun x ρ => R.ofO (truB x) ρ := rfl
@[simp] theorem t_and {a b : T} : evT C (.and a b) ρ = (evT C a ρ).bind fun x ρ => iteR x (evT C b ρ) (.ok false ρ) := rfl
@[simp] theorem t_or {a b : T} : evT C (.or a b) ρ = (evT C a ρ).bind fun x ρ => iteR x (.ok true ρ) (evT C b ρ) := rfl
@[simp] theorem t_not {a : T} : evT C (.not a) ρ = (evT C a ρ).bind fun x ρ => .ok (!x) ρ := rfl
@[simp] theorem t_yes : evT C .yes ρ = .ok true ρ := rfl
@[simp] theorem a_nil : evA C .nil ρ = .ok [] ρ := rfl
@[simp] theorem a_cons {e : E} {es : Es} : evA C (.cons e es) ρ = bindD (evE C e ρ) fun x ρ => (evA C es ρ).bind fun xs ρ => .ok (x :: xs) ρ := rfl
theorem i_rng {es : Es} : evI C (.rng es) ρ = (evA C es ρ).bind fun ds ρ => R.ofO ((rngOf ds).map fun p => rangeD p.1 p.2.1 p.2.2) ρ := rfl
theorem i_rngA {es : Es} {ds : List D} {ρ' : Env} {lo c : Int} {m : Nat} (h : evA C es ρ = .ok ds ρ') (h2 : rngOf ds = some (lo, m, c)) : evI C (.rng es) ρ = .ok (rangeD lo m c) ρ' := by
  rw [i_rng, h, R.bind_ok, h2]
  rfl
@[simp] theorem i_of {e : E} : evI C (.of e) ρ = bindD (evE C e ρ) fun x ρ => R.ofO (walkD x) ρ := rfl
@[simp] theorem i_zip {a b : E} : evI C (.zip a b) ρ = bindD (evE C a ρ) fun x ρ => bindD (evE C b ρ) fun y ρ => R.ofO (zipO x y) ρ := rfl
@[simp] theorem i_enum {a : E} : evI C (.enum a) ρ = bindD (evE C a ρ) fun x ρ => R.ofO (enumO x) ρ := rfl
@[simp] theorem s_asg {t : Tg} {e : E} : evS C (.asg t e) ρ = (evE C e ρ).toS fun x ρ => asgV ρ t x := rfl
@[simp] theorem s_par {is : List Nat} {es : Es} : evS C (.par is es) ρ = (evVs C es ρ).toS fun ds ρ => toNx (putVs ρ is ds) := rfl
@[simp] theorem vs_nil : evVs C .nil ρ = .ok [] ρ := rfl
@[simp] theorem vs_cons {e : E} {es : Es} : evVs C (.cons e es) ρ = (evE C e ρ).bind fun x ρ => (evVs C es ρ).bind fun xs ρ => .ok (x :: xs) ρ := rfl
@[simp] theorem s_set {i : Nat} {x e : E} : evS C (.set i x e) ρ = (bindD (evE C e ρ) fun d ρ => (lookV ρ i).bind fun _ ρ => bindD (evE C x ρ) fun j ρ => .ok (d, j) ρ).toS fun p ρ => putX ρ i p.2 p.1 := rfl
@[simp] theorem s_aug {i : Nat} {o : BOp} {e : E} : evS C (.aug i o e) ρ = ((lookV ρ i).bind fun x ρ => bindD (evE C e ρ) fun y ρ => R.ofO (augD o x y) ρ).toS fun z ρ => toNx (putD ρ i z) := rfl
@[simp] theorem s_app {i : Nat} {e : E} : evS C (.app i e) ρ = (R.ofO (ioArg ρ i) ρ).toS fun _ ρ => (dd (evE C e ρ)).toS fun y ρ => addX ρ i y := rfl
@[simp] theorem s_expr {e : E} : evS C (.expr e) ρ = (evE C e ρ).toS fun _ ρ => .nx ρ := rfl
@[simp] theorem s_ite {c : T} {a b : Ss} : evS C (.ite c a b) ρ = (evT C c ρ).toS fun t ρ => iteS t (evSs C a ρ) (evSs C b ρ) := rfl
theorem s_whl {c : T} {b : Ss} : evS C (.whl c b) ρ = Pv.whl (fun ρ => evT C c ρ) (fun ρ => evSs C b ρ) ρ := rfl
theorem s_for {t : Tg} {it : It} {b : Ss} : evS C (.for_ t it b) ρ = (evI C it ρ).toS fun xs ρ => forGo (fun x ρ => (putT ρ t x).toS fun _ ρ => evSs C b ρ) xs ρ := rfl
@[simp] theorem s_ret {e : E} : evS C (.ret e) ρ = (evE C e ρ).toS fun x ρ => .ret x ρ := rfl
@[simp] theorem s_retv {i : Nat} : evS C (.retv i) ρ = retV ρ i := rfl
@[simp] theorem s_retN : evS C .retN ρ = .ret (.pv .none) ρ := rfl
@[simp] theorem s_raise {c : Nat} : evS C (.raise c) ρ = .exc c none ρ := rfl
@[simp] theorem s_pass : evS C .pass ρ = .nx ρ := rfl
@[simp] theorem s_brk : evS C .brk ρ = .brk ρ := rfl
@[simp] theorem s_ct : evS C .ct ρ = .ct ρ := rfl
@[simp] theorem ss_nil : evSs C .nil ρ = .nx ρ := rfl
@[simp] theorem ss_cons {s : S} {r : Ss} : evSs C (.cons s r) ρ = (evS C s ρ).bind fun ρ => evSs C r ρ := rfl
end
@[simp] theorem readV_eq (ρ : Env) (i : Nat) : readV ρ i = (match ρ[i]? with
  | some (some (.raw _)) => .bad
  | some (some (.xc _)) => .bad
  | some (some s) => .ok (.pv s.dat) (ρ.set i (some s.frozen))
  | _ => .bad) := rfl
@[simp] theorem lookV_eq (ρ : Env) (i : Nat) : lookV ρ i = (match ρ[i]? with
  | some (some (.raw _)) => .bad
  | some (some (.xc _)) => .bad
  | some (some s) => .ok s.dat ρ
  | _ => .bad) := rfl
@[simp] theorem pk_n (ev : Env → R Val) (ρ : Env) : pk none ev ρ = dd (ev ρ) := rfl
@[simp] theorem pk_s (i : Nat) (ev : Env → R Val) (ρ : Env) : pk (some i) ev ρ = lookV ρ i := rfl
@[simp] theorem dd_ok (x : Val) (ρ : Env) : dd (.ok x ρ) = .ok x.dat ρ := rfl
@[simp] theorem dd_exc (c : Nat) (x : Option D) (ρ : Env) : dd (.exc c x ρ) = .exc c x ρ := rfl
@[simp] theorem dd_bad : dd .bad = .bad := rfl
@[simp] theorem andD_t (k : R Val) (ρ : Env) : andD (.bool true) k ρ = k := rfl
@[simp] theorem andD_f (k : R Val) (ρ : Env) : andD (.bool false) k ρ = .ok (.pv (.bool false)) ρ := rfl
@[simp] theorem orD_t (k : R Val) (ρ : Env) : orD (.bool true) k ρ = .ok (.pv (.bool true)) ρ := rfl
@[simp] theorem orD_f (k : R Val) (ρ : Env) : orD (.bool false) k ρ = k := rfl
@[simp] theorem chainD_t (k : R Val) (ρ : Env) : chainD (some true) k ρ = k := rfl
@[simp] theorem chainD_f (k : R Val) (ρ : Env) : chainD (some false) k ρ = .ok (.pv (.bool false)) ρ := rfl
@[simp] theorem frV_i (i : Int) : frV (.int i) = .pv (.int i) := rfl
@[simp] theorem frV_t (xs : List D) : frV (.tuple xs) = .pv (.tuple xs) := rfl
@[simp] theorem frV_l (xs : List D) : frV (.list xs) = .fr xs := rfl
@[simp] theorem frV_s (x : Str) : frV (.str x) = .pv (.str x) := rfl
@[simp] theorem sl_v (d : D) : (Slot.v d).dat = d := rfl
@[simp] theorem sl_own (d : List D) : (Slot.own d).dat = .list d := rfl
@[simp] theorem sl_io (d : List D) : (Slot.io d).dat = .list d := rfl
@[simp] theorem sl_fz (d : List D) : (Slot.fz d).dat = .list d := rfl
@[simp] theorem sf_v (d : D) : (Slot.v d).frozen = .v d := rfl
@[simp] theorem sf_own (d : List D) : (Slot.own d).frozen = .v (.list d) := rfl
@[simp] theorem sf_io (d : List D) : (Slot.io d).frozen = .fz d := rfl
@[simp] theorem sfr_v (d : D) : (Slot.v d).free = true := rfl
@[simp] theorem sfr_own (d : List D) : (Slot.own d).free = true := rfl
@[simp] theorem isV_v (i : Nat) : isV (.v i) = some i := rfl
@[simp] theorem isV_k (d : D) : isV (.k d) = none := rfl
@[simp] theorem isV_g (d : Nat) : isV (.g d) = none := rfl
@[simp] theorem isV_bin (o : BOp) (a b : E) : isV (.bin o a b) = none := rfl
@[simp] theorem isV_neg (a : E) : isV (.neg a) = none := rfl
@[simp] theorem isV_not (a : E) : isV (.not a) = none := rfl
@[simp] theorem isV_and (a b : E) : isV (.and a b) = none := rfl
@[simp] theorem isV_or (a b : E) : isV (.or a b) = none := rfl
@[simp] theorem isV_cmp (o : COp) (a b : E) : isV (.cmp o a b) = none := rfl
@[simp] theorem isV_chain (o p : COp) (a b c : E) : isV (.chain o p a b c) = none := rfl
@[simp] theorem isV_ife (c : T) (a b : E) : isV (.ife c a b) = none := rfl
@[simp] theorem isV_tup (es : Es) : isV (.tup es) = none := rfl
@[simp] theorem isV_lst (es : Es) : isV (.lst es) = none := rfl
@[simp] theorem isV_ix (a b : E) : isV (.ix a b) = none := rfl
@[simp] theorem isV_ixv (a : Nat) (b : E) : isV (.ixv a b) = none := rfl
@[simp] theorem isV_sl (a b c : E) : isV (.sl a b c) = none := rfl
@[simp] theorem isV_slv (a : Nat) (b c : E) : isV (.slv a b c) = none := rfl
@[simp] theorem isV_rev (a : E) : isV (.rev a) = none := rfl
@[simp] theorem isV_call (j : Nat) (es : Es) : isV (.call j es) = none := rfl
@[simp] theorem isV_cio (j i : Nat) (es : Es) : isV (.cio j i es) = none := rfl
@[simp] theorem isV_craw (j i : Nat) : isV (.craw j i) = none := rfl
@[simp] theorem isV_scr (j : Nat) (i : Int) : isV (.scr j i) = none := rfl
@[simp] theorem isV_b1 (b : Blt) (a : E) : isV (.b1 b a) = none := rfl
@[simp] theorem isV_b2 (b : Blt) (a c : E) : isV (.b2 b a c) = none := rfl
@[simp] theorem isV_isi (a : E) (ts : List Ty) : isV (.isi a ts) = none := rfl
@[simp] theorem isV_dic (a : List D) (b : Es) : isV (.dic a b) = none := rfl
@[simp] theorem isV_lam (a : Nat) (b : E) : isV (.lam a b) = none := rfl
@[simp] theorem isV_isx (a : Nat) (b : Option Nat) : isV (.isx a b) = none := rfl
@[simp] theorem isV_cnt (a b : E) : isV (.cnt a b) = none := rfl
@[simp] theorem isV_idx (a b : E) : isV (.idx a b) = none := rfl
@[simp] theorem isV_joi (a b : E) : isV (.joi a b) = none := rfl
@[simp] theorem isV_lc (a : E) (t : Tg) (i : It) (c : T) : isV (.lc a t i c) = none := rfl
@[simp] theorem b_add (i j : Int) : binD .add (.int i) (.int j) = some (.int (i + j)) := rfl
@[simp] theorem b_sub (i j : Int) : binD .sub (.int i) (.int j) = some (.int (i - j)) := rfl
theorem b_mul {i j : Int} (h1 : i.natAbs < BIG) (h2 : j.natAbs < BIG) : binD .mul (.int i) (.int j) = some (.int (i * j)) := if_pos (.inr (.inr ⟨h1, h2⟩))
theorem b_mulL {i j : Int} (h1 : i.natAbs < 2 ^ 62) : binD .mul (.int i) (.int j) = some (.int (i * j)) := if_pos (.inl h1)
theorem b_mulR {i j : Int} (h1 : j.natAbs < 2 ^ 62) : binD .mul (.int i) (.int j) = some (.int (i * j)) := if_pos (.inr (.inl h1))
theorem b_mod {i j : Int} (h : 0 < j) : binD .mod (.int i) (.int j) = some (.int (i % j)) := if_pos h
theorem b_fdiv {i j : Int} (h : 0 < j) (h2 : j.natAbs < DIVB) : binD .fdiv (.int i) (.int j) = some (.int (i / j)) := if_pos ⟨h, h2⟩
theorem lt_BIG {n : Nat} (h : n < 2 ^ 250) : n < BIG := by
  rw [BIG_eq]
  exact Nat.lt_of_lt_of_le h (Nat.pow_le_pow_right (by decide) (by decide))
theorem lt_DIVB {n : Nat} (h : n < 2 ^ 250) : n < DIVB := by
  rw [DIVB_eq]
  exact Nat.lt_of_lt_of_le h (Nat.pow_le_pow_right (by decide) (by decide))
@[simp] theorem c_lt (i j : Int) : cmpD .lt (.int i) (.int j) = some (decide (i < j)) := rfl
@[simp] theorem c_le (i j : Int) : cmpD .le (.int i) (.int j) = some (decide (i ≤ j)) := rfl
@[simp] theorem c_gt (i j : Int) : cmpD .gt (.int i) (.int j) = some (decide (j < i)) := rfl
@[simp] theorem c_ge (i j : Int) : cmpD .ge (.int i) (.int j) = some (decide (j ≤ i)) := rfl
@[simp] theorem tr_b (b : Bool) : truB (.bool b) = some b := rfl
@[simp] theorem tr_i (i : Int) : truB (.int i) = some (i != 0) := rfl
@[simp] theorem putD_eq (ρ : Env) (i : Nat) (d : D) : putD ρ i d = putV ρ i (.pv d) := rfl
@[simp] theorem putV_pv (ρ : Env) (i : Nat) (d : D) : putV ρ i (.pv d) = if freeAt ρ i = true then .ok () (ρ.set i (some (.v d))) else .bad := rfl
@[simp] theorem putV_fr (ρ : Env) (i : Nat) (d : List D) : putV ρ i (.fr d) = if freeAt ρ i = true then .ok () (ρ.set i (some (.own d))) else .bad := rfl
def freeO : Option Slot → Bool
  | some s => s.free
  | none => true
@[simp] theorem freeO_n : freeO none = true := rfl
@[simp] theorem freeO_v (d : D) : freeO (some (.v d)) = true := rfl
@[simp] theorem freeO_own (d : List D) : freeO (some (.own d)) = true := rfl
@[simp] theorem freeO_z (z : Option D) : freeO (z.map Slot.v) = true := by cases z <;> rfl
@[simp] theorem freeAt_eq (ρ : Env) (i : Nat) : freeAt ρ i = (match ρ[i]? with
  | some o => freeO o
  | none => false) := by
  unfold freeAt freeO
  rcases ρ[i]? with _ | _ | s <;> rfl
@[simp] theorem asgV_n (ρ : Env) (i : Nat) (x : Val) : asgV ρ (.n i) x = toNx (putV ρ i x) := rfl
@[simp] theorem asgV_t (ρ : Env) (i : List Nat) (x : Val) : asgV ρ (.t i) x = toNx (putT ρ (.t i) x.dat) := rfl
@[simp] theorem toNx_ok (u : Unit) (ρ : Env) : toNx (.ok u ρ) = .nx ρ := rfl
@[simp] theorem putT_n (ρ : Env) (i : Nat) (d : D) : putT ρ (.n i) d = putD ρ i d := rfl
@[simp] theorem putT_t (ρ : Env) (is : List Nat) (ds : List D) : putT ρ (.t is) (.tuple ds) = if ds.length = is.length then putAll ρ is ds else .bad := rfl
@[simp] theorem asgV_u (ρ : Env) (i : List (List Nat)) (x : Val) : asgV ρ (.u i) x = toNx (putT ρ (.u i) x.dat) := rfl
@[simp] theorem putT_u (ρ : Env) (is : List (List Nat)) (ds : List D) : putT ρ (.u is) (.tuple ds) = if ds.length = is.length then putU ρ is ds else .bad := rfl
@[simp] theorem putU_nil (ρ : Env) : putU ρ [] [] = .ok () ρ := rfl
@[simp] theorem putU_cons (ρ : Env) (i : List Nat) (is : List (List Nat)) (d : D) (ds : List D) : putU ρ (i :: is) (d :: ds) = (putN ρ (tgOf i) d).bind fun _ ρ => putU ρ is ds := rfl
@[simp] theorem tgOf_n (i : Nat) : tgOf [i] = .n i := rfl
@[simp] theorem tgOf_t (i j : Nat) (r : List Nat) : tgOf (i :: j :: r) = .t (i :: j :: r) := rfl
@[simp] theorem putN_n (ρ : Env) (i : Nat) (d : D) : putN ρ (.n i) d = putD ρ i d := rfl
@[simp] theorem putN_t (ρ : Env) (is : List Nat) (ds : List D) : putN ρ (.t is) (.tuple ds) = if ds.length = is.length then putAll ρ is ds else .bad := rfl
@[simp] theorem putVs_nil (ρ : Env) : putVs ρ [] [] = .ok () ρ := rfl
@[simp] theorem putVs_cons (ρ : Env) (i : Nat) (is : List Nat) (d : Val) (ds : List Val) : putVs ρ (i :: is) (d :: ds) = (putV ρ i d).bind fun _ ρ => putVs ρ is ds := rfl
@[simp] theorem putAll_nil (ρ : Env) : putAll ρ [] [] = .ok () ρ := rfl
@[simp] theorem putAll_cons (ρ : Env) (i : Nat) (is : List Nat) (d : D) (ds : List D) : putAll ρ (i :: is) (d :: ds) = (putD ρ i d).bind fun _ ρ => putAll ρ is ds := rfl
@[simp] theorem x_l (xs : List D) (i : Int) : ixD (.list xs) (.int i) = L2.atI xs i := rfl
@[simp] theorem x_t (xs : List D) (i : Int) : ixD (.tuple xs) (.int i) = L2.atI xs i := rfl
@[simp] theorem bl_lenl (xs : List D) : bltD .len [.list xs] = some (.int xs.length) := rfl
@[simp] theorem bl_lent (xs : List D) : bltD .len [.tuple xs] = some (.int xs.length) := rfl
@[simp] theorem bl_abs (i : Int) : bltD .abs [.int i] = some (.int (if i < 0 then -i else i)) := rfl
@[simp] theorem bl_int (i : Int) : bltD .int [.int i] = some (.int i) := rfl
@[simp] theorem bl_tl (xs : List D) : bltD .tuple [.list xs] = some (.tuple xs) := rfl
@[simp] theorem bl_tt (xs : List D) : bltD .tuple [.tuple xs] = some (.tuple xs) := rfl
@[simp] theorem bl_all (xs : List D) : bltD .all [.list xs] = (boolsOf xs).map fun bs => .bool (bs.all id) := rfl
@[simp] theorem bl_any (xs : List D) : bltD .any [.list xs] = (boolsOf xs).map fun bs => .bool (bs.any id) := rfl
@[simp] theorem bo_nil : boolsOf [] = some [] := rfl
@[simp] theorem bo_cons (b : Bool) (r : List D) : boolsOf (.bool b :: r) = (boolsOf r).map (b :: ·) := rfl
@[simp] theorem bv_len (d : D) : bltV .len d = .pv d := rfl
@[simp] theorem bv_abs (d : D) : bltV .abs d = .pv d := rfl
@[simp] theorem bv_int (d : D) : bltV .int d = .pv d := rfl
@[simp] theorem bv_tup (d : D) : bltV .tuple d = .pv d := rfl
@[simp] theorem bv_all (d : D) : bltV .all d = .pv d := rfl
@[simp] theorem bv_any (d : D) : bltV .any d = .pv d := rfl
@[simp] theorem n_i (i : Int) : negD (.int i) = some (.int (-i)) := rfl
@[simp] theorem n_b (b : Bool) : notD (.bool b) = some (.bool (!b)) := rfl
@[simp] theorem wk_l (xs : List D) : walkD (.list xs) = some xs := rfl
@[simp] theorem wk_t (xs : List D) : walkD (.tuple xs) = some xs := rfl
@[simp] theorem backR_n (ρ : Env) (x : Val) (o : Option Slot) : backR none ρ (.ret x o) = .ok x ρ := rfl
@[simp] theorem backR_nx (ρ : Env) (c : Nat) (x : Option D) (o : Option Slot) : backR none ρ (.exc c x o) = .exc c x ρ := rfl
@[simp] theorem tupV_eq (ds : List D) (ρ : Env) : tupV ds ρ = if ds.length ≤ LIM then .ok (.pv (.tuple ds)) ρ else .bad := rfl
@[simp] theorem lstV_eq (ds : List D) (ρ : Env) : lstV ds ρ = if ds.length ≤ LIM then .ok (.fr ds) ρ else .bad := rfl
@[simp] theorem lcEnd_ok (ys : List D) (ρ : Env) : lcEnd (.ok ys ρ) = lstV ys ρ := rfl
theorem run_succ {P : List Fn} {gl : Gls} {n j : Nat} {as : List Slot} {f : Fn} (h : P[j]? = some f) : run P gl (n + 1) j as = if as.length = f.ar ∧ argOk as = true then finR as (evSs (cf P gl n) f.body (as.map some ++ List.replicate (f.nl - f.ar) none)) else .bad := by
  rw [run_eq, h]
@[simp] theorem cf_call (P : List Fn) (gl : Gls) (n : Nat) : (cf P gl n).call = run P gl n := rfl
@[simp] theorem cf_gl (P : List Fn) (gl : Gls) (n : Nat) : (cf P gl n).gl = gl := rfl
theorem cf_wrd {P : List Fn} {gl : Gls} {n : Nat} (h : 2 ≤ n) : (cf P gl n).wrd = wrdOf gl := wrdN_ge h
@[simp] theorem finR_nx (as : List Slot) (ρ : Env) : finR as (.nx ρ) = (match outOf as ρ with
  | some o => .ret (.pv .none) o
  | none => .bad) := rfl
@[simp] theorem finR_ret (as : List Slot) (x : Val) (ρ : Env) : finR as (.ret x ρ) = (match outOf as ρ with
  | some o => .ret x o
  | none => .bad) := rfl
@[simp] theorem finR_exc (as : List Slot) (c : Nat) (x : Option D) (ρ : Env) : finR as (.exc c x ρ) = (match outOf as ρ with
  | some o => .exc c x o
  | none => .bad) := rfl
@[simp] theorem outOf_v (d : D) (as : List Slot) (ρ : Env) : outOf (.v d :: as) ρ = some none := rfl
@[simp] theorem outOf_raw (d : List D) (as : List Slot) (ρ : Env) : outOf (.raw d :: as) ρ = some none := rfl
@[simp] theorem outOf_io (d : List D) (as : List Slot) (ρ : Env) : outOf (.io d :: as) ρ = (match ρ.getD 0 none with
  | some (.io xs) => some (some (.io xs))
  | some (.fz xs) => some (some (.fz xs))
  | _ => none) := rfl
@[simp] theorem ao_nil : argOk [] = true := rfl
@[simp] theorem ao_v (d : D) (r : List Slot) : argOk (.v d :: r) = r.all fun s => match s with
    | .v _ => true
    | _ => false := rfl
@[simp] theorem ao_io (d : List D) (r : List Slot) : argOk (.io d :: r) = r.all fun s => match s with
    | .v _ => true
    | _ => false := rfl
@[simp] theorem ao_raw (d : List D) : argOk [.raw d] = true := rfl
@[simp] theorem retV_eq (ρ : Env) (i : Nat) : retV ρ i = (match ρ[i]? with
  | some (some (.own xs)) => .ret (.fr xs) (ρ.set i none)
  | some (some (.raw _)) => .bad
  | some (some (.xc _)) => .bad
  | some (some s) => .ret (.pv s.dat) (ρ.set i (some s.frozen))
  | _ => .bad) := rfl
@[simp] theorem putX_eq (ρ : Env) (i : Nat) (j : Int) (d : D) : putX ρ i (.int j) d = (match ρ[i]? with
  | some (some (.own xs)) => (match setAt? xs j d with
    | some ys => .nx (ρ.set i (some (.own ys)))
    | none => .bad)
  | some (some (.io xs)) => (match setAt? xs j d with
    | some ys => .nx (ρ.set i (some (.io ys)))
    | none => .bad)
  | _ => .bad) := by
  unfold putX
  rcases ρ[i]? with _ | _ | s
  · rfl
  · rfl
  · cases s <;> rfl
@[simp] theorem ioArg_eq (ρ : Env) (i : Nat) : ioArg ρ i = (match ρ[i]? with
  | some (some (.own xs)) => some xs
  | some (some (.io xs)) => some xs
  | _ => none) := rfl
theorem at_nat {xs : List D} {i : Int} (h0 : 0 ≤ i) (h : i < xs.length) : L2.atI xs i = xs[i.toNat]? := by
  unfold L2.atI L2.ixN
  grind
theorem set_nat {xs : List D} {i : Int} {d : D} (h0 : 0 ≤ i) (h : i < xs.length) : setAt? xs i d = some (xs.set i.toNat d) := by
  unfold setAt? L2.ixN
  grind
theorem shp_i (i : Int) : shp (.int i) = true := rfl
theorem shp_b (i : Bool) : shp (.bool i) = true := rfl
theorem shp_n : shp .none = true := rfl
theorem shp_t2 (a b : Int) : shp (.tuple [.int a, .int b]) = true := rfl
theorem shp_t4 (a b c d : Int) : shp (.tuple [.int a, .int b, .int c, .int d]) = true := rfl
theorem cmp_eq {a b : D} (h : shp a = true) (h2 : shp b = true) : cmpD .eq a b = some (PyData.eqv a b) := by simp [cmpD, h, h2]
theorem cmp_ne {a b : D} (h : shp a = true) (h2 : shp b = true) : cmpD .ne a b = some (!PyData.eqv a b) := by simp [cmpD, h, h2]
@[simp] theorem c_eqi (i j : Int) : cmpD .eq (.int i) (.int j) = some (decide (i = j)) := by
  have e : cmpD .eq (.int i) (.int j) = some (PyData.eqv (.int i) (.int j)) := cmp_eq rfl rfl
  rw [e]
  show some (i == j) = _
  by_cases h : i = j <;> simp [h]
@[simp] theorem c_nei (i j : Int) : cmpD .ne (.int i) (.int j) = some (!decide (i = j)) := by
  have e : cmpD .ne (.int i) (.int j) = some (!PyData.eqv (.int i) (.int j)) := cmp_ne rfl rfl
  rw [e]
  show some (!(i == j)) = _
  by_cases h : i = j <;> simp [h]
@[simp] theorem c_eqb (i j : Bool) : cmpD .eq (.bool i) (.bool j) = some (i == j) := cmp_eq rfl rfl
@[simp] theorem c_neb (i j : Bool) : cmpD .ne (.bool i) (.bool j) = some (!(i == j)) := cmp_ne rfl rfl
theorem eqv2 (a b c d : Int) : PyData.eqv (.tuple [.int a, .int b]) (.tuple [.int c, .int d]) = (a == c && (b == d && true)) := rfl
theorem eqv4 (a b c d a' b' c' d' : Int) : PyData.eqv (.tuple [.int a, .int b, .int c, .int d]) (.tuple [.int a', .int b', .int c', .int d']) = (a == a' && (b == b' && (c == c' && (d == d' && true)))) := rfl
@[simp] theorem c_eq2 (a b c d : Int) : cmpD .eq (.tuple [.int a, .int b]) (.tuple [.int c, .int d]) = some (decide (a = c) && decide (b = d)) := by
  have e : cmpD .eq (.tuple [.int a, .int b]) (.tuple [.int c, .int d]) = some (PyData.eqv (.tuple [.int a, .int b]) (.tuple [.int c, .int d])) := cmp_eq rfl rfl
  rw [e, eqv2]
  by_cases h1 : a = c <;> by_cases h2 : b = d <;> simp [h1, h2]
@[simp] theorem c_ne2 (a b c d : Int) : cmpD .ne (.tuple [.int a, .int b]) (.tuple [.int c, .int d]) = some (!(decide (a = c) && decide (b = d))) := by
  have e : cmpD .ne (.tuple [.int a, .int b]) (.tuple [.int c, .int d]) = some (!PyData.eqv (.tuple [.int a, .int b]) (.tuple [.int c, .int d])) := cmp_ne rfl rfl
  rw [e, eqv2]
  by_cases h1 : a = c <;> by_cases h2 : b = d <;> simp [h1, h2]
theorem c_ne4 (a b c d : Int) : cmpD .ne (.tuple [.int a, .int b, .int c, .int d]) (.tuple [.int a, .int b, .int c, .int d]) = some false := by
  have e : cmpD .ne (.tuple [.int a, .int b, .int c, .int d]) (.tuple [.int a, .int b, .int c, .int d]) = some (!PyData.eqv (.tuple [.int a, .int b, .int c, .int d]) (.tuple [.int a, .int b, .int c, .int d])) := cmp_ne rfl rfl
  rw [e, eqv4]
  simp
end Pv

namespace Pv
open PySem
/-! ### the drawing of the figures -/
def drawHead : S := (.ite (.and (.e (.cmp .eq (.ixv 0 (.k (.int 2))) (.k (.int 0)))) (.e (.cmp .lt (.ixv 0 (.k (.int 1))) (.b1 .len (.ixv 0 (.k (.int 0)))))))
 (.cons (.asg (.n 3) (.ix (.ixv 0 (.k (.int 0))) (.ixv 0 (.k (.int 1)))))
 (.cons (.set 0 (.k (.int 1)) (.bin .add (.ixv 0 (.k (.int 1))) (.k (.int 1))))
 (.cons (.set 0 (.k (.int 3)) (.bin .mod (.b1 .int (.bin .add (.bin .add (.bin .mul (.ixv 0 (.k (.int 3))) (.k (.int 48271))) (.v 3)) (.k (.int 31)))) (.k (.int 2147483647))))
 (.cons (.ite (.e (.cmp .ge (.v 3) (.bin .pow (.k (.int 10)) (.k (.int 18)))))
 (.cons (.set 0 (.k (.int 2)) (.v 3))
 .nil)
 .nil)
 .nil))))
 .nil)
def drawTail : Ss := (.cons (.ite (.e (.cmp .gt (.ixv 0 (.k (.int 2))) (.k (.int 0))))
 (.cons (.asg (.n 4) (.bin .mod (.b1 .int (.ixv 0 (.k (.int 2)))) (.v 1)))
 (.cons (.set 0 (.k (.int 2)) (.bin .fdiv (.ixv 0 (.k (.int 2))) (.v 1)))
 (.cons (.retv 4)
 .nil)))
 .nil)
 (.cons (.set 0 (.k (.int 4)) (.bin .add (.ixv 0 (.k (.int 4))) (.k (.int 1))))
 (.cons (.asg (.n 2) (.bin .mod (.b1 .int (.bin .mul (.b1 .int (.bin .add (.ixv 0 (.k (.int 3))) (.bin .mul (.k (.int 6151)) (.ixv 0 (.k (.int 4)))))) (.k (.int 40692)))) (.k (.int 2147483399))))
 (.cons (.asg (.n 2) (.bin .mod (.b1 .int (.bin .mul (.v 2) (.bin .add (.bin .fdiv (.v 2) (.k (.int 1223))) (.k (.int 52027))))) (.k (.int 2147483629))))
 (.cons (.asg (.n 2) (.bin .mod (.b1 .int (.bin .mul (.v 2) (.bin .add (.bin .fdiv (.v 2) (.k (.int 2671))) (.k (.int 69621))))) (.k (.int 2147483647))))
 (.cons (.ret (.bin .mod (.b1 .int (.bin .fdiv (.v 2) (.k (.int 32)))) (.v 1)))
 .nil))))))
def fDraw : Fn := ⟨2, 5, .cons drawHead drawTail⟩
def lowC : T := (.e (.cmp .gt (.v 3) (.k (.int 0))))
def lowB : Ss := (.cons (.par [3, 2] (.cons (.bin .mod (.b1 .int (.v 2)) (.v 3)) (.cons (.v 3) .nil))) .nil)
def lowLoop : S := .whl lowC lowB
def fLow : Fn := ⟨2, 4, (.cons (.par [3, 2] (.cons (.b1 .abs (.v 0)) (.cons (.b1 .abs (.v 1)) .nil)))
 (.cons lowLoop
 (.cons (.asg (.n 2) (.ife (.e (.cmp .gt (.v 1) (.k (.int 0)))) (.v 2) (.bin .sub (.k (.int 0)) (.v 2))))
 (.cons (.ret (.tup (.cons (.bin .fdiv (.v 0) (.v 2)) (.cons (.bin .fdiv (.v 1) (.v 2)) .nil))))
 .nil))))⟩
def comC : T := (.e (.cmp .gt (.v 1) (.k (.int 0))))
def comB : Ss := (.cons (.par [0, 1] (.cons (.v 1) (.cons (.bin .mod (.v 0) (.v 1)) .nil))) .nil)
def comLoop : S := .whl comC comB
def fCommon : Fn := ⟨2, 2, (.cons (.par [0, 1] (.cons (.b1 .abs (.v 0)) (.cons (.b1 .abs (.v 1)) .nil)))
 (.cons comLoop
 (.cons (.retv 0)
 .nil)))⟩
def handLc : E := (.lc (.b1 .abs (.b1 .int (.v 2))) (.n 2) (.of (.scr 0 63)) .yes)
def fHand : Fn := ⟨1, 3, (.cons (.asg (.n 1) handLc)
 (.cons (.ret (.lst (.cons (.v 1) (.cons (.k (.int 0)) (.cons (.k (.int 0)) (.cons (.bin .add (.k (.int 97)) (.bin .mul (.k (.int 5)) (.b1 .len (.v 1)))) (.cons (.k (.int 0)) .nil)))))))
 .nil))⟩
/-- the hand: the cells, the place, the figures left, the state, the count -/
def HandOk (n : Nat) (xs : List D) : Prop := ∃ (cs : List Int) (i b s c : Int), xs = [.list (cs.map PyData.int), .int i, .int b, .int s, .int c] ∧ (∀ x ∈ cs, 0 ≤ x) ∧ 0 ≤ i ∧ 0 ≤ b ∧ 0 ≤ s ∧ s < 2147483648 ∧ 0 ≤ c ∧ c ≤ n
theorem HandOk.mono {n m : Nat} {xs : List D} (h : HandOk n xs) (hm : n ≤ m) : HandOk m xs := by
  obtain ⟨cs, i, b, s, c, e, h1, h2, h3, h4, h5, h6, h7⟩ := h
  exact ⟨cs, i, b, s, c, e, h1, h2, h3, h4, h5, h6, by omega⟩
theorem at0 {a b c d e : D} : L2.atI [a, b, c, d, e] 0 = some a := rfl
theorem at1 {a b c d e : D} : L2.atI [a, b, c, d, e] 1 = some b := rfl
theorem at2 {a b c d e : D} : L2.atI [a, b, c, d, e] 2 = some c := rfl
theorem at3 {a b c d e : D} : L2.atI [a, b, c, d, e] 3 = some d := rfl
theorem at4 {a b c d e : D} : L2.atI [a, b, c, d, e] 4 = some e := rfl
theorem st1 {a b c d e x : D} : setAt? [a, b, c, d, e] 1 x = some [a, x, c, d, e] := rfl
theorem st2 {a b c d e x : D} : setAt? [a, b, c, d, e] 2 x = some [a, b, x, d, e] := rfl
theorem st3 {a b c d e x : D} : setAt? [a, b, c, d, e] 3 x = some [a, b, c, x, e] := rfl
theorem st4 {a b c d e x : D} : setAt? [a, b, c, d, e] 4 x = some [a, b, c, d, x] := rfl
theorem big_lit {n : Nat} (h : n < 2 ^ 250) : n < BIG := lt_BIG h
theorem mulS {i j : Int} (h1 : i.natAbs < 2 ^ 250) (h2 : j.natAbs < 2 ^ 250) : binD .mul (.int i) (.int j) = some (.int (i * j)) := b_mul (lt_BIG h1) (lt_BIG h2)
theorem divS {i j : Int} (h1 : 0 < j) (h2 : j.natAbs < 2 ^ 250) : binD .fdiv (.int i) (.int j) = some (.int (i / j)) := b_fdiv h1 (lt_DIVB h2)
theorem mod_lt {x m : Int} (h : 0 < m) : 0 ≤ x % m ∧ x % m < m := ⟨Int.emod_nonneg _ (by omega), Int.emod_lt_of_pos _ h⟩
section
variable {P : List Fn} {gl : Gls} {j : Nat}
theorem draw_tail {C : Cfg} {cs : D} {i b s c many : Int} {z : Option Slot} {h0 : List D} {as : List Slot} (hm : 0 < many) (hm2 : many < 2 ^ 200) (hb : 0 ≤ b) (hs : 0 ≤ s) (hs2 : s < 2147483648) (hc : 0 ≤ c) (hc2 : c < 1000000000) :
    ∃ r b' c' : Int, finR (.io h0 :: as) (evSs C drawTail [some (.io [cs, .int i, .int b, .int s, .int c]), some (.v (.int many)), none, z, none]) = .ret (.pv (.int r)) (some (.io [cs, .int i, .int b', .int s, .int c'])) ∧ 0 ≤ r ∧ r < many ∧ 0 ≤ b' ∧ 0 ≤ c' ∧ c' ≤ c + 1 := by
  have hd : many.natAbs < 2 ^ 250 := by omega
  by_cases h : 0 < b
  · refine ⟨b % many, b / many, c, ?_, (mod_lt hm).1, (mod_lt hm).2, Int.ediv_nonneg hb (by omega), hc, by omega⟩
    · simp [drawTail, at2, h, b_mod hm, divS hm hd, st2]
  · have m1 : binD .mul (.int 6151) (.int (c + 1)) = some (.int (6151 * (c + 1))) := mulS (by decide) (by omega)
    have m2 : binD .mul (.int (s + 6151 * (c + 1))) (.int 40692) = some (.int ((s + 6151 * (c + 1)) * 40692)) := mulS (by omega) (by decide)
    have q1 := mod_lt (x := (s + 6151 * (c + 1)) * 40692) (m := 2147483399) (by decide)
    generalize hn1 : (s + 6151 * (c + 1)) * 40692 % 2147483399 = n1 at q1
    have d1 : binD .fdiv (.int n1) (.int 1223) = some (.int (n1 / 1223)) := divS (by decide) (by decide)
    have m3 : binD .mul (.int n1) (.int (n1 / 1223 + 52027)) = some (.int (n1 * (n1 / 1223 + 52027))) := mulS (by omega) (by omega)
    have q2 := mod_lt (x := n1 * (n1 / 1223 + 52027)) (m := 2147483629) (by decide)
    generalize hn2 : n1 * (n1 / 1223 + 52027) % 2147483629 = n2 at q2
    have d2 : binD .fdiv (.int n2) (.int 2671) = some (.int (n2 / 2671)) := divS (by decide) (by decide)
    have m4 : binD .mul (.int n2) (.int (n2 / 2671 + 69621)) = some (.int (n2 * (n2 / 2671 + 69621))) := mulS (by omega) (by omega)
    have q3 := mod_lt (x := n2 * (n2 / 2671 + 69621)) (m := 2147483647) (by decide)
    generalize hn3 : n2 * (n2 / 2671 + 69621) % 2147483647 = n3 at q3
    have d3 : binD .fdiv (.int n3) (.int 32) = some (.int (n3 / 32)) := divS (by decide) (by decide)
    have o1 : ∀ x : Int, binD .mod (.int x) (.int 2147483399) = some (.int (x % 2147483399)) := fun x => b_mod (by decide)
    have o2 : ∀ x : Int, binD .mod (.int x) (.int 2147483629) = some (.int (x % 2147483629)) := fun x => b_mod (by decide)
    have o3 : ∀ x : Int, binD .mod (.int x) (.int 2147483647) = some (.int (x % 2147483647)) := fun x => b_mod (by decide)
    refine ⟨n3 / 32 % many, b, c + 1, ?_, (mod_lt hm).1, (mod_lt hm).2, hb, by omega, by omega⟩
    · simp [drawTail, at2, at3, at4, h, b_mod hm, st4, m1, m2, hn1, o1, d1, m3, hn2, o2, d2, m4, hn3, o3, d3]
theorem draw_ok {n m : Nat} {many : Int} {xs : List D} (hP : P[j]? = some fDraw) (H : HandOk m xs) (hm : 0 < many) (hm2 : many < 2 ^ 200) (hc2 : m < 1000000000) :
    ∃ (r : Int) (ys : List D), run P gl (n + 1) j [.io xs, .v (.int many)] = .ret (.pv (.int r)) (some (.io ys)) ∧ HandOk (m + 1) ys ∧ 0 ≤ r ∧ r < many := by
  obtain ⟨cs, i, b, s, c, rfl, h1, h2, h3, h4, h5, h6, h7⟩ := H
  have done : ∀ (i' b' s' : Int) (z : Option Slot) (ρ : Env), 0 ≤ i' → 0 ≤ b' → 0 ≤ s' → s' < 2147483648 → evS (cf P gl n) drawHead [some (.io [.list (cs.map PyData.int), .int i, .int b, .int s, .int c]), some (.v (.int many)), none, none, none] = .nx [some (.io [.list (cs.map PyData.int), .int i', .int b', .int s', .int c]), some (.v (.int many)), none, z, none] →
      ∃ (r : Int) (ys : List D), run P gl (n + 1) j [.io [.list (cs.map PyData.int), .int i, .int b, .int s, .int c], .v (.int many)] = .ret (.pv (.int r)) (some (.io ys)) ∧ HandOk (m + 1) ys ∧ 0 ≤ r ∧ r < many := by
    intro i' b' s' z _ k1 k2 k3 k4 e
    obtain ⟨r, b2, c2, q, q1, q2, q3, q4, q5⟩ := draw_tail (C := (cf P gl n)) (cs := .list (cs.map PyData.int)) (i := i') (b := b') (s := s') (c := c) (many := many) (z := z) (h0 := [.list (cs.map PyData.int), .int i, .int b, .int s, .int c]) (as := [.v (.int many)]) hm hm2 k2 k3 k4 h6 (by omega)
    refine ⟨r, _, ?_, ⟨cs, i', b2, s', c2, rfl, h1, k1, q3, k3, k4, q4, by omega⟩, q1, q2⟩
    rw [run_succ hP, if_pos ⟨rfl, rfl⟩, ← q]
    show finR _ (evSs _ (.cons drawHead drawTail) [some (.io [.list (cs.map PyData.int), .int i, .int b, .int s, .int c]), some (.v (.int many)), none, none, none]) = _
    rw [ss_cons, e]
    rfl
  by_cases c1 : b = 0 ∧ i < cs.length
  · obtain ⟨e1, c2⟩ := c1
    subst e1
    have ea : L2.atI (cs.map PyData.int) i = some (.int (cs[i.toNat]'(by omega))) := by
      rw [at_nat h2 (by simpa using c2), List.getElem?_map, List.getElem?_eq_getElem (by omega)]
      rfl
    have hx : 0 ≤ cs[i.toNat]'(by omega) := h1 _ (List.getElem_mem _)
    generalize cs[i.toNat]'(by omega) = x at ea hx
    have m1 : binD .mul (.int s) (.int 48271) = some (.int (s * 48271)) := mulS (by omega) (by decide)
    have q1 := mod_lt (x := s * 48271 + x + 31) (m := 2147483647) (by decide)
    have o1 : binD .mod (.int (s * 48271 + x + 31)) (.int 2147483647) = some (.int ((s * 48271 + x + 31) % 2147483647)) := b_mod (by decide)
    have pw : binD .pow (.int 10) (.int 18) = some (.int 1000000000000000000) := by simp [binD]
    by_cases c3 : 1000000000000000000 ≤ x
    · refine done (i + 1) x _ (some (.v (.int x))) [] (by omega) hx q1.1 (by omega) ?_
      simp [drawHead, at0, at1, at2, at3, st1, st2, st3, ea, m1, o1, pw, c2, c3]
    · refine done (i + 1) 0 _ (some (.v (.int x))) [] (by omega) (by omega) q1.1 (by omega) ?_
      simp [drawHead, at0, at1, at2, at3, st1, st2, st3, ea, m1, o1, pw, c2, c3]
  · refine done i b s none [] h2 h3 h4 h5 ?_
    by_cases c2 : b = 0
    · have : ¬ i < cs.length := fun z => c1 ⟨c2, z⟩
      simp [drawHead, at0, at1, at2, c2, this]
    · simp [drawHead, at0, at1, at2, c2]
end
end Pv

namespace Pv
open PySem
/-! ### loops and comprehensions -/
theorem forGo_inv {f : D → Env → SR} (I : Nat → Env → Prop) {ds : List D} {ρ : Env} (h0 : I 0 ρ) (step : ∀ i d ρ, ds[i]? = some d → I i ρ → ∃ ρ', f d ρ = .nx ρ' ∧ I (i + 1) ρ') : ∃ ρ', forGo f ds ρ = .nx ρ' ∧ I ds.length ρ' := by
  induction ds generalizing I ρ with
  | nil => exact ⟨ρ, rfl, h0⟩
  | cons x xs ih =>
    obtain ⟨ρ1, e, h1⟩ := step 0 x ρ rfl h0
    obtain ⟨ρ2, e2, h2⟩ := ih (fun i ρ => I (i + 1) ρ) h1 fun i d ρ hd hi => step (i + 1) d ρ (by simpa using hd) hi
    refine ⟨ρ2, ?_, h2⟩
    unfold forGo
    rw [e]
    exact e2
theorem set_back {ρ : Env} {i : Nat} (hi : i < ρ.length) (x : Option Slot) : (ρ.set i x).set i (ρ.getD i none) = ρ := by
  rw [List.set_set]
  apply List.ext_getElem?
  intro j
  by_cases h : i = j
  · subst h
    rw [List.getElem?_set_self hi, List.getD_eq_getElem?_getD, List.getElem?_eq_getElem hi]
    rfl
  · rw [List.getElem?_set_ne h]
theorem lcTurn_n {i : Nat} {ev : Env → R (Option D)} {ρ : Env} {x : D} {o : Option D} (hi : i < ρ.length) (hp : plainAt ρ [i] = true) (h : ev (ρ.set i (some (.v x))) = .ok o (ρ.set i (some (.v x)))) : lcTurn (.n i) ev x ρ = .ok o ρ := by
  unfold lcTurn
  rw [if_pos (show plainAt ρ (Tg.n i).slots = true from hp)]
  have e1 : putT (wipeE ρ (Tg.n i).slots) (.n i) x = .ok () (ρ.set i (some (.v x))) := by
    show putV (ρ.set i none) i (.pv x) = _
    unfold putV
    rw [if_pos]
    · rw [List.set_set]
    · unfold freeAt
      rw [List.getElem?_set_self hi]
  rw [e1]
  show (ev (ρ.set i (some (.v x)))).bind _ = _
  rw [h]
  show R.ok o (backE ρ (ρ.set i (some (.v x))) [i]) = _
  congr 1
  exact set_back hi _
theorem lcGo_n {i : Nat} {ev : Env → R (Option D)} {ρ : Env} {g : D → D} (hi : i < ρ.length) (hp : plainAt ρ [i] = true) : ∀ {xs : List D}, (∀ x ∈ xs, ev (ρ.set i (some (.v x))) = .ok (some (g x)) (ρ.set i (some (.v x)))) → lcGo (lcTurn (.n i) ev) xs ρ = .ok (xs.map g) ρ
  | [], _ => rfl
  | x :: xs, h => by
    unfold lcGo
    rw [lcTurn_n hi hp (h x List.mem_cons_self)]
    show (lcGo _ xs ρ).bind _ = _
    rw [lcGo_n hi hp fun y hy => h y (List.mem_cons_of_mem _ hy)]
    rfl
theorem lcTurn_2 {i j : Nat} {ev : Env → R (Option D)} {ρ : Env} {x y : D} {o : Option D} (hi : i < ρ.length) (hj : j < ρ.length) (hij : i ≠ j) (hp : plainAt ρ [i, j] = true) (h : ev ((ρ.set i (some (.v x))).set j (some (.v y))) = .ok o ((ρ.set i (some (.v x))).set j (some (.v y)))) : lcTurn (.t [i, j]) ev (.tuple [x, y]) ρ = .ok o ρ := by
  unfold lcTurn
  rw [if_pos (show plainAt ρ (Tg.t [i, j]).slots = true from hp)]
  have e1 : putT (wipeE ρ (Tg.t [i, j]).slots) (.t [i, j]) (.tuple [x, y]) = .ok () ((ρ.set i (some (.v x))).set j (some (.v y))) := by
    show (if ([x, y] : List D).length = [i, j].length then putAll ((ρ.set j none).set i none) [i, j] [x, y] else .bad) = _
    rw [if_pos (show ([x, y] : List D).length = [i, j].length from rfl)]
    have f1 : freeAt ((ρ.set j none).set i none) i = true := by
      unfold freeAt
      rw [List.getElem?_set_self (by simpa using hi)]
    have f2 : freeAt (((ρ.set j none).set i none).set i (some (.v x))) j = true := by
      unfold freeAt
      rw [List.getElem?_set_ne hij, List.getElem?_set_ne hij, List.getElem?_set_self hj]
    rw [putAll_cons, putD_eq, putV_pv, if_pos f1]
    show putAll _ [j] [y] = _
    rw [putAll_cons, putD_eq, putV_pv, if_pos f2]
    show R.ok () _ = _
    congr 1
    rw [List.set_set, List.set_comm _ _ hij.symm, List.set_set]
  rw [e1]
  show (ev ((ρ.set i (some (.v x))).set j (some (.v y)))).bind _ = _
  rw [h]
  show R.ok o (backE ρ ((ρ.set i (some (.v x))).set j (some (.v y))) [i, j]) = _
  congr 1
  show ((((ρ.set i (some (.v x))).set j (some (.v y))).set j (ρ.getD j none)).set i (ρ.getD i none)) = ρ
  rw [List.set_set, List.set_comm _ _ hij.symm, List.set_set]
  rw [List.set_comm _ _ hij]
  apply List.ext_getElem?
  intro k
  by_cases h1 : i = k
  · subst h1
    rw [List.getElem?_set_self (by simpa using hi), List.getD_eq_getElem?_getD, List.getElem?_eq_getElem hi]
    rfl
  · rw [List.getElem?_set_ne h1]
    by_cases h2 : j = k
    · subst h2
      rw [List.getElem?_set_self hj, List.getD_eq_getElem?_getD, List.getElem?_eq_getElem hj]
      rfl
    · rw [List.getElem?_set_ne h2]
theorem rngOf1 {j : Int} (h0 : -(2 ^ 62) < j) (h1 : j < 2 ^ 62) : rngOf [.int j] = some (0, j.toNat, 1) := by
  have h : j.natAbs < 2 ^ 62 := by
    omega
  exact if_pos h
theorem rngOfA {k : Int} (hk : k.natAbs ≤ 1000000) : rngOf [.int (k.natAbs : Int)] = some (0, k.natAbs, 1) := by
  have := rngOf1 (j := (k.natAbs : Int)) (by omega) (by omega)
  rw [this]
  rfl
theorem cio_own {call : List Slot → FR} {i : Nat} {args : Env → R (List D)} {ρ ρ' : Env} {xs xs' ys : List D} {ds : List D} {x : Val} (h0 : ρ[i]? = some (some (.own xs))) (h1 : args ρ = .ok ds ρ') (h2 : ρ'[i]? = some (some (.own xs'))) (hc : call (.io xs' :: ds.map .v) = .ret x (some (.io ys))) : cioGo call i args ρ = .ok x (ρ'.set i (some (.own ys))) := by
  unfold cioGo ioArg
  simp [h0, h1, h2, hc, backR, backS]
theorem cio_io {call : List Slot → FR} {i : Nat} {args : Env → R (List D)} {ρ ρ' : Env} {xs xs' ys : List D} {ds : List D} {x : Val} (h0 : ρ[i]? = some (some (.io xs))) (h1 : args ρ = .ok ds ρ') (h2 : ρ'[i]? = some (some (.io xs'))) (hc : call (.io xs' :: ds.map .v) = .ret x (some (.io ys))) : cioGo call i args ρ = .ok x (ρ'.set i (some (.io ys))) := by
  unfold cioGo ioArg
  simp [h0, h1, h2, hc, backR, backS]
theorem ecio_own {C : Cfg} {j i : Nat} {es : Es} {ρ ρ' : Env} {xs xs' ys : List D} {ds : List D} {x : Val} (h0 : ρ[i]? = some (some (.own xs))) (h1 : evA C es ρ = .ok ds ρ') (h2 : ρ'[i]? = some (some (.own xs'))) (hc : C.call j (.io xs' :: ds.map .v) = .ret x (some (.io ys))) : evE C (.cio j i es) ρ = .ok x (ρ'.set i (some (.own ys))) := by
  rw [e_cio]
  exact cio_own h0 h1 h2 hc
theorem ecio_io {C : Cfg} {j i : Nat} {es : Es} {ρ ρ' : Env} {xs xs' ys : List D} {ds : List D} {x : Val} (h0 : ρ[i]? = some (some (.io xs))) (h1 : evA C es ρ = .ok ds ρ') (h2 : ρ'[i]? = some (some (.io xs'))) (hc : C.call j (.io xs' :: ds.map .v) = .ret x (some (.io ys))) : evE C (.cio j i es) ρ = .ok x (ρ'.set i (some (.io ys))) := by
  rw [e_cio]
  exact cio_io h0 h1 h2 hc
theorem s_whl_step {C : Cfg} {c : T} {b : Ss} {ρ : Env} : evS C (.whl c b) ρ = (match evT C c ρ with
    | .ok true ρ => (match evSs C b ρ with
      | .nx ρ => evS C (.whl c b) ρ
      | .ct ρ => evS C (.whl c b) ρ
      | .brk ρ => .nx ρ
      | r => r)
    | .ok false ρ => .nx ρ
    | .exc c x ρ => .exc c x ρ
    | .bad => .bad) := whl_step _ _ _
theorem whl_f {C : Cfg} {c : T} {b : Ss} {ρ ρ' : Env} (h : evT C c ρ = .ok false ρ') : evS C (.whl c b) ρ = .nx ρ' := by rw [s_whl_step, h]
theorem whl_t {C : Cfg} {c : T} {b : Ss} {ρ ρ1 ρ2 : Env} (h : evT C c ρ = .ok true ρ1) (h2 : evSs C b ρ1 = .nx ρ2) : evS C (.whl c b) ρ = evS C (.whl c b) ρ2 := by
  rw [s_whl_step, h]
  simp only [h2]
section
variable {P : List Fn} {gl : Gls} {j n : Nat}
/-! ### the hand -/
theorem hand_ok {ns : List Int} (hP : P[j]? = some fHand) : ∃ xs, run P gl (n + 1) j [.raw (ns.map PyData.int)] = .ret (.fr xs) none ∧ HandOk 0 xs := by
  have hl : (cut (ns.map PyData.int) none (some 63)) = (cut ns none (some 63)).map PyData.int := by
    unfold cut
    rw [List.length_map, List.map_take, List.map_drop]
  have hlen : (cut ns none (some 63)).length ≤ 63 := by
    unfold cut
    rw [List.length_take, List.length_drop]
    have : HT.sIx ns.length ns.length (some 63) ≤ 63 := by
      simp [HT.sIx]
      omega
    omega
  generalize cut ns none (some 63) = cs at hl hlen
  have lc : ∀ C : Cfg, evE C handLc [some (.raw (ns.map PyData.int)), none, none] = .ok (.fr ((cs.map fun i => if i < 0 then -i else i).map PyData.int)) [some (.raw (ns.map PyData.int)), none, none] := fun C => by
    unfold handLc
    rw [e_lc]
    have e1 : evI C (.of (.scr 0 63)) [some (.raw (ns.map PyData.int)), none, none] = .ok (cs.map PyData.int) [some (.raw (ns.map PyData.int)), none, none] := by simp [scrV, hl]
    rw [e1]
    show lcEnd (lcGo _ _ _) = _
    rw [lcGo_n (g := fun d => match d with | .int i => .int (if i < 0 then -i else i) | d => d) (by simp) rfl ?_]
    · have h6 : cs.length ≤ LIM := Nat.le_trans hlen (by decide)
      simp [h6]
    · intro x hx
      obtain ⟨i, _, rfl⟩ := List.mem_map.mp hx
      simp
  have m1 : binD .mul (.int 5) (.int (cs.length : Int)) = some (.int (5 * (cs.length : Int))) := mulS (by decide) (by omega)
  refine ⟨[.list ((cs.map fun i => if i < 0 then -i else i).map PyData.int), .int 0, .int 0, .int (97 + 5 * cs.length), .int 0], ?_, ⟨_, 0, 0, _, 0, rfl, ?_, by omega, by omega, by omega, by omega, by omega, by omega⟩⟩
  · rw [run_succ hP, if_pos ⟨rfl, rfl⟩]
    have h5 : (5 : Nat) ≤ LIM := by decide
    simp [fHand, lc, m1, h5]
  · intro x hx
    obtain ⟨i, _, rfl⟩ := List.mem_map.mp hx
    split <;> omega
/-! ### the greatest common part -/
theorem gcd_pos {a b : Nat} (h : 0 < b) : 0 < Nat.gcd a b := Nat.gcd_pos_of_pos_right _ h
theorem low_loop {C : Cfg} {t u : Option Slot} : ∀ (m a b : Nat), a ≤ m → evS C lowLoop [t, u, some (.v (.int b)), some (.v (.int a))] = .nx [t, u, some (.v (.int (Nat.gcd a b))), some (.v (.int 0))]
  | 0, a, b, h => by
    have e : a = 0 := by omega
    subst e
    rw [Nat.gcd_zero_left]
    exact whl_f (by simp [lowC])
  | m + 1, a, b, h => by
    by_cases h0 : a = 0
    · subst h0
      rw [Nat.gcd_zero_left]
      exact whl_f (by simp [lowC])
    · have hp : (0 : Int) < a := by omega
      have ih := low_loop (C := C) (t := t) (u := u) m (b % a) a (by have := Nat.mod_lt b (show 0 < a by omega); omega)
      rw [Nat.gcd_rec a b, ← ih]
      exact whl_t (ρ1 := [t, u, some (.v (.int b)), some (.v (.int a))]) (by simp [lowC]; omega) (by simp [lowB, b_mod hp])
theorem common_loop {C : Cfg} : ∀ (m a b : Nat), a ≤ m → evS C comLoop [some (.v (.int b)), some (.v (.int a))] = .nx [some (.v (.int (Nat.gcd a b))), some (.v (.int 0))]
  | 0, a, b, h => by
    have e : a = 0 := by omega
    subst e
    rw [Nat.gcd_zero_left]
    exact whl_f (by simp [comC])
  | m + 1, a, b, h => by
    by_cases h0 : a = 0
    · subst h0
      rw [Nat.gcd_zero_left]
      exact whl_f (by simp [comC])
    · have hp : (0 : Int) < a := by omega
      have ih := common_loop (C := C) m (b % a) a (by have := Nat.mod_lt b (show 0 < a by omega); omega)
      rw [Nat.gcd_rec a b, ← ih]
      exact whl_t (ρ1 := [some (.v (.int b)), some (.v (.int a))]) (by simp [comC]; omega) (by simp [comB, b_mod hp])
theorem abs_nat (i : Int) : (if i < 0 then -i else i) = (i.natAbs : Int) := by split <;> omega
theorem common_ok {a b : Int} (hP : P[j]? = some fCommon) : run P gl (n + 1) j [.v (.int a), .v (.int b)] = .ret (.pv (.int (Int.gcd a b))) none := by
  rw [run_succ hP, if_pos ⟨rfl, rfl⟩]
  have e := common_loop (C := (cf P gl n)) b.natAbs b.natAbs a.natAbs (Nat.le_refl _)
  simp [fCommon, abs_nat, e, Int.gcd, Nat.gcd_comm]
/-- lowest terms, the bottom above 0 -/
theorem low_pos {t b : Int} (hP : P[j]? = some fLow) (hb : 0 < b) (hb2 : b < 2 ^ 250) : run P gl (n + 1) j [.v (.int t), .v (.int b)] = .ret (.pv (.tuple [.int (t / Int.gcd t b), .int (b / Int.gcd t b)])) none := by
  have hg : 0 < Int.gcd t b := Int.gcd_pos_of_ne_zero_right _ (by omega)
  have hle : (Int.gcd t b : Int) ≤ b := Int.le_of_dvd hb (Int.gcd_dvd_right ..)
  rw [run_succ hP, if_pos ⟨rfl, rfl⟩]
  have e := low_loop (C := (cf P gl n)) (t := some (.v (.int t))) (u := some (.v (.int b))) t.natAbs t.natAbs b.natAbs (Nat.le_refl _)
  have e2 : ((t.natAbs.gcd b.natAbs : Nat) : Int) = (Int.gcd t b : Int) := rfl
  rw [e2] at e
  have d1 : ∀ x, binD .fdiv (.int x) (.int (Int.gcd t b)) = some (.int (x / Int.gcd t b)) := fun x => divS (by omega) (by omega)
  have h2 : (2 : Nat) ≤ LIM := by decide
  simp [fLow, abs_nat, e, hb, d1, h2]
/-- the bottom below 0 -/
theorem low_neg {t b : Int} (hP : P[j]? = some fLow) (hb : b < 0) (hg : Int.gcd t b = 1) : run P gl (n + 1) j [.v (.int t), .v (.int b)] = .ret (.pv (.tuple [.int (-t), .int (-b)])) none := by
  rw [run_succ hP, if_pos ⟨rfl, rfl⟩]
  have e := low_loop (C := (cf P gl n)) (t := some (.v (.int t))) (u := some (.v (.int b))) t.natAbs t.natAbs b.natAbs (Nat.le_refl _)
  have e2 : ((t.natAbs.gcd b.natAbs : Nat) : Int) = 1 := by
    show (Int.gcd t b : Int) = 1
    rw [hg]
    rfl
  rw [e2] at e
  have d1 : ∀ x, binD .fdiv (.int x) (.int (-1)) = some (.int (-x)) := fun x => by
    have : x.fdiv (-1) = -x := by simp [Int.fdiv_neg]
    have l1 : (1 : Nat) < DIVB := lt_DIVB (by decide)
    simp [binD, this, l1]
  have h2 : (2 : Nat) ≤ LIM := by decide
  have hb' : ¬ 0 < b := by omega
  simp [fLow, abs_nat, e, hb', d1, h2]
end
end Pv

namespace Pv
open PySem
/-! ### told and due are alike -/
def isLc (j : Nat) : E := (.lc (.call j (.cons (.v 3) (.cons (.v 4) .nil))) (.t [3, 4]) (.zip (.v 0) (.v 1)) .yes)
def fIs (j : Nat) : Fn := ⟨2, 5, (.cons (.ite (.e (.isi (.v 1) [.tup, .lst]))
 (.cons (.ite (.or (.e (.cmp .ne (.isi (.v 0) [.tup]) (.isi (.v 1) [.tup]))) (.not (.e (.isi (.v 0) [.tup, .lst]))))
 (.cons (.ret (.k (.bool false)))
 .nil)
 .nil)
 (.cons (.ret (.and (.cmp .eq (.b1 .len (.v 0)) (.b1 .len (.v 1))) (.b1 .all (isLc j))))
 .nil))
 .nil)
 (.cons (.ite (.e (.isi (.v 1) [.dic]))
 (.cons (.ite (.or (.not (.e (.isi (.v 0) [.dic]))) (.e (.cmp .ne (.b1 .len (.v 0)) (.b1 .len (.v 1)))))
 (.cons (.ret (.k (.bool false)))
 .nil)
 .nil)
 (.cons (.ret (.b1 .all (.lc (.and (.cmp .isin (.v 2) (.v 0)) (.call j (.cons (.ixv 0 (.v 2)) (.cons (.ixv 1 (.v 2)) .nil)))) (.n 2) (.of (.v 1)) .yes)))
 .nil))
 .nil)
 (.cons (.ite (.or (.e (.isi (.v 1) [.str])) (.e (.cmp .is (.v 1) (.k .none))))
 (.cons (.ret (.and (.cmp .eq (.isi (.v 0) [.str]) (.isi (.v 1) [.str])) (.cmp .eq (.v 0) (.v 1))))
 .nil)
 .nil)
 (.cons (.ret (.and (.isi (.v 0) [.int]) (.and (.cmp .eq (.isi (.v 0) [.bool]) (.isi (.v 1) [.bool])) (.cmp .eq (.v 0) (.v 1)))))
 .nil))))⟩
@[simp] theorem c_isn_i (i : Int) : cmpD .is (.int i) .none = some false := rfl
@[simp] theorem c_isn_t (i : List D) : cmpD .is (.tuple i) .none = some false := rfl
@[simp] theorem c_isn_n : cmpD .is .none .none = some true := rfl
@[simp] theorem ty_ii (i : Int) : Ty.is .int (.int i) = true := rfl
@[simp] theorem ty_bi (i : Int) : Ty.is .bool (.int i) = false := rfl
@[simp] theorem ty_si (i : Int) : Ty.is .str (.int i) = false := rfl
@[simp] theorem ty_ti (i : Int) : Ty.is .tup (.int i) = false := rfl
@[simp] theorem ty_li (i : Int) : Ty.is .lst (.int i) = false := rfl
@[simp] theorem ty_di (i : Int) : Ty.is .dic (.int i) = false := rfl
@[simp] theorem ty_tt (i : List D) : Ty.is .tup (.tuple i) = true := rfl
@[simp] theorem ty_it (i : List D) : Ty.is .int (.tuple i) = false := rfl
@[simp] theorem ty_bt (i : List D) : Ty.is .bool (.tuple i) = false := rfl
@[simp] theorem ty_lt (i : List D) : Ty.is .lst (.tuple i) = false := rfl
@[simp] theorem ty_dt (i : List D) : Ty.is .dic (.tuple i) = false := rfl
@[simp] theorem ty_st (i : List D) : Ty.is .str (.tuple i) = false := rfl
section
variable {P : List Fn} {gl : Gls} {j n : Nat}
theorem is_int (hP : P[j]? = some (fIs j)) (i : Int) : run P gl (n + 1) j [.v (.int i), .v (.int i)] = .ret (.pv (.bool true)) none := by
  rw [run_succ hP, if_pos ⟨rfl, rfl⟩]
  simp [fIs]
/-- told is due: every item of a tuple is alike, so the tuple is -/
theorem is_tup {m : Nat} (hP : P[j]? = some (fIs j)) (ds : List D) (hl : ds.length ≤ LIM) (h : ∀ d ∈ ds, run P gl m j [.v d, .v d] = .ret (.pv (.bool true)) none) : run P gl (m + 1) j [.v (.tuple ds), .v (.tuple ds)] = .ret (.pv (.bool true)) none := by
  rw [run_succ hP, if_pos ⟨rfl, rfl⟩]
  have z : zipD ds ds = ds.map fun d => .tuple [d, d] := by
    clear h hl
    induction ds with
    | nil => rfl
    | cons d r ih => simp [zipD, ih]
  have lc : evE (cf P gl m) (isLc j) [some (.v (.tuple ds)), some (.v (.tuple ds)), none, none, none] = .ok (.fr (ds.map fun _ => .bool true)) [some (.v (.tuple ds)), some (.v (.tuple ds)), none, none, none] := by
    unfold isLc
    rw [e_lc]
    have e1 : evI (cf P gl m) (.zip (.v 0) (.v 1)) [some (.v (.tuple ds)), some (.v (.tuple ds)), none, none, none] = .ok (ds.map fun d => .tuple [d, d]) [some (.v (.tuple ds)), some (.v (.tuple ds)), none, none, none] := by simp [zipO, z]
    rw [e1]
    show lcEnd (lcGo _ _ _) = _
    have e2 : ∀ xs : List D, (∀ d ∈ xs, run P gl m j [.v d, .v d] = .ret (.pv (.bool true)) none) → lcGo (lcTurn (.t [3, 4]) fun ρ => (evT (cf P gl m) .yes ρ).bind fun t ρ => iteR t (bindD (evE (cf P gl m) (.call j (.cons (.v 3) (.cons (.v 4) .nil))) ρ) fun y ρ => .ok (some y) ρ) (.ok none ρ)) (xs.map fun d => .tuple [d, d]) [some (.v (.tuple ds)), some (.v (.tuple ds)), none, none, none] = .ok (xs.map fun _ => .bool true) [some (.v (.tuple ds)), some (.v (.tuple ds)), none, none, none] := by
      intro xs
      induction xs with
      | nil => intro _; rfl
      | cons x xs ih =>
        intro hx
        rw [List.map_cons]
        unfold lcGo
        rw [lcTurn_2 (o := some (.bool true)) (by simp) (by simp) (by decide) rfl (by simp [hx x List.mem_cons_self])]
        show (lcGo _ _ _).bind _ = _
        rw [ih fun d hd => hx d (List.mem_cons_of_mem _ hd)]
        rfl
    rw [e2 ds h]
    simp [hl]
  have bo : ∀ xs : List D, boolsOf (xs.map fun _ => PyData.bool true) = some (xs.map fun _ => true) := fun xs => by
    induction xs with
    | nil => rfl
    | cons x r ih => simp [ih]
  have iv : isV (isLc j) = none := rfl
  simp [fIs, lc, bo, iv]
end
end Pv

namespace Pv
open PySem
/-! ### the basics, by the numbers of the defs -/
def fIsInt : Fn := ⟨1, 1, (.cons (.ret (.and (.isi (.v 0) [.int]) (.not (.isi (.v 0) [.bool])))) .nil)⟩
def fSized : Fn := ⟨3, 3, (.cons (.ret (.and (.isi (.v 0) [.tup]) (.chain .le .le (.v 1) (.b1 .len (.v 0)) (.v 2)))) .nil)⟩
def fAreInts (ji js : Nat) : Fn := ⟨3, 4, (.cons (.ret (.and (.call js (.cons (.v 0) (.cons (.v 1) (.cons (.v 2) .nil)))) (.b1 .all (.lc (.call ji (.cons (.v 3) .nil)) (.n 3) (.of (.v 0)) .yes)))) .nil)⟩
def fIsRatio (ji js jc g : Nat) : Fn := ⟨1, 2, (.cons (.ite (.or (.not (.e (.call js (.cons (.v 0) (.cons (.k (.int 2)) (.cons (.k (.int 2)) .nil)))))) (.not (.e (.b1 .all (.lc (.call ji (.cons (.v 1) .nil)) (.n 1) (.of (.v 0)) .yes)))))
 (.cons (.ret (.k (.bool false)))
 .nil)
 .nil)
 (.cons (.ite (.or (.e (.cmp .ge (.b1 .abs (.ixv 0 (.k (.int 0)))) (.g g))) (.not (.e (.chain .lt .lt (.k (.int 0)) (.ixv 0 (.k (.int 1))) (.g g)))))
 (.cons (.ret (.k (.bool false)))
 .nil)
 .nil)
 (.cons (.ret (.cmp .eq (.call jc (.cons (.ixv 0 (.k (.int 0))) (.cons (.ixv 0 (.k (.int 1))) .nil))) (.k (.int 1))))
 .nil)))⟩
def fCheck1 (jr x : Nat) : Fn := ⟨1, 1, (.cons (.ite (.not (.e (.call jr (.cons (.v 0) .nil))))
 (.cons (.raise x)
 .nil)
 .nil)
 .nil)⟩
def fMade (jc : Nat) : Fn := ⟨2, 3, (.cons (.asg (.n 2) (.call jc (.cons (.v 0) (.cons (.v 1) .nil))))
 (.cons (.asg (.n 2) (.ife (.e (.cmp .gt (.v 1) (.k (.int 0)))) (.v 2) (.bin .sub (.k (.int 0)) (.v 2))))
 (.cons (.ret (.tup (.cons (.bin .fdiv (.v 0) (.v 2)) (.cons (.bin .fdiv (.v 1) (.v 2)) .nil))))
 .nil)))⟩
def fPlus (jm : Nat) : Fn := ⟨2, 2, (.cons (.ret (.call jm (.cons (.bin .add (.bin .mul (.ixv 0 (.k (.int 0))) (.ixv 1 (.k (.int 1)))) (.bin .mul (.ixv 1 (.k (.int 0))) (.ixv 0 (.k (.int 1))))) (.cons (.bin .mul (.ixv 0 (.k (.int 1))) (.ixv 1 (.k (.int 1)))) .nil))))
 .nil)⟩
def fLess : Fn := ⟨2, 2, (.cons (.ret (.cmp .lt (.bin .mul (.ixv 0 (.k (.int 0))) (.ixv 1 (.k (.int 1)))) (.bin .mul (.ixv 1 (.k (.int 0))) (.ixv 0 (.k (.int 1))))))
 .nil)⟩
def fSome (jd : Nat) : Fn := ⟨2, 2, (.cons (.ret (.ixv 1 (.cio jd 0 (.cons (.b1 .len (.v 1)) .nil))))
 .nil)⟩
def pr (p : Int × Int) : D := .tuple [.int p.1, .int p.2]
/-- what is below 2 ** 120 -/
def Md (i : Int) : Prop := i.natAbs < 2 ^ 120
theorem md_mul {a b : Int} (h : Md a) (h2 : Md b) : binD .mul (.int a) (.int b) = some (.int (a * b)) := mulS (Nat.lt_trans h (by decide)) (Nat.lt_trans h2 (by decide))
theorem jx0 {a b : D} : L2.atI [a, b] 0 = some a := rfl
theorem jx1 {a b : D} : L2.atI [a, b] 1 = some b := rfl
theorem lim2 : (2 : Nat) ≤ LIM := by decide
theorem lim3 : (3 : Nat) ≤ LIM := by decide
theorem lim4 : (4 : Nat) ≤ LIM := by decide
theorem lim5 : (5 : Nat) ≤ LIM := by decide
theorem prx0 (p : Int × Int) : ixD (pr p) (.int 0) = some (.int p.1) := rfl
theorem prx1 (p : Int × Int) : ixD (pr p) (.int 1) = some (.int p.2) := rfl
theorem pr_isn (p : Int × Int) : cmpD .is (pr p) .none = some false := rfl
theorem pr_isnot (p : Int × Int) : cmpD .isnot (pr p) .none = some true := rfl
theorem n_isnot : cmpD .isnot .none .none = some false := rfl
theorem cio_k {C : Cfg} {j : Nat} {k : Int} {xs ys : List D} {x : Val} {s : Option Slot} {rest : Env} (h : C.call j [.io xs, .v (.int k)] = .ret x (some (.io ys))) : evE C (.cio j 1 (.cons (.k (.int k)) .nil)) (s :: some (.own xs) :: rest) = .ok x (s :: some (.own ys) :: rest) :=
  ecio_own (xs := xs) (xs' := xs) (ds := [.int k]) (ρ' := s :: some (.own xs) :: rest) rfl (by simp) rfl h
theorem cio_k0 {C : Cfg} {j : Nat} {k : Int} {xs ys : List D} {x : Val} {rest : Env} (h : C.call j [.io xs, .v (.int k)] = .ret x (some (.io ys))) : evE C (.cio j 0 (.cons (.k (.int k)) .nil)) (some (.io xs) :: rest) = .ok x (some (.io ys) :: rest) :=
  ecio_io (xs := xs) (xs' := xs) (ds := [.int k]) (ρ' := some (.io xs) :: rest) rfl (by simp) rfl h
theorem cio_u {C : Cfg} {j : Nat} {xs ys : List D} {x : Val} {s : Option Slot} {rest : Env} (h : C.call j [.io xs] = .ret x (some (.io ys))) : evE C (.cio j 1 .nil) (s :: some (.own xs) :: rest) = .ok x (s :: some (.own ys) :: rest) :=
  ecio_own (xs := xs) (xs' := xs) (ds := []) (ρ' := s :: some (.own xs) :: rest) rfl rfl rfl h
section
variable {P : List Fn} {gl : Gls} {n j ji js jc jr jm jd g x : Nat}
theorem isInt_ok (hP : P[j]? = some fIsInt) (i : Int) : run P gl (n + 1) j [.v (.int i)] = .ret (.pv (.bool true)) none := by
  rw [run_succ hP, if_pos ⟨rfl, rfl⟩]
  simp [fIsInt]
theorem sized_ok (hP : P[j]? = some fSized) {ds : List D} {lo hi : Int} (h1 : lo ≤ ds.length) (h2 : ds.length ≤ hi) : run P gl (n + 1) j [.v (.tuple ds), .v (.int lo), .v (.int hi)] = .ret (.pv (.bool true)) none := by
  rw [run_succ hP, if_pos ⟨rfl, rfl⟩]
  simp [fSized, h1, h2]
theorem all_true (xs : List D) : boolsOf (xs.map fun _ => PyData.bool true) = some (xs.map fun _ => true) := by
  induction xs with
  | nil => rfl
  | cons x r ih => simp [ih]
theorem areInts_ok (hP : P[j]? = some (fAreInts ji js)) (hI : P[ji]? = some fIsInt) (hs : P[js]? = some fSized) {ns : List Int} {lo hi : Int} (h1 : lo ≤ ns.length) (h2 : ns.length ≤ hi) (hl : ns.length ≤ LIM) : run P gl (n + 2) j [.v (.tuple (ns.map .int)), .v (.int lo), .v (.int hi)] = .ret (.pv (.bool true)) none := by
  rw [run_succ hP, if_pos ⟨rfl, rfl⟩]
  have s1 := sized_ok (gl := gl) (n := n) hs (ds := ns.map .int) (lo := lo) (hi := hi) (by simpa using h1) (by simpa using h2)
  have lc : evE (cf P gl (n + 1)) (.lc (.call ji (.cons (.v 3) .nil)) (.n 3) (.of (.v 0)) .yes) [some (.v (.tuple (ns.map .int))), some (.v (.int lo)), some (.v (.int hi)), none] = .ok (.fr ((ns.map PyData.int).map fun _ => .bool true)) [some (.v (.tuple (ns.map .int))), some (.v (.int lo)), some (.v (.int hi)), none] := by
    rw [e_lc]
    have e1 : evI (cf P gl (n + 1)) (.of (.v 0)) [some (.v (.tuple (ns.map .int))), some (.v (.int lo)), some (.v (.int hi)), none] = .ok (ns.map .int) [some (.v (.tuple (ns.map .int))), some (.v (.int lo)), some (.v (.int hi)), none] := by simp
    rw [e1, R.bind_ok, lcGo_n (g := fun _ => .bool true) (by simp) rfl ?_]
    · simp [hl]
    · intro y hy
      obtain ⟨i, _, rfl⟩ := List.mem_map.mp hy
      simp [isInt_ok hI]
  simp only [fAreInts]
  have bo := all_true (ns.map PyData.int)
  simp [s1, lc, -List.map_map, bo]
theorem isRatio_ok (hP : P[j]? = some (fIsRatio ji js jc g)) (hi : P[ji]? = some fIsInt) (hs : P[js]? = some fSized) (hc : P[jc]? = some fCommon) (hg : gl g = some (.int 10000000000000000000000000000000000000000)) {p : Int × Int} (h1 : p.1.natAbs < 10 ^ 40) (h2 : 0 < p.2) (h3 : p.2 < 10 ^ 40) (h4 : Int.gcd p.1 p.2 = 1) : run P gl (n + 2) j [.v (pr p)] = .ret (.pv (.bool true)) none := by
  obtain ⟨p, q⟩ := p
  dsimp only at *
  rw [run_succ hP, if_pos ⟨rfl, rfl⟩]
  have lc : evE (cf P gl (n + 1)) (.lc (.call ji (.cons (.v 1) .nil)) (.n 1) (.of (.v 0)) .yes) [some (.v (.tuple [.int p, .int q])), none] = .ok (.fr [.bool true, .bool true]) [some (.v (.tuple [.int p, .int q])), none] := by
    rw [e_lc]
    have e1 : evI (cf P gl (n + 1)) (.of (.v 0)) [some (.v (.tuple [.int p, .int q])), none] = .ok [.int p, .int q] [some (.v (.tuple [.int p, .int q])), none] := by simp
    rw [e1, R.bind_ok, lcGo_n (g := fun _ => .bool true) (by simp) rfl (by simp [isInt_ok hi])]
    simp [lim2]
  have s1 := sized_ok (gl := gl) (n := n) hs (ds := [.int p, .int q]) (lo := 2) (hi := 2) (by simp) (by simp)
  have a1 : ¬ (10000000000000000000000000000000000000000 : Int) ≤ (p.natAbs : Int) := by omega
  have a2 : q < 10000000000000000000000000000000000000000 := by omega
  have cm := common_ok (gl := gl) (n := n) (a := p) (b := q) hc
  simp [fIsRatio, pr, s1, lc, hg, jx0, jx1, abs_nat, a1, a2, h2, cm, h4]
theorem check1_ok {d : D} (hP : P[j]? = some (fCheck1 jr x)) (h : run P gl n jr [.v d] = .ret (.pv (.bool true)) none) : run P gl (n + 1) j [.v d] = .ret (.pv .none) none := by
  rw [run_succ hP, if_pos ⟨rfl, rfl⟩]
  simp [fCheck1, h]
/-- in lowest terms, the bottom above 0 -/
def redP (t b : Int) : Int × Int := if 0 < b then (t / Int.gcd t b, b / Int.gcd t b) else (-(t / Int.gcd t b), -(b / Int.gcd t b))
theorem fdiv_neg_gcd {t g : Int} (hg : 0 < g) (hd : g ∣ t) : t.fdiv (-g) = -(t / g) := by
  obtain ⟨k, rfl⟩ := hd
  rw [Int.mul_ediv_cancel_left _ (by omega), show g * k = (-g) * (-k) by rw [Int.neg_mul_neg], Int.mul_fdiv_cancel_left _ (by omega)]
/-- the divisor that made and _law_low take -/
theorem gcd_le {t b : Int} (hb : b ≠ 0) : Int.gcd t b ≤ b.natAbs := Nat.le_of_dvd (by omega) (Int.natCast_dvd_natCast.mp (by rw [Int.dvd_natAbs]; exact Int.gcd_dvd_right ..))
theorem red_div {t b : Int} (hb : b ≠ 0) (hz : b.natAbs < 2 ^ 250) (y : Int) (hy : (Int.gcd t b : Int) ∣ y) : binD .fdiv (.int y) (.int (if 0 < b then (Int.gcd t b : Int) else 0 - (Int.gcd t b : Int))) = some (.int (if 0 < b then y / Int.gcd t b else -(y / Int.gcd t b))) := by
  have hg : 0 < Int.gcd t b := Int.gcd_pos_of_ne_zero_right _ hb
  have hle := gcd_le (t := t) hb
  by_cases h : 0 < b
  · rw [if_pos h, if_pos h]
    exact divS (by omega) (by omega)
  · rw [if_neg h, if_neg h]
    have h1 : (0 - (Int.gcd t b : Int)).natAbs < DIVB := lt_DIVB (by omega)
    show (if 0 < 0 - (Int.gcd t b : Int) ∧ (0 - (Int.gcd t b : Int)).natAbs < DIVB then some (PyData.int (y / (0 - (Int.gcd t b : Int)))) else if 0 - (Int.gcd t b : Int) < 0 ∧ (0 - (Int.gcd t b : Int)).natAbs < DIVB then some (PyData.int (y.fdiv (0 - (Int.gcd t b : Int)))) else none) = _
    rw [if_neg (by omega), if_pos ⟨by omega, h1⟩, Int.zero_sub, fdiv_neg_gcd (by omega) hy]
theorem low_ok {t b : Int} (hP : P[j]? = some fLow) (hb : b ≠ 0) (hz : b.natAbs < 2 ^ 250) : run P gl (n + 1) j [.v (.int t), .v (.int b)] = .ret (.pv (pr (redP t b))) none := by
  rw [run_succ hP, if_pos ⟨rfl, rfl⟩]
  have e := low_loop (C := (cf P gl n)) (t := some (.v (.int t))) (u := some (.v (.int b))) t.natAbs t.natAbs b.natAbs (Nat.le_refl _)
  have e2 : ((t.natAbs.gcd b.natAbs : Nat) : Int) = (Int.gcd t b : Int) := rfl
  rw [e2] at e
  have d1 := red_div (t := t) hb hz t (Int.gcd_dvd_left ..)
  have d2 := red_div (t := t) hb hz b (Int.gcd_dvd_right ..)
  by_cases h : 0 < b
  · simp only [if_pos h] at d1 d2
    simp [fLow, abs_nat, e, h, d1, d2, lim2, pr, redP]
  · simp only [if_neg h, Int.zero_sub] at d1 d2
    simp [fLow, abs_nat, e, h, d1, d2, lim2, pr, redP]
theorem made_ok {t b : Int} (hP : P[j]? = some (fMade jc)) (hc : P[jc]? = some fCommon) (hb : b ≠ 0) (hz : b.natAbs < 2 ^ 250) : run P gl (n + 2) j [.v (.int t), .v (.int b)] = .ret (.pv (pr (redP t b))) none := by
  rw [run_succ hP, if_pos ⟨rfl, rfl⟩]
  have cm := common_ok (gl := gl) (n := n) (a := t) (b := b) hc
  have d1 := red_div (t := t) hb hz t (Int.gcd_dvd_left ..)
  have d2 := red_div (t := t) hb hz b (Int.gcd_dvd_right ..)
  by_cases h : 0 < b
  · simp only [if_pos h] at d1 d2
    simp [fMade, cm, h, d1, d2, lim2, pr, redP]
  · simp only [if_neg h, Int.zero_sub] at d1 d2
    simp [fMade, cm, h, d1, d2, lim2, pr, redP]
theorem plus_ok {p q : Int × Int} (hP : P[j]? = some (fPlus jm)) (hm : P[jm]? = some (fMade jc)) (hc : P[jc]? = some fCommon) (h1 : Md p.1) (h2 : Md p.2) (h3 : Md q.1) (h4 : Md q.2) (hb : p.2 * q.2 ≠ 0) (hz : (p.2 * q.2).natAbs < 2 ^ 250) : run P gl (n + 3) j [.v (pr p), .v (pr q)] = .ret (.pv (pr (redP (p.1 * q.2 + q.1 * p.2) (p.2 * q.2)))) none := by
  rw [run_succ hP, if_pos ⟨rfl, rfl⟩]
  have md := made_ok (gl := gl) (n := n) (t := p.1 * q.2 + q.1 * p.2) hm hc hb hz
  simp [fPlus, prx0, prx1, md_mul h1 h4, md_mul h3 h2, md_mul h2 h4, md]
theorem less_ok {p q : Int × Int} (hP : P[j]? = some fLess) (h1 : Md p.1) (h2 : Md p.2) (h3 : Md q.1) (h4 : Md q.2) : run P gl (n + 1) j [.v (pr p), .v (pr q)] = .ret (.pv (.bool (decide (p.1 * q.2 < q.1 * p.2)))) none := by
  rw [run_succ hP, if_pos ⟨rfl, rfl⟩]
  simp [fLess, prx0, prx1, md_mul h1 h4, md_mul h3 h2]
/-- one of the things -/
theorem some_ok {xs : List D} {m : Nat} {ds : List D} (hP : P[j]? = some (fSome jd)) (hd : P[jd]? = some fDraw) (H : HandOk m xs) (hl : 0 < ds.length) (hl2 : ds.length < 1000) (hm : m < 1000000000) : ∃ (d : D) (ys : List D), run P gl (n + 2) j [.io xs, .v (.list ds)] = .ret (.pv d) (some (.io ys)) ∧ HandOk (m + 1) ys ∧ d ∈ ds := by
  obtain ⟨r, ys, e, h, r0, r1⟩ := draw_ok (P := P) (gl := gl) (j := jd) (n := n) (many := ds.length) hd H (by omega) (by omega) hm
  have hx : ds[r.toNat]? = some (ds[r.toNat]'(by omega)) := List.getElem?_eq_getElem _
  refine ⟨ds[r.toNat]'(by omega), ys, ?_, h, List.getElem_mem _⟩
  rw [run_succ hP, if_pos ⟨rfl, rfl⟩]
  have ea : L2.atI ds r = some (ds[r.toNat]'(by omega)) := by rw [at_nat r0 r1, hx]
  generalize ds[r.toNat]'(by omega) = d at ea hx
  have ci : evE (cf P gl (n + 1)) (.cio jd 0 (.cons (.b1 .len (.v 1)) .nil)) [some (.io xs), some (.v (.list ds))] = .ok (.pv (.int r)) [some (.io ys), some (.v (.list ds))] := ecio_io (xs := xs) (xs' := xs) (ds := [.int ds.length]) (ρ' := [some (.io xs), some (.v (.list ds))]) rfl (by simp) rfl e
  simp [fSome, ci, ea]
end
end Pv

namespace Pv
open PySem
/-! ### known terms and a rest: the number they make -/
def numB (jp jm : Nat) : Ss := (.cons (.asg (.n 2) (.ife (.e (.cmp .is (.v 2) (.k .none))) (.tup (.cons (.v 3) (.cons (.k (.int 1)) .nil))) (.call jp (.cons (.tup (.cons (.v 3) (.cons (.k (.int 1)) .nil))) (.cons (.call jm (.cons (.ixv 2 (.k (.int 1))) (.cons (.ixv 2 (.k (.int 0))) .nil))) .nil)))))
 .nil)
def numL (jp jm : Nat) : S := (.for_ (.n 3) (.of (.rev (.v 0))) (numB jp jm))
def fNum (jp jm : Nat) : Fn := ⟨2, 4, (.cons (.asg (.n 2) (.v 1))
 (.cons (numL jp jm)
 (.cons (.retv 2)
 .nil)))⟩
def valB (jl : Nat) : Ss := (.cons (.asg (.n 2) (.ife (.e (.cmp .is (.v 2) (.k .none))) (.tup (.cons (.v 3) (.cons (.k (.int 1)) .nil))) (.call jl (.cons (.bin .add (.bin .mul (.v 3) (.ixv 2 (.k (.int 0)))) (.ixv 2 (.k (.int 1)))) (.cons (.ixv 2 (.k (.int 0))) .nil)))))
 .nil)
def valL (jl : Nat) : S := (.for_ (.n 3) (.of (.rev (.v 0))) (valB jl))
def fVal (jl : Nat) : Fn := ⟨2, 4, (.cons (.asg (.n 2) (.v 1))
 (.cons (valL jl)
 (.cons (.retv 2)
 .nil)))⟩
def dO : Option (Int × Int) → D
  | none => .none
  | some p => pr p
def stp (t : Int) : Option (Int × Int) → Int × Int
  | none => (t, 1)
  | some p => (t * p.1 + p.2, p.1)
def valK (ts : List Int) (r : Option (Int × Int)) : Option (Int × Int) := ts.foldr (fun t h => some (stp t h)) r
/-- may be gone on from, by a term -/
def Nice (h : Option (Int × Int)) : Prop := ∀ p, h = some p → 0 < p.1 ∧ Int.gcd p.1 p.2 = 1 ∧ Md p.1 ∧ Md p.2
def okUs : List Int → Option (Int × Int) → Prop
  | [], _ => True
  | u :: us, h => Nice h ∧ Md u ∧ okUs us (some (stp u h))
theorem redP_one {t b : Int} (h : Int.gcd t b = 1) (hb : 0 < b) : redP t b = (t, b) := by
  unfold redP
  rw [if_pos hb, h]
  simp
theorem gcd_stp {t p q : Int} (h : Int.gcd p q = 1) : Int.gcd (t * p + q) p = 1 := by
  rw [Int.gcd_eq_one_iff] at h ⊢
  intro c h1 h2
  refine h c h2 ?_
  have : q = (t * p + q) - t * p := by omega
  rw [this]
  exact Int.dvd_sub h1 (Int.dvd_mul_of_dvd_right h2)
section
variable {P : List Fn} {gl : Gls} {n j jl jp jm jc : Nat}
theorem val_step {h : Option (Int × Int)} {t : Int} {a b : Option Slot} (hl : P[jl]? = some fLow) (hn : Nice h) (ht : Md t) : evSs (cf P gl (n + 1)) (valB jl) [a, b, some (.v (dO h)), some (.v (.int t))] = .nx [a, b, some (.v (dO (some (stp t h)))), some (.v (.int t))] := by
  cases h with
  | none => simp [valB, dO, stp, pr, lim2]
  | some p =>
    obtain ⟨h1, h2, h3, h4⟩ := hn p rfl
    have hb : p.1.natAbs < 2 ^ 250 := by
      have h3 : p.1.natAbs < 2 ^ 120 := h3
      omega
    have lo := low_ok (gl := gl) (n := n) (t := t * p.1 + p.2) (b := p.1) hl (by omega) hb
    rw [redP_one (gcd_stp h2) h1] at lo
    simp [valB, dO, stp, pr_isn, prx0, prx1, md_mul ht h3, lo]
theorem num_step {h : Option (Int × Int)} {t : Int} {a b : Option Slot} (hp : P[jp]? = some (fPlus jm)) (hm : P[jm]? = some (fMade jc)) (hc : P[jc]? = some fCommon) (hn : Nice h) (ht : Md t) : evSs (cf P gl (n + 3)) (numB jp jm) [a, b, some (.v (dO h)), some (.v (.int t))] = .nx [a, b, some (.v (dO (some (stp t h)))), some (.v (.int t))] := by
  cases h with
  | none => simp [numB, dO, stp, pr, lim2]
  | some p =>
    obtain ⟨h1, h2, h3, h4⟩ := hn p rfl
    have hb : p.1.natAbs < 2 ^ 250 := by
      have h3 : p.1.natAbs < 2 ^ 120 := h3
      omega
    have m1 := made_ok (gl := gl) (n := n + 1) (t := p.2) (b := p.1) hm hc (by omega) hb
    rw [redP_one (by rw [Int.gcd_comm]; exact h2) h1] at m1
    have m2 := plus_ok (gl := gl) (n := n) (p := (t, 1)) (q := (p.2, p.1)) hp hm hc ht (show (1 : Int).natAbs < 2 ^ 120 by decide) h4 h3 (by dsimp only; omega) (by dsimp only; omega)
    dsimp only at m2
    rw [Int.mul_one, Int.one_mul, redP_one (gcd_stp h2) h1] at m2
    have pt : PyData.tuple [.int t, .int 1] = pr (t, 1) := rfl
    simp [numB, dO, stp, pr_isn, prx0, prx1, m1, lim2, pt, m2]
def foldU (us : List Int) (h : Option (Int × Int)) : Option (Int × Int) := us.foldl (fun h t => some (stp t h)) h
theorem foldU_rev (ts : List Int) (r : Option (Int × Int)) : foldU ts.reverse r = valK ts r := by
  unfold foldU valK
  rw [List.foldl_reverse]
theorem fold_for {C : Cfg} {B : Ss} {a b : Option Slot} (step : ∀ h t, Nice h → Md t → evSs C B [a, b, some (.v (dO h)), some (.v (.int t))] = .nx [a, b, some (.v (dO (some (stp t h)))), some (.v (.int t))]) :
    ∀ (us : List Int) (h : Option (Int × Int)) (z : Option D), okUs us h → ∃ z' : Option D, forGo (fun x ρ => (putT ρ (.n 3) x).toS fun _ ρ => evSs C B ρ) (us.map PyData.int) [a, b, some (.v (dO h)), z.map Slot.v] = .nx [a, b, some (.v (dO (foldU us h))), z'.map Slot.v]
  | [], h, z, _ => ⟨z, rfl⟩
  | u :: us, h, z, ok => by
    obtain ⟨o1, o2, o3⟩ := ok
    obtain ⟨z', e⟩ := fold_for step us (some (stp u h)) (some (.int u)) o3
    refine ⟨z', ?_⟩
    rw [List.map_cons]
    unfold forGo
    have e1 : ((putT [a, b, some (.v (dO h)), z.map Slot.v] (.n 3) (.int u)).toS fun _ ρ => evSs C B ρ) = .nx [a, b, some (.v (dO (some (stp u h)))), some (.v (.int u))] := by simp [step h u o1 o2]
    rw [e1]
    exact e
theorem val_ok {ts : List Int} {r : Option (Int × Int)} (hP : P[j]? = some (fVal jl)) (hl : P[jl]? = some fLow) (ok : okUs ts.reverse r) : run P gl (n + 2) j [.v (.tuple (ts.map PyData.int)), .v (dO r)] = .ret (.pv (dO (valK ts r))) none := by
  rw [run_succ hP, if_pos ⟨rfl, rfl⟩]
  obtain ⟨z', e⟩ := fold_for (C := (cf P gl (n + 1))) (B := valB jl) (a := some (.v (.tuple (ts.map PyData.int)))) (b := some (.v (dO r))) (fun h t hn ht => val_step hl hn ht) ts.reverse r none ok
  have lp : evS (cf P gl (n + 1)) (valL jl) [some (.v (.tuple (ts.map PyData.int))), some (.v (dO r)), some (.v (dO r)), none] = .nx [some (.v (.tuple (ts.map PyData.int))), some (.v (dO r)), some (.v (dO (valK ts r))), z'.map Slot.v] := by
    unfold valL
    rw [s_for]
    have e1 : evI (cf P gl (n + 1)) (.of (.rev (.v 0))) [some (.v (.tuple (ts.map PyData.int))), some (.v (dO r)), some (.v (dO r)), none] = .ok (ts.reverse.map PyData.int) [some (.v (.tuple (ts.map PyData.int))), some (.v (dO r)), some (.v (dO r)), none] := by simp [revD]
    rw [e1, R.toS_ok, ← foldU_rev]
    exact e
  simp [fVal, lp]
theorem num_ok {ts : List Int} {r : Option (Int × Int)} (hP : P[j]? = some (fNum jp jm)) (hp : P[jp]? = some (fPlus jm)) (hm : P[jm]? = some (fMade jc)) (hc : P[jc]? = some fCommon) (ok : okUs ts.reverse r) : run P gl (n + 4) j [.v (.tuple (ts.map PyData.int)), .v (dO r)] = .ret (.pv (dO (valK ts r))) none := by
  rw [run_succ hP, if_pos ⟨rfl, rfl⟩]
  obtain ⟨z', e⟩ := fold_for (C := (cf P gl (n + 3))) (B := numB jp jm) (a := some (.v (.tuple (ts.map PyData.int)))) (b := some (.v (dO r))) (fun h t hn ht => num_step hp hm hc hn ht) ts.reverse r none ok
  have lp : evS (cf P gl (n + 3)) (numL jp jm) [some (.v (.tuple (ts.map PyData.int))), some (.v (dO r)), some (.v (dO r)), none] = .nx [some (.v (.tuple (ts.map PyData.int))), some (.v (dO r)), some (.v (dO (valK ts r))), z'.map Slot.v] := by
    unfold numL
    rw [s_for]
    have e1 : evI (cf P gl (n + 3)) (.of (.rev (.v 0))) [some (.v (.tuple (ts.map PyData.int))), some (.v (dO r)), some (.v (dO r)), none] = .ok (ts.reverse.map PyData.int) [some (.v (.tuple (ts.map PyData.int))), some (.v (dO r)), some (.v (dO r)), none] := by simp [revD]
    rw [e1, R.toS_ok, ← foldU_rev]
    exact e
  simp [fNum, lp]
end
end Pv

namespace Pv
open PySem
/-! ### numbers of known terms: how great, how they stand -/
def vec : Option (Int × Int) → Int × Int
  | none => (1, 0)
  | some p => p
def valV (ts : List Int) (p : Int × Int) : Int × Int := ts.foldr (fun t h => (t * h.1 + h.2, h.1)) p
theorem valK_eq : ∀ {ts : List Int} (r : Option (Int × Int)), ts ≠ [] → valK ts r = some (valV ts (vec r))
  | [], _, h => absurd rfl h
  | [t], r, _ => by
    cases r with
    | none => show some (t, 1) = some (t * 1 + 0, 1); rw [Int.mul_one, Int.add_zero]
    | some p => rfl
  | t :: u :: ts, r, _ => by
    have ih := valK_eq (ts := u :: ts) r (by simp)
    show some (stp t (valK (u :: ts) r)) = some _
    rw [ih]
    rfl
def bnd : List Int → Nat
  | [] => 1
  | t :: ts => (t.natAbs + 1) * bnd ts
def sgn : List Int → Int
  | [] => 1
  | _ :: ts => -sgn ts
theorem sgn_or : ∀ ts, sgn ts = 1 ∨ sgn ts = -1
  | [] => .inl rfl
  | _ :: ts => by
    show -sgn ts = 1 ∨ -sgn ts = -1
    rcases sgn_or ts with h | h <;> rw [h] <;> simp
/-- the cross product of two numbers of the same terms -/
theorem cross : ∀ (ts : List Int) (x y : Int × Int), (valV ts x).1 * (valV ts y).2 - (valV ts y).1 * (valV ts x).2 = sgn ts * (x.1 * y.2 - y.1 * x.2)
  | [], x, y => by show x.1 * y.2 - y.1 * x.2 = 1 * _; rw [Int.one_mul]
  | t :: ts, x, y => by
    have ih := cross ts x y
    show (t * (valV ts x).1 + (valV ts x).2) * (valV ts y).1 - (t * (valV ts y).1 + (valV ts y).2) * (valV ts x).1 = -sgn ts * (x.1 * y.2 - y.1 * x.2)
    grind
/-- above 0, in lowest terms, at most k -/
structure PosV (k : Nat) (p : Int × Int) : Prop where
  top : 0 < p.1
  bot : 0 ≤ p.2
  gcd : Int.gcd p.1 p.2 = 1
  h1 : p.1.natAbs ≤ k
  h2 : p.2.natAbs ≤ k
theorem stp_bound {t : Int} {p q : Int} {k : Nat} (h1 : p.natAbs ≤ k) (h2 : q.natAbs ≤ k) : (t * p + q).natAbs ≤ (t.natAbs + 1) * k := by
  have e1 := Int.natAbs_add_le (t * p) q
  rw [Int.natAbs_mul] at e1
  have e2 : t.natAbs * p.natAbs ≤ t.natAbs * k := Nat.mul_le_mul_left _ h1
  rw [Nat.add_mul]
  omega
theorem posV_val {k : Nat} {p : Int × Int} (h : PosV k p) : ∀ ts : List Int, (∀ t ∈ ts, 0 < t) → PosV (bnd ts * k) (valV ts p)
  | [], _ => by rw [show bnd [] = 1 from rfl, Nat.one_mul]; exact h
  | t :: ts, ht => by
    have ih := posV_val h ts fun u hu => ht u (List.mem_cons_of_mem _ hu)
    have t0 := ht t List.mem_cons_self
    have hb : bnd (t :: ts) * k = (t.natAbs + 1) * (bnd ts * k) := Nat.mul_assoc _ _ _
    have i1 := ih.top
    have i2 := ih.bot
    refine ⟨?_, ?_, gcd_stp ih.gcd, ?_, ?_⟩
    · show 0 < t * (valV ts p).1 + (valV ts p).2
      have : 0 < t * (valV ts p).1 := Int.mul_pos t0 i1
      omega
    · show 0 ≤ (valV ts p).1
      omega
    · rw [hb]; exact stp_bound ih.h1 ih.h2
    · rw [hb]
      show (valV ts p).1.natAbs ≤ _
      have := ih.h1
      exact Nat.le_trans this (Nat.le_mul_of_pos_left _ (by omega))
/-- what a rest is: none, or a ratio of at least 1 -/
def RestOk (k : Nat) (r : Option (Int × Int)) : Prop := 1 ≤ k ∧ ∀ p, r = some p → 0 < p.2 ∧ p.2 ≤ p.1 ∧ Int.gcd p.1 p.2 = 1 ∧ p.1.natAbs ≤ k
theorem RestOk.pos {k : Nat} {r : Option (Int × Int)} (h : RestOk k r) : PosV k (vec r) := by
  cases r with
  | none => exact ⟨by decide, by decide, by decide, h.1, Nat.zero_le _⟩
  | some p =>
    obtain ⟨h1, h2, h3, h4⟩ := h.2 p rfl
    exact ⟨by show 0 < p.1; omega, by show 0 ≤ p.2; omega, h3, h4, by show p.2.natAbs ≤ k; omega⟩
theorem RestOk.mono {k l : Nat} {r : Option (Int × Int)} (h : RestOk k r) (hl : k ≤ l) : RestOk l r := ⟨by have := h.1; omega, fun p e => by obtain ⟨h1, h2, h3, h4⟩ := h.2 p e; exact ⟨h1, h2, h3, by omega⟩⟩
theorem restNone {k : Nat} (h : 1 ≤ k) : RestOk k none := ⟨h, fun _ e => nomatch e⟩
theorem restOne {k : Nat} (h : 1 ≤ k) : RestOk k (some (1, 1)) := ⟨h, fun p e => by cases e; exact ⟨by decide, by decide, by decide, h⟩⟩
/-- known terms -/
structure Kn (ts : List Int) : Prop where
  ne : ts ≠ []
  len : ts.length ≤ 20
  tail : ∀ t ∈ ts.tail, 0 < t
  each : ∀ t ∈ ts, t.natAbs < 1000000
theorem okUs_snoc {u : Int} : ∀ {us : List Int} {h : Option (Int × Int)}, okUs us h → Nice (foldU us h) → Md u → okUs (us ++ [u]) h
  | [], h, _, h2, h3 => ⟨h2, h3, trivial⟩
  | v :: us, h, h1, h2, h3 => ⟨h1.1, h1.2.1, okUs_snoc (us := us) h1.2.2 h2 h3⟩
theorem bnd_pos : ∀ ts, 0 < bnd ts
  | [] => Nat.one_pos
  | t :: ts => Nat.mul_pos (by omega) (bnd_pos ts)
theorem md_small {i : Int} (h : i.natAbs < 1000000) : Md i := Nat.lt_trans h (by decide)
theorem nice_val {k : Nat} {r : Option (Int × Int)} {ts : List Int} (h : RestOk k r) (ht : ∀ t ∈ ts, 0 < t) (hb : bnd ts * k < 2 ^ 120) : Nice (valK ts r) := by
  intro p hp
  by_cases e : ts = []
  · subst e
    have hp : r = some p := hp
    obtain ⟨h1, h2, h3, h4⟩ := h.2 p hp
    have hb : 1 * k < 2 ^ 120 := hb
    refine ⟨by omega, h3, ?_, ?_⟩ <;> unfold Md <;> omega
  · rw [valK_eq r e] at hp
    cases hp
    have q := posV_val h.pos ts ht
    exact ⟨q.top, q.gcd, Nat.lt_of_le_of_lt q.h1 hb, Nat.lt_of_le_of_lt q.h2 hb⟩
theorem okUs_pos {k : Nat} {r : Option (Int × Int)} (h : RestOk k r) : ∀ (ts : List Int), (∀ t ∈ ts.tail, 0 < t) → (∀ t ∈ ts, t.natAbs < 1000000) → bnd ts * k < 2 ^ 120 → okUs ts.reverse r
  | [], _, _, _ => trivial
  | t :: ts, ht, hs, hb => by
    have hb2 : bnd ts * k < 2 ^ 120 := by
      refine Nat.lt_of_le_of_lt ?_ hb
      show bnd ts * k ≤ (t.natAbs + 1) * bnd ts * k
      rw [Nat.mul_assoc]
      exact Nat.le_mul_of_pos_left _ (by omega)
    rw [List.reverse_cons]
    refine okUs_snoc (okUs_pos h ts (fun u hu => ht u (List.mem_of_mem_tail hu)) (fun u hu => hs u (List.mem_cons_of_mem _ hu)) hb2) ?_ (md_small (hs t List.mem_cons_self))
    rw [foldU_rev]
    exact nice_val h ht hb2
theorem Kn.ok {k : Nat} {r : Option (Int × Int)} {ts : List Int} (kn : Kn ts) (h : RestOk k r) (hb : bnd ts * k < 2 ^ 120) : okUs ts.reverse r := okUs_pos h ts kn.tail kn.each hb
/-- the number: a ratio in lowest terms -/
structure RatV (k : Nat) (p : Int × Int) : Prop where
  bot : 0 < p.2
  gcd : Int.gcd p.1 p.2 = 1
  h1 : p.1.natAbs ≤ k
  h2 : p.2.natAbs ≤ k
theorem Kn.rat {k : Nat} {r : Option (Int × Int)} {ts : List Int} (kn : Kn ts) (h : RestOk k r) : RatV (bnd ts * k) (valV ts (vec r)) := by
  cases ts with
  | nil => exact absurd rfl kn.ne
  | cons t ts =>
    have q := posV_val h.pos ts kn.tail
    have hb : bnd (t :: ts) * k = (t.natAbs + 1) * (bnd ts * k) := Nat.mul_assoc _ _ _
    refine ⟨q.top, gcd_stp q.gcd, ?_, ?_⟩
    · rw [hb]; exact stp_bound q.h1 q.h2
    · rw [hb]
      exact Nat.le_trans q.h1 (Nat.le_mul_of_pos_left _ (by omega))
def lessP (p q : Int × Int) : Prop := p.1 * q.2 < q.1 * p.2
instance (p q : Int × Int) : Decidable (lessP p q) := inferInstanceAs (Decidable (_ < _))
/-- the ends, the lesser first -/
def roomV (ts : List Int) : (Int × Int) × (Int × Int) := if lessP (valV ts (1, 1)) (valV ts (1, 0)) then (valV ts (1, 1), valV ts (1, 0)) else (valV ts (1, 0), valV ts (1, 1))
theorem ends_cross (ts : List Int) : (valV ts (1, 1)).1 * (valV ts (1, 0)).2 - (valV ts (1, 0)).1 * (valV ts (1, 1)).2 = -sgn ts := by
  rw [cross]
  show sgn ts * (1 * 0 - 1 * 1) = _
  omega
theorem ends_one (ts : List Int) : lessP (valV ts (1, 0)) (valV ts (1, 1)) ↔ ¬ lessP (valV ts (1, 1)) (valV ts (1, 0)) := by
  have h := ends_cross ts
  have := sgn_or ts
  unfold lessP
  omega
/-- a number of the same terms lies in the room -/
theorem in_room (ts : List Int) {x : Int × Int} (h0 : 0 ≤ x.2) (h1 : x.2 ≤ x.1) : ¬ lessP (valV ts x) (roomV ts).1 ∧ ¬ lessP (roomV ts).2 (valV ts x) := by
  have c1 := cross ts x (1, 0)
  have c2 := cross ts x (1, 1)
  have h := ends_cross ts
  dsimp only at c1 c2
  rcases sgn_or ts with s | s
  · rw [s] at c1 c2 h
    have l : lessP (valV ts (1, 1)) (valV ts (1, 0)) := by unfold lessP; omega
    unfold roomV
    rw [if_pos l]
    unfold lessP
    dsimp only
    omega
  · rw [s] at c1 c2 h
    have l : ¬ lessP (valV ts (1, 1)) (valV ts (1, 0)) := by unfold lessP; omega
    unfold roomV
    rw [if_neg l]
    unfold lessP
    dsimp only
    omega
end Pv

namespace Pv
open PySem
/-! ### the defs over known terms -/
def fAreKnown (ja g1 g2 : Nat) : Fn := ⟨1, 2, (.cons (.ite (.or (.not (.e (.call ja (.cons (.v 0) (.cons (.k (.int 1)) (.cons (.g g1) .nil)))))) (.not (.e (.b1 .all (.lc (.cmp .lt (.b1 .abs (.v 1)) (.g g2)) (.n 1) (.of (.v 0)) .yes)))))
 (.cons (.ret (.k (.bool false)))
 .nil)
 .nil)
 (.cons (.ret (.b1 .all (.lc (.cmp .gt (.v 1) (.k (.int 0))) (.n 1) (.of (.slv 0 (.k (.int 1)) .nop)) .yes)))
 .nil))⟩
def fIsRest (jr : Nat) : Fn := ⟨1, 1, (.cons (.ret (.or (.cmp .is (.v 0) (.k .none)) (.and (.call jr (.cons (.v 0) .nil)) (.cmp .ge (.ixv 0 (.k (.int 0))) (.ixv 0 (.k (.int 1)))))))
 .nil)⟩
def fNumBy (jk jr jn x : Nat) : Fn := ⟨2, 2, (.cons (.expr (.call jk (.cons (.v 0) .nil)))
 (.cons (.ite (.not (.e (.call jr (.cons (.v 1) .nil))))
 (.cons (.raise x)
 .nil)
 .nil)
 (.cons (.ret (.call jn (.cons (.v 0) (.cons (.v 1) .nil))))
 .nil)))⟩
def fEnds (jn : Nat) : Fn := ⟨1, 1, (.cons (.ret (.tup (.cons (.call jn (.cons (.v 0) (.cons (.k .none) .nil))) (.cons (.call jn (.cons (.v 0) (.cons (.tup (.cons (.k (.int 1)) (.cons (.k (.int 1)) .nil))) .nil))) .nil))))
 .nil)⟩
def fRoomOf (je jl : Nat) : Fn := ⟨1, 3, (.cons (.asg (.t [1, 2]) (.call je (.cons (.v 0) .nil)))
 (.cons (.ret (.ife (.e (.call jl (.cons (.v 2) (.cons (.v 1) .nil)))) (.tup (.cons (.v 2) (.cons (.v 1) .nil))) (.tup (.cons (.v 1) (.cons (.v 2) .nil)))))
 .nil))⟩
def fLawRoom (jv jl : Nat) : Fn := ⟨1, 3, (.cons (.par [1, 2] (.cons (.call jv (.cons (.v 0) (.cons (.k .none) .nil))) (.cons (.call jv (.cons (.v 0) (.cons (.tup (.cons (.k (.int 1)) (.cons (.k (.int 1)) .nil))) .nil))) .nil)))
 (.cons (.ret (.ife (.e (.call jl (.cons (.v 1) (.cons (.v 2) .nil)))) (.tup (.cons (.v 1) (.cons (.v 2) .nil))) (.tup (.cons (.v 2) (.cons (.v 1) .nil)))))
 .nil))⟩
def knB (js : Nat) : Ss := (.cons (.app 1 (.bin .add (.k (.int 1)) (.cio js 0 (.cons (.lst (.cons (.k (.int 0)) (.cons (.k (.int 0)) (.cons (.k (.int 1)) (.cons (.k (.int 2)) (.cons (.k (.int 3)) (.cons (.k (.int 9)) (.cons (.k (.int 100)) .nil)))))))) .nil))))
 .nil)
def knL (jd js : Nat) : S := (.for_ (.n 2) (.rng (.cons (.cio jd 0 (.cons (.k (.int 5)) .nil)) .nil)) (knB js))
def fLawKnown (jd js : Nat) : Fn := ⟨1, 3, (.cons (.asg (.n 1) (.lst (.cons (.bin .sub (.cio jd 0 (.cons (.k (.int 12)) .nil)) (.k (.int 4))) .nil)))
 (.cons (knL jd js)
 (.cons (.ret (.b1 .tuple (.v 1)))
 .nil)))⟩
def fLawRest (jd jl : Nat) : Fn := ⟨1, 2, (.cons (.ite (.e (.cmp .eq (.cio jd 0 (.cons (.k (.int 4)) .nil)) (.k (.int 0))))
 (.cons (.ret (.k .none))
 .nil)
 .nil)
 (.cons (.asg (.n 1) (.bin .add (.k (.int 1)) (.cio jd 0 (.cons (.k (.int 9)) .nil))))
 (.cons (.ret (.call jl (.cons (.bin .add (.v 1) (.cio jd 0 (.cons (.k (.int 30)) .nil))) (.cons (.v 1) .nil))))
 .nil)))⟩
abbrev tuI (ts : List Int) : D := .tuple (ts.map PyData.int)
theorem cut_tail (xs : List D) : cut xs (some 1) none = xs.tail := by
  unfold cut
  rw [HT.sIx_none, show (1 : Int) = ((1 : Nat) : Int) from rfl, HT.sIx_nat]
  cases xs with
  | nil => rfl
  | cons x xs =>
    have : min 1 (x :: xs).length = 1 := by simp
    rw [this]
    simp
section
variable {P : List Fn} {gl : Gls} {n j ji js jc jr jm jd jp ja jk jn je jl jv jf g g1 g2 x : Nat}
theorem replT (xs : List D) : xs.map (fun _ => PyData.bool true) = List.replicate xs.length (.bool true) := by
  induction xs with
  | nil => rfl
  | cons x r ih => rw [List.map_cons, ih]; rfl
@[simp high] theorem allR (k : Nat) : bltD .all [.list (List.replicate k (.bool true))] = some (.bool true) := by
  have e : boolsOf (List.replicate k (.bool true)) = some (List.replicate k true) := by
    induction k with
    | zero => rfl
    | succ k ih => simp [List.replicate_succ, ih]
  rw [bl_all, e]
  simp
/-- a comprehension over ints, each told true -/
theorem lc_ints {C : Cfg} {e : E} {i : Nat} {it : It} {ρ : Env} {ns : List Int} (hi : i < ρ.length) (hp : plainAt ρ [i] = true) (hit : evI C it ρ = .ok (ns.map PyData.int) ρ) (hl : ns.length ≤ LIM)
    (he : ∀ k ∈ ns, evE C e (ρ.set i (some (.v (.int k)))) = .ok (.pv (.bool true)) (ρ.set i (some (.v (.int k))))) : evE C (.lc e (.n i) it .yes) ρ = .ok (.fr (List.replicate ns.length (.bool true))) ρ := by
  rw [e_lc, hit, R.bind_ok, lcGo_n (g := fun _ => .bool true) hi hp ?_, replT]
  · simp [hl]
  · intro y hy
    obtain ⟨k, hk, rfl⟩ := List.mem_map.mp hy
    simp [he k hk]
theorem areKnown_ok {ts : List Int} (hP : P[j]? = some (fAreKnown ja g1 g2)) (hA : P[ja]? = some (fAreInts ji js)) (hI : P[ji]? = some fIsInt) (hS : P[js]? = some fSized) (hg1 : gl g1 = some (.int 20)) (hg2 : gl g2 = some (.int 1000000000000)) (kn : Kn ts) : run P gl (n + 3) j [.v (tuI ts)] = .ret (.pv (.bool true)) none := by
  rw [run_succ hP, if_pos ⟨rfl, rfl⟩]
  have hl : ts.length ≤ LIM := Nat.le_trans kn.len (by decide)
  have hpos : 0 < ts.length := List.length_pos_iff.mpr kn.ne
  have a1 := areInts_ok (gl := gl) (n := n) hA hI hS (ns := ts) (lo := 1) (hi := 20) (by omega) (by have := kn.len; omega) hl
  have l1 : evE (cf P gl (n + 2)) (.lc (.cmp .lt (.b1 .abs (.v 1)) (.g g2)) (.n 1) (.of (.v 0)) .yes) [some (.v (tuI ts)), none] = .ok (.fr (List.replicate ts.length (.bool true))) [some (.v (tuI ts)), none] := by
    refine lc_ints (by simp) rfl (by simp) hl fun k hk => ?_
    have := kn.each k hk
    simp [hg2, abs_nat]
    omega
  have l2 : evE (cf P gl (n + 2)) (.lc (.cmp .gt (.v 1) (.k (.int 0))) (.n 1) (.of (.slv 0 (.k (.int 1)) .nop)) .yes) [some (.v (tuI ts)), none] = .ok (.fr (List.replicate ts.tail.length (.bool true))) [some (.v (tuI ts)), none] := by
    refine lc_ints (by simp) rfl (by simp [partR, partO, isNop, slD, cut_tail, List.map_tail]) (by rw [List.length_tail]; omega) fun k hk => ?_
    have := kn.tail k hk
    simp [this]
  rw [List.length_tail] at l2
  simp [fAreKnown, hg1, a1, l1, l2]
theorem isRest_ok {k : Nat} {r : Option (Int × Int)} (hP : P[j]? = some (fIsRest jr)) (hr : P[jr]? = some (fIsRatio ji js jc g)) (hI : P[ji]? = some fIsInt) (hS : P[js]? = some fSized) (hc : P[jc]? = some fCommon) (hg : gl g = some (.int 10000000000000000000000000000000000000000)) (h : RestOk k r) (hk : k < 10 ^ 40) : run P gl (n + 3) j [.v (dO r)] = .ret (.pv (.bool true)) none := by
  rw [run_succ hP, if_pos ⟨rfl, rfl⟩]
  cases r with
  | none => simp [fIsRest, dO]
  | some p =>
    obtain ⟨h1, h2, h3, h4⟩ := h.2 p rfl
    have ra := isRatio_ok (gl := gl) (n := n) hr hI hS hc hg (p := p) (by omega) h1 (by omega) h3
    simp [fIsRest, dO, pr_isn, ra, prx0, prx1, h2]
theorem numBy_ok {k : Nat} {ts : List Int} {r : Option (Int × Int)} (hP : P[j]? = some (fNumBy jf jr jn x)) (hk : run P gl (n + 4) jf [.v (tuI ts)] = .ret (.pv .none) none) (hr : run P gl (n + 4) jr [.v (dO r)] = .ret (.pv (.bool true)) none) (hn : run P gl (n + 4) jn [.v (tuI ts), .v (dO r)] = .ret (.pv (dO (valK ts r))) none) : run P gl (n + 5) j [.v (tuI ts), .v (dO r)] = .ret (.pv (dO (valK ts r))) none := by
  rw [run_succ hP, if_pos ⟨rfl, rfl⟩]
  simp [fNumBy, hk, hr, hn]
theorem pr11 : PyData.tuple [.int 1, .int 1] = dO (some (1, 1)) := rfl
theorem none_dO : PyData.none = dO none := rfl
/-- what both rooms lean on -/
structure Small (p : Int × Int) : Prop where
  h1 : Md p.1
  h2 : Md p.2
theorem RatV.small {k : Nat} {p : Int × Int} (h : RatV k p) (hk : k < 2 ^ 120) : Small p := ⟨Nat.lt_of_le_of_lt h.h1 hk, Nat.lt_of_le_of_lt h.h2 hk⟩
theorem roomOf_ok {ts : List Int} (hP : P[j]? = some (fRoomOf je jl)) (hE : P[je]? = some (fEnds jn)) (hl : P[jl]? = some fLess) (hN : P[jn]? = some (fNum jp jm)) (hp : P[jp]? = some (fPlus jm)) (hm : P[jm]? = some (fMade jc)) (hc : P[jc]? = some fCommon) (kn : Kn ts) (hb : bnd ts < 2 ^ 120) : run P gl (n + 6) j [.v (tuI ts)] = .ret (.pv (.tuple [pr (roomV ts).1, pr (roomV ts).2])) none := by
  rw [run_succ hP, if_pos ⟨rfl, rfl⟩]
  have hb1 : bnd ts * 1 < 2 ^ 120 := by omega
  have n1 := num_ok (gl := gl) (n := n) hN hp hm hc (kn.ok (restNone (Nat.le_refl 1)) hb1)
  have n2 := num_ok (gl := gl) (n := n) hN hp hm hc (kn.ok (restOne (Nat.le_refl 1)) hb1)
  rw [valK_eq _ kn.ne] at n1 n2
  have n1 : run P gl _ _ [.v (tuI ts), .v .none] = .ret (.pv (pr (valV ts (1, 0)))) none := n1
  have n2 : run P gl _ _ [.v (tuI ts), .v (.tuple [.int 1, .int 1])] = .ret (.pv (pr (valV ts (1, 1)))) none := n2
  have s1 := (kn.rat (restNone (Nat.le_refl 1))).small hb1
  have s2 := (kn.rat (restOne (Nat.le_refl 1))).small hb1
  have en : run P gl (n + 5) je [.v (tuI ts)] = .ret (.pv (.tuple [pr (valV ts (1, 0)), pr (valV ts (1, 1))])) none := by
    rw [run_succ hE, if_pos ⟨rfl, rfl⟩]
    simp [fEnds, n1, n2, lim2]
  have le := less_ok (gl := gl) (n := n + 4) (p := valV ts (1, 1)) (q := valV ts (1, 0)) hl s2.h1 s2.h2 s1.h1 s1.h2
  by_cases h : lessP (valV ts (1, 1)) (valV ts (1, 0))
  · unfold roomV
    rw [if_pos h]
    have h : (valV ts (1, 1)).1 * (valV ts (1, 0)).2 < (valV ts (1, 0)).1 * (valV ts (1, 1)).2 := h
    simp only [h, decide_true] at le
    simp [fRoomOf, en, le, lim2]
  · unfold roomV
    rw [if_neg h]
    have h : ¬ (valV ts (1, 1)).1 * (valV ts (1, 0)).2 < (valV ts (1, 0)).1 * (valV ts (1, 1)).2 := h
    simp only [h, decide_false] at le
    simp [fRoomOf, en, le, lim2]
theorem lawRoom_ok {ts : List Int} {jw : Nat} (hP : P[j]? = some (fLawRoom jv jl)) (hl : P[jl]? = some fLess) (hV : P[jv]? = some (fVal jw)) (hw : P[jw]? = some fLow) (kn : Kn ts) (hb : bnd ts < 2 ^ 120) : run P gl (n + 3) j [.v (tuI ts)] = .ret (.pv (.tuple [pr (roomV ts).1, pr (roomV ts).2])) none := by
  rw [run_succ hP, if_pos ⟨rfl, rfl⟩]
  have hb1 : bnd ts * 1 < 2 ^ 120 := by omega
  have n1 := val_ok (gl := gl) (n := n) hV hw (kn.ok (restNone (Nat.le_refl 1)) hb1)
  have n2 := val_ok (gl := gl) (n := n) hV hw (kn.ok (restOne (Nat.le_refl 1)) hb1)
  rw [valK_eq _ kn.ne] at n1 n2
  have n1 : run P gl _ _ [.v (tuI ts), .v .none] = .ret (.pv (pr (valV ts (1, 0)))) none := n1
  have n2 : run P gl _ _ [.v (tuI ts), .v (.tuple [.int 1, .int 1])] = .ret (.pv (pr (valV ts (1, 1)))) none := n2
  have s1 := (kn.rat (restNone (Nat.le_refl 1))).small hb1
  have s2 := (kn.rat (restOne (Nat.le_refl 1))).small hb1
  have le := less_ok (gl := gl) (n := n + 1) (p := valV ts (1, 0)) (q := valV ts (1, 1)) hl s1.h1 s1.h2 s2.h1 s2.h2
  have one := ends_one ts
  by_cases h : lessP (valV ts (1, 1)) (valV ts (1, 0))
  · unfold roomV
    rw [if_pos h]
    have h : ¬ (valV ts (1, 0)).1 * (valV ts (1, 1)).2 < (valV ts (1, 1)).1 * (valV ts (1, 0)).2 := fun z => one.mp z h
    simp only [h, decide_false] at le
    simp [fLawRoom, n1, n2, le, lim2]
  · unfold roomV
    rw [if_neg h]
    have h : (valV ts (1, 0)).1 * (valV ts (1, 1)).2 < (valV ts (1, 1)).1 * (valV ts (1, 0)).2 := one.mpr h
    simp only [h, decide_true] at le
    simp [fLawRoom, n1, n2, le, lim2]
end
end Pv

namespace Pv
open PySem
/-! ### drawn known terms, drawn rests -/
theorem addX_own {ρ : Env} {i : Nat} {xs : List D} {d : D} (h : ρ[i]? = some (some (.own xs))) (hl : xs.length < LIM) : addX ρ i d = .nx (ρ.set i (some (.own (xs ++ [d])))) := by
  unfold addX
  rw [h]
  exact if_pos hl
theorem bnd_le {T : Nat} : ∀ {ts : List Int}, (∀ t ∈ ts, t.natAbs ≤ T) → bnd ts ≤ (T + 1) ^ ts.length
  | [], _ => Nat.le_refl _
  | t :: ts, h => by
    have ih := bnd_le (ts := ts) fun u hu => h u (List.mem_cons_of_mem _ hu)
    have h0 := h t List.mem_cons_self
    show (t.natAbs + 1) * bnd ts ≤ (T + 1) ^ (ts.length + 1)
    rw [Nat.pow_succ, Nat.mul_comm]
    exact Nat.mul_le_mul ih (by omega)
theorem redP_pos {t b : Int} (hb : 0 < b) : redP t b = (t / Int.gcd t b, b / Int.gcd t b) := if_pos hb
theorem redP_rat {t b : Int} {k : Nat} (hb : 0 < b) (h1 : t.natAbs ≤ k) (h2 : b.natAbs ≤ k) : RatV k (redP t b) := by
  have g : 0 < Int.gcd t b := Int.gcd_pos_of_ne_zero_right _ (by omega)
  rw [redP_pos hb]
  exact ⟨Int.ediv_pos_of_pos_of_dvd (by omega) (by omega) (Int.gcd_dvd_right ..), Int.gcd_ediv_gcd_ediv_gcd g, Nat.le_trans (Int.natAbs_ediv_le_natAbs _ _) h1, Nat.le_trans (Int.natAbs_ediv_le_natAbs _ _) h2⟩
def seven : List D := [.int 0, .int 0, .int 1, .int 2, .int 3, .int 9, .int 100]
theorem of_seven {d : D} (h : d ∈ seven) : ∃ k : Int, d = .int k ∧ 0 ≤ k ∧ k ≤ 100 := by
  unfold seven at h
  simp only [List.mem_cons, List.not_mem_nil, or_false] at h
  rcases h with rfl | rfl | rfl | rfl | rfl | rfl | rfl <;> exact ⟨_, rfl, by decide, by decide⟩
/-- drawn known terms -/
structure KnD (ts : List Int) : Prop where
  kn : Kn ts
  len : ts.length ≤ 5
  each : ∀ t ∈ ts, t.natAbs ≤ 101
theorem KnD.bnd {ts : List Int} (h : KnD ts) : bnd ts ≤ 102 ^ 5 := Nat.le_trans (bnd_le h.each) (Nat.pow_le_pow_right (by decide) h.len)
section
variable {P : List Fn} {gl : Gls} {n j jd js jl : Nat}
theorem lawKnown_ok {xs : List D} {c : Nat} (hP : P[j]? = some (fLawKnown jd js)) (hd : P[jd]? = some fDraw) (hs : P[js]? = some (fSome jd)) (H : HandOk c xs) (hc : c < 1000000) : ∃ (ts : List Int) (ys : List D), run P gl (n + 3) j [.io xs] = .ret (.pv (tuI ts)) (some (.io ys)) ∧ HandOk (c + 10) ys ∧ KnD ts := by
  obtain ⟨r1, x1, e1, H1, a1, a2⟩ := draw_ok (P := P) (gl := gl) (j := jd) (n := n + 1) (many := 12) hd H (by decide) (by decide) (by omega)
  obtain ⟨r2, x2, e2, H2, b1, b2⟩ := draw_ok (P := P) (gl := gl) (j := jd) (n := n + 1) (many := 5) hd H1 (by decide) (by decide) (by omega)
  obtain ⟨q, rq⟩ : ∃ q : Nat, r2 = q := ⟨r2.natAbs, by omega⟩
  subst rq
  have c1 := fun rest => cio_k0 (C := (cf P gl (n + 2))) (j := jd) (k := 12) (rest := rest) e1
  have c2 := fun rest => cio_k0 (C := (cf P gl (n + 2))) (j := jd) (k := 5) (rest := rest) e2
  have lp : ∃ (ys : List D) (us : List Int) (z : Option D), evS (cf P gl (n + 2)) (knL jd js) [some (.io x1), some (.own [.int (r1 - 4)]), none] = .nx [some (.io ys), some (.own (((r1 - 4) :: us).map PyData.int)), z.map Slot.v] ∧ HandOk (c + 2 + q) ys ∧ us.length = q ∧ ∀ u ∈ us, 0 < u ∧ u ≤ 101 := by
    unfold knL
    rw [s_for]
    have e3 : evI (cf P gl (n + 2)) (.rng (.cons (.cio jd 0 (.cons (.k (.int 5)) .nil)) .nil)) [some (.io x1), some (.own [.int (r1 - 4)]), none] = .ok (rangeD 0 q 1) [some (.io x2), some (.own [.int (r1 - 4)]), none] :=
      i_rngA (ds := [.int (q : Int)]) (by simp [c2]) (rngOfA (k := (q : Int)) (by omega))
    rw [e3, R.toS_ok]
    obtain ⟨ρ', f1, ys, us, z, f2, f3, f4, f5⟩ := forGo_inv (f := fun x ρ => (putT ρ (.n 2) x).toS fun _ ρ => evSs (cf P gl (n + 2)) (knB js) ρ) (ds := rangeD 0 q 1) (ρ := [some (.io x2), some (.own [.int (r1 - 4)]), none])
      (fun i ρ => ∃ (ys : List D) (us : List Int) (z : Option D), ρ = [some (.io ys), some (.own (((r1 - 4) :: us).map PyData.int)), z.map Slot.v] ∧ HandOk (c + 2 + i) ys ∧ us.length = i ∧ ∀ u ∈ us, 0 < u ∧ u ≤ 101) ⟨x2, [], none, rfl, H2, rfl, fun u hu => nomatch hu⟩ (by
        rintro i d ρ hd' ⟨ys, us, z, rfl, G1, G2, G3⟩
        have hi : i < q := by
          have := (List.getElem?_eq_some_iff.mp hd').1
          rwa [rangeD_len] at this
        obtain ⟨d2, ws, k1, k2, k3⟩ := some_ok (gl := gl) (n := n) (ds := seven) hs hd G1 (by decide) (by decide) (by omega)
        obtain ⟨k, rfl, k4, k5⟩ := of_seven k3
        refine ⟨_, ?_, ws, us ++ [1 + k], some d, rfl, k2, by simp [G2], fun u hu => ?_⟩
        · have ev : ∀ (f : List D), evE (cf P gl (n + 2)) (.cio js 0 (.cons (.lst (.cons (.k (.int 0)) (.cons (.k (.int 0)) (.cons (.k (.int 1)) (.cons (.k (.int 2)) (.cons (.k (.int 3)) (.cons (.k (.int 9)) (.cons (.k (.int 100)) .nil)))))))) .nil)) [some (.io ys), some (.own f), some (.v d)] = .ok (.pv (.int k)) [some (.io ws), some (.own f), some (.v d)] := fun f =>
            ecio_io (xs := ys) (xs' := ys) (ds := [.list seven]) (ρ' := [some (.io ys), some (.own f), some (.v d)]) rfl (by
              have : (7 : Nat) ≤ LIM := by decide
              simp [this, seven]) rfl k1
          have ad : ∀ y : D, addX [some (.io ws), some (.own (PyData.int (r1 - 4) :: us.map PyData.int)), some (.v d)] 1 y = .nx [some (.io ws), some (.own ((PyData.int (r1 - 4) :: us.map PyData.int) ++ [y])), some (.v d)] := fun y => addX_own rfl (by
            have : LIM = 1000000 := rfl
            simp
            omega)
          simp [knB, ev, ad]
        · rcases List.mem_append.mp hu with hu | hu
          · exact G3 u hu
          · have : u = 1 + k := by simpa using hu
            omega)
    rw [rangeD_len] at f3 f4
    exact ⟨ys, us, z, by rw [f1, f2], f3, f4, f5⟩
  obtain ⟨ys, us, z, f1, f2, f3, f4⟩ := lp
  refine ⟨(r1 - 4) :: us, ys, ?_, f2.mono (by omega), ⟨⟨by simp, by simp; omega, fun t ht => (f4 t ht).1, ?_⟩, by simp; omega, ?_⟩⟩
  · rw [run_succ hP, if_pos ⟨rfl, rfl⟩]
    have h1 : (1 : Nat) ≤ LIM := by decide
    simp at f1
    simp [fLawKnown, c1, h1, f1]
  · intro t ht
    rcases List.mem_cons.mp ht with rfl | ht
    · omega
    · have := f4 t ht
      omega
  · intro t ht
    rcases List.mem_cons.mp ht with rfl | ht
    · omega
    · have := f4 t ht
      omega
theorem lawRest_ok {xs : List D} {c : Nat} (hP : P[j]? = some (fLawRest jd jl)) (hd : P[jd]? = some fDraw) (hl : P[jl]? = some fLow) (H : HandOk c xs) (hc : c < 1000000) : ∃ (r : Option (Int × Int)) (ys : List D), run P gl (n + 2) j [.io xs] = .ret (.pv (dO r)) (some (.io ys)) ∧ HandOk (c + 3) ys ∧ RestOk 40 r := by
  obtain ⟨r1, x1, e1, H1, a1, a2⟩ := draw_ok (P := P) (gl := gl) (j := jd) (n := n) (many := 4) hd H (by decide) (by decide) (by omega)
  obtain ⟨r2, x2, e2, H2, b1, b2⟩ := draw_ok (P := P) (gl := gl) (j := jd) (n := n) (many := 9) hd H1 (by decide) (by decide) (by omega)
  obtain ⟨r3, x3, e3, H3, d1, d2⟩ := draw_ok (P := P) (gl := gl) (j := jd) (n := n) (many := 30) hd H2 (by decide) (by decide) (by omega)
  have c1 := fun rest => cio_k0 (C := (cf P gl (n + 1))) (j := jd) (k := 4) (rest := rest) e1
  have c2 := fun rest => cio_k0 (C := (cf P gl (n + 1))) (j := jd) (k := 9) (rest := rest) e2
  have c3 := fun rest => cio_k0 (C := (cf P gl (n + 1))) (j := jd) (k := 30) (rest := rest) e3
  by_cases h : r1 = 0
  · refine ⟨none, x1, ?_, H1.mono (by omega), restNone (by decide)⟩
    rw [run_succ hP, if_pos ⟨rfl, rfl⟩]
    subst h
    simp [fLawRest, c1, dO]
  · have lo := low_ok (gl := gl) (n := n) (t := 1 + r2 + r3) (b := 1 + r2) hl (by omega) (by omega)
    have ra := redP_rat (t := 1 + r2 + r3) (b := 1 + r2) (k := 40) (by omega) (by omega) (by omega)
    refine ⟨some (redP (1 + r2 + r3) (1 + r2)), x3, ?_, H3, ⟨by decide, fun p hp => ?_⟩⟩
    · rw [run_succ hP, if_pos ⟨rfl, rfl⟩]
      simp [fLawRest, c1, h, c2, c3, lo, dO]
    · cases hp
      refine ⟨ra.bot, ?_, ra.gcd, ra.h1⟩
      rw [redP_pos (by omega)]
      exact Int.ediv_le_ediv (by have : 0 < Int.gcd (1 + r2 + r3) (1 + r2) := Int.gcd_pos_of_ne_zero_right _ (by omega)
                                 omega) (by omega)
end
end Pv

namespace Pv
open PySem
/-! ### maps of ratios: the plain side -/
structure M4 where
  a : Int
  b : Int
  c : Int
  d : Int
def t4 (m : M4) : D := .tuple [.int m.a, .int m.b, .int m.c, .int m.d]
def M4.top (m : M4) (x : Int × Int) : Int := m.a * x.1 + m.b * x.2
def M4.bot (m : M4) (x : Int × Int) : Int := m.c * x.1 + m.d * x.2
def M4.det (m : M4) : Int := m.a * m.d - m.b * m.c
def mapO (m : M4) (x : Int × Int) : Option (Int × Int) := if m.bot x = 0 then none else some (redP (m.top x) (m.bot x))
def poleR (m : M4) : Int × Int := redP (0 - m.d) m.c
def overO (m : M4) (lo hi : Int × Int) : Option (Int × Int) := if m.c = 0 then none else if lessP (poleR m) lo ∨ lessP hi (poleR m) then none else some (poleR m)
theorem red_mul {t b : Int} (hb : b ≠ 0) : ∃ s g : Int, 0 < g ∧ (s = 1 ∨ s = -1) ∧ 0 < s * b ∧ t = s * g * (redP t b).1 ∧ b = s * g * (redP t b).2 ∧ 0 < (redP t b).2 := by
  have hg : 0 < Int.gcd t b := Int.gcd_pos_of_ne_zero_right _ hb
  obtain ⟨g, eg⟩ : ∃ g : Int, g = Int.gcd t b := ⟨_, rfl⟩
  have e1 : g * (t / g) = t := by rw [eg]; exact Int.mul_ediv_cancel' (Int.gcd_dvd_left ..)
  have e2 : g * (b / g) = b := by rw [eg]; exact Int.mul_ediv_cancel' (Int.gcd_dvd_right ..)
  have g0 : 0 < g := by omega
  unfold redP
  rw [← eg]
  by_cases h : 0 < b
  · rw [if_pos h]
    refine ⟨1, g, g0, .inl rfl, by omega, by dsimp only; rw [Int.one_mul, e1], by dsimp only; rw [Int.one_mul, e2], ?_⟩
    show 0 < b / g
    refine Int.pos_of_mul_pos_left ?_ g0
    rw [Int.mul_comm, e2]
    exact h
  · rw [if_neg h]
    refine ⟨-1, g, g0, .inr rfl, by omega, ?_, ?_, ?_⟩
    · show t = -1 * g * -(t / g)
      rw [show (-1 : Int) * g * -(t / g) = g * (t / g) by grind, e1]
    · show b = -1 * g * -(b / g)
      rw [show (-1 : Int) * g * -(b / g) = g * (b / g) by grind, e2]
    · show 0 < -(b / g)
      have : 0 < g * -(b / g) := by rw [Int.mul_neg, e2]; omega
      exact Int.pos_of_mul_pos_left (by rw [Int.mul_comm]; exact this) g0
/-- both bottoms of one sign: less is told by the cross product -/
theorem red_less {t b t' b' s : Int} (hs : s = 1 ∨ s = -1) (h : 0 < s * b) (h' : 0 < s * b') : lessP (redP t b) (redP t' b') ↔ t * b' < t' * b := by
  obtain ⟨s1, g1, p1, q1, r1, e1, f1, _⟩ := red_mul (t := t) (b := b) (by intro z; rw [z] at h; omega)
  obtain ⟨s2, g2, p2, q2, r2, e2, f2, _⟩ := red_mul (t := t') (b := b') (by intro z; rw [z] at h'; omega)
  have a1 : s1 = s := by rcases hs with rfl | rfl <;> rcases q1 with rfl | rfl <;> omega
  have a2 : s2 = s := by rcases hs with rfl | rfl <;> rcases q2 with rfl | rfl <;> omega
  subst a1
  subst a2
  generalize redP t b = x at *
  generalize redP t' b' = y at *
  have ss : s2 * s2 = 1 := by rcases hs with rfl | rfl <;> rfl
  have gg : 0 < g1 * g2 := Int.mul_pos p1 p2
  have m1 : t * b' = (g1 * g2) * (x.1 * y.2) := by rw [e1, f2]; grind
  have m2 : t' * b = (g1 * g2) * (y.1 * x.2) := by rw [e2, f1]; grind
  unfold lessP
  rw [m1, m2]
  constructor
  · exact fun z => Int.mul_lt_mul_of_pos_left z gg
  · exact fun z => Int.lt_of_mul_lt_mul_left z (Int.le_of_lt gg)
theorem less_trans {x y z : Int × Int} (hx : 0 < x.2) (hy : 0 < y.2) (hz : 0 < z.2) (h1 : lessP x y) (h2 : ¬ lessP z y) : lessP x z := by
  unfold lessP at *
  have a1 : x.1 * y.2 * z.2 < y.1 * x.2 * z.2 := Int.mul_lt_mul_of_pos_right h1 hz
  have a2 : y.1 * z.2 * x.2 ≤ z.1 * y.2 * x.2 := Int.mul_le_mul_of_nonneg_right (by omega) (by omega)
  have a3 : y.2 * (x.1 * z.2) < y.2 * (z.1 * x.2) := by
    have b1 : y.2 * (x.1 * z.2) = x.1 * y.2 * z.2 := by grind
    have b2 : y.2 * (z.1 * x.2) = z.1 * y.2 * x.2 := by grind
    have b3 : y.1 * x.2 * z.2 = y.1 * z.2 * x.2 := by grind
    omega
  exact Int.lt_of_mul_lt_mul_left a3 (Int.le_of_lt hy)
theorem less_trans' {x y z : Int × Int} (hx : 0 < x.2) (hy : 0 < y.2) (hz : 0 < z.2) (h1 : ¬ lessP y x) (h2 : lessP y z) : lessP x z := by
  unfold lessP at *
  have a1 : y.1 * z.2 * x.2 < z.1 * y.2 * x.2 := Int.mul_lt_mul_of_pos_right h2 hx
  have a2 : x.1 * y.2 * z.2 ≤ y.1 * x.2 * z.2 := Int.mul_le_mul_of_nonneg_right (by omega) (by omega)
  have a3 : y.2 * (x.1 * z.2) < y.2 * (z.1 * x.2) := by
    have b1 : y.2 * (x.1 * z.2) = x.1 * y.2 * z.2 := by grind
    have b2 : y.2 * (z.1 * x.2) = z.1 * y.2 * x.2 := by grind
    have b3 : y.1 * x.2 * z.2 = y.1 * z.2 * x.2 := by grind
    omega
  exact Int.lt_of_mul_lt_mul_left a3 (Int.le_of_lt hy)
/-- no pole between lo and hi: one sign all over -/
theorem one_sign {m : M4} {lo hi : Int × Int} (hm : m.c ≠ 0 ∨ m.d ≠ 0) (hlo : 0 < lo.2) (hhi : 0 < hi.2) (h : overO m lo hi = none) :
    ∃ s : Int, (s = 1 ∨ s = -1) ∧ ∀ y : Int × Int, 0 < y.2 → ¬ lessP y lo → ¬ lessP hi y → 0 < s * m.bot y := by
  have sg : ∀ z : Int, z ≠ 0 → ∃ s : Int, (s = 1 ∨ s = -1) ∧ 0 < s * z := fun z hz => by
    by_cases h : 0 < z
    · exact ⟨1, .inl rfl, by omega⟩
    · exact ⟨-1, .inr rfl, by omega⟩
  unfold overO at h
  by_cases hc : m.c = 0
  · have hd : m.d ≠ 0 := hm.resolve_left fun z => z hc
    obtain ⟨s, s1, s2⟩ := sg _ hd
    refine ⟨s, s1, fun y y0 _ _ => ?_⟩
    unfold M4.bot
    rw [hc, Int.zero_mul, Int.zero_add, ← Int.mul_assoc]
    exact Int.mul_pos s2 y0
  · rw [if_neg hc] at h
    split at h
    · rename_i hp
      obtain ⟨s1, g1, p1, q1, r1, e1, f1, z1⟩ := red_mul (t := 0 - m.d) (b := m.c) hc
      have z1 : 0 < (poleR m).2 := z1
      have rel : (poleR m).1 * m.c = -m.d * (poleR m).2 := by
        have a1 : (poleR m).1 * m.c = s1 * g1 * (redP (0 - m.d) m.c).1 * (poleR m).2 := by
          conv => lhs; rw [f1]
          unfold poleR
          grind
        rw [a1, ← e1]
        grind
      have key : ∀ y : Int × Int, (poleR m).2 * m.bot y = m.c * (y.1 * (poleR m).2 - (poleR m).1 * y.2) := fun y => by
        unfold M4.bot
        generalize (poleR m).1 = u at *
        generalize (poleR m).2 = v at *
        grind
      obtain ⟨s, s2, s3⟩ := sg _ hc
      rcases hp with hp | hp
      · refine ⟨s, s2, fun y y0 y1 _ => ?_⟩
        have l := less_trans (x := poleR m) (y := lo) (z := y) z1 hlo y0 hp y1
        have l2 : 0 < y.1 * (poleR m).2 - (poleR m).1 * y.2 := by unfold lessP at l; omega
        have : 0 < (poleR m).2 * (s * m.bot y) := by
          have e : (poleR m).2 * (s * m.bot y) = (s * m.c) * (y.1 * (poleR m).2 - (poleR m).1 * y.2) := by
            have := key y
            grind
          rw [e]
          exact Int.mul_pos s3 l2
        exact Int.pos_of_mul_pos_left (by rw [Int.mul_comm]; exact this) z1
      · refine ⟨-s, by rcases s2 with rfl | rfl <;> simp, fun y y0 _ y2 => ?_⟩
        have l := less_trans' (x := y) (y := hi) (z := poleR m) y0 hhi z1 y2 hp
        have l2 : 0 < (poleR m).1 * y.2 - y.1 * (poleR m).2 := by unfold lessP at l; omega
        have : 0 < (poleR m).2 * (-s * m.bot y) := by
          have e : (poleR m).2 * (-s * m.bot y) = (s * m.c) * ((poleR m).1 * y.2 - y.1 * (poleR m).2) := by
            have := key y
            grind
          rw [e]
          exact Int.mul_pos s3 l2
        exact Int.pos_of_mul_pos_left (by rw [Int.mul_comm]; exact this) z1
    · cases h
/-- the image of what lies between lies between the images -/
theorem image_in {m : M4} {lo hi y : Int × Int} (hm : m.c ≠ 0 ∨ m.d ≠ 0) (hlo : 0 < lo.2) (hhi : 0 < hi.2) (hl : lessP lo hi) (h : overO m lo hi = none) (y0 : 0 < y.2) (y1 : ¬ lessP y lo) (y2 : ¬ lessP hi y) :
    ∃ p q r, mapO m lo = some p ∧ mapO m hi = some q ∧ mapO m y = some r ∧ ((lessP q p → ¬ lessP r q ∧ ¬ lessP p r) ∧ (¬ lessP q p → ¬ lessP r p ∧ ¬ lessP q r)) := by
  obtain ⟨s, hs, sign⟩ := one_sign hm hlo hhi h
  have b1 := sign lo hlo (by unfold lessP; omega) (by unfold lessP at *; omega)
  have b2 := sign hi hhi (by unfold lessP at *; omega) (by unfold lessP; omega)
  have b3 := sign y y0 y1 y2
  have nz : ∀ z : Int, 0 < s * z → z ≠ 0 := fun z h e => by rw [e] at h; omega
  refine ⟨_, _, _, if_neg (nz _ b1), if_neg (nz _ b2), if_neg (nz _ b3), ?_⟩
  have cr : ∀ x z : Int × Int, m.top x * m.bot z - m.top z * m.bot x = m.det * (x.1 * z.2 - z.1 * x.2) := fun x z => by
    unfold M4.top M4.bot M4.det
    grind
  rw [red_less hs b2 b1, red_less hs b3 b2, red_less hs b1 b3, red_less hs b3 b1, red_less hs b2 b3]
  have c1 := cr hi lo
  have c2 := cr y hi
  have c3 := cr lo y
  have d1 : 0 < hi.1 * lo.2 - lo.1 * hi.2 := by unfold lessP at hl; omega
  have d2 : y.1 * hi.2 - hi.1 * y.2 ≤ 0 := by unfold lessP at y2; omega
  have d3 : lo.1 * y.2 - y.1 * lo.2 ≤ 0 := by unfold lessP at y1; omega
  rcases Int.lt_or_le m.det 0 with hd | hd
  · have m1 : m.det * (hi.1 * lo.2 - lo.1 * hi.2) < 0 := Int.mul_neg_of_neg_of_pos hd d1
    have m2 : 0 ≤ m.det * (y.1 * hi.2 - hi.1 * y.2) := Int.mul_nonneg_of_nonpos_of_nonpos (by omega) d2
    have m3 : 0 ≤ m.det * (lo.1 * y.2 - y.1 * lo.2) := Int.mul_nonneg_of_nonpos_of_nonpos (by omega) d3
    omega
  · have m1 : 0 ≤ m.det * (hi.1 * lo.2 - lo.1 * hi.2) := Int.mul_nonneg hd (by omega)
    have m2 : m.det * (y.1 * hi.2 - hi.1 * y.2) ≤ 0 := Int.mul_nonpos_of_nonneg_of_nonpos hd d2
    have m3 : m.det * (lo.1 * y.2 - y.1 * lo.2) ≤ 0 := Int.mul_nonpos_of_nonneg_of_nonpos hd d3
    omega
/-- the pole is led nowhere -/
theorem pole_none {m : M4} (hc : m.c ≠ 0) : mapO m (poleR m) = none := by
  obtain ⟨s1, g1, p1, q1, r1, e1, f1, z1⟩ := red_mul (t := 0 - m.d) (b := m.c) hc
  unfold mapO
  rw [if_pos]
  unfold M4.bot poleR
  generalize (redP (0 - m.d) m.c).1 = u at *
  generalize (redP (0 - m.d) m.c).2 = v at *
  have : m.d = -(s1 * g1 * u) := by omega
  rw [this, f1]
  grind
end Pv

namespace Pv
open PySem
/-! ### the defs over maps -/
def fIsMap (ja g : Nat) : Fn := ⟨1, 2, (.cons (.ite (.or (.not (.e (.call ja (.cons (.v 0) (.cons (.k (.int 4)) (.cons (.k (.int 4)) .nil)))))) (.not (.e (.b1 .all (.lc (.cmp .lt (.b1 .abs (.v 1)) (.g g)) (.n 1) (.of (.v 0)) .yes)))))
 (.cons (.ret (.k (.bool false)))
 .nil)
 .nil)
 (.cons (.ret (.or (.cmp .ne (.ixv 0 (.k (.int 2))) (.k (.int 0))) (.cmp .ne (.ixv 0 (.k (.int 3))) (.k (.int 0)))))
 .nil))⟩
def fMappedTo (jm : Nat) : Fn := ⟨2, 7, (.cons (.asg (.t [3, 4, 5, 6]) (.v 0))
 (.cons (.asg (.n 2) (.bin .add (.bin .mul (.v 5) (.ixv 1 (.k (.int 0)))) (.bin .mul (.v 6) (.ixv 1 (.k (.int 1))))))
 (.cons (.ret (.ife (.e (.cmp .eq (.v 2) (.k (.int 0)))) (.k .none) (.call jm (.cons (.bin .add (.bin .mul (.v 3) (.ixv 1 (.k (.int 0)))) (.bin .mul (.v 4) (.ixv 1 (.k (.int 1))))) (.cons (.v 2) .nil)))))
 .nil)))⟩
def fMapped (jc jr jt : Nat) : Fn := ⟨2, 2, (.cons (.expr (.call jc (.cons (.v 0) .nil)))
 (.cons (.expr (.call jr (.cons (.v 1) .nil)))
 (.cons (.ret (.call jt (.cons (.v 0) (.cons (.v 1) .nil))))
 .nil)))⟩
def fOverIn (jm jl : Nat) : Fn := ⟨3, 6, (.cons (.par [4, 5] (.cons (.ixv 0 (.k (.int 2))) (.cons (.ixv 0 (.k (.int 3))) .nil)))
 (.cons (.ite (.e (.cmp .eq (.v 4) (.k (.int 0))))
 (.cons (.ret (.k .none))
 .nil)
 .nil)
 (.cons (.asg (.n 3) (.call jm (.cons (.bin .sub (.k (.int 0)) (.v 5)) (.cons (.v 4) .nil))))
 (.cons (.ret (.ife (.or (.e (.call jl (.cons (.v 3) (.cons (.v 1) .nil)))) (.e (.call jl (.cons (.v 2) (.cons (.v 3) .nil))))) (.k .none) (.v 3)))
 .nil))))⟩
def fRoomBy (jr jo jt jl gR gO : Nat) : Fn := ⟨2, 7, (.cons (.asg (.t [3, 4]) (.call jr (.cons (.v 1) .nil)))
 (.cons (.asg (.n 2) (.call jo (.cons (.v 0) (.cons (.v 3) (.cons (.v 4) .nil)))))
 (.cons (.ite (.e (.cmp .isnot (.v 2) (.k .none)))
 (.cons (.ret (.tup (.cons (.g gO) (.cons (.v 2) .nil))))
 .nil)
 .nil)
 (.cons (.par [5, 6] (.cons (.call jt (.cons (.v 0) (.cons (.v 3) .nil))) (.cons (.call jt (.cons (.v 0) (.cons (.v 4) .nil))) .nil)))
 (.cons (.ret (.ife (.e (.call jl (.cons (.v 6) (.cons (.v 5) .nil)))) (.tup (.cons (.g gR) (.cons (.v 6) (.cons (.v 5) .nil)))) (.tup (.cons (.g gR) (.cons (.v 5) (.cons (.v 6) .nil))))))
 .nil)))))⟩
def fMapRoom (jc jk jb : Nat) : Fn := ⟨2, 2, (.cons (.expr (.call jc (.cons (.v 0) .nil)))
 (.cons (.expr (.call jk (.cons (.v 1) .nil)))
 (.cons (.ret (.call jb (.cons (.v 0) (.cons (.v 1) .nil))))
 .nil)))⟩
def fLawMapped (jl : Nat) : Fn := ⟨2, 8, (.cons (.asg (.t [2, 3, 4, 5]) (.v 0))
 (.cons (.par [6, 7] (.cons (.bin .add (.bin .mul (.v 2) (.ixv 1 (.k (.int 0)))) (.bin .mul (.v 3) (.ixv 1 (.k (.int 1))))) (.cons (.bin .add (.bin .mul (.v 4) (.ixv 1 (.k (.int 0)))) (.bin .mul (.v 5) (.ixv 1 (.k (.int 1))))) .nil)))
 (.cons (.ret (.ife (.e (.cmp .eq (.v 7) (.k (.int 0)))) (.k .none) (.call jl (.cons (.v 6) (.cons (.v 7) .nil)))))
 .nil)))⟩
def fLawMapRoom (jr jw jl jt : Nat) : Fn := ⟨2, 9, (.cons (.asg (.t [2, 3]) (.call jr (.cons (.v 1) .nil)))
 (.cons (.asg (.t [4, 5]) (.slv 0 (.k (.int 2)) .nop))
 (.cons (.ite (.e (.cmp .ne (.v 4) (.k (.int 0))))
 (.cons (.asg (.n 6) (.call jw (.cons (.bin .sub (.k (.int 0)) (.v 5)) (.cons (.v 4) .nil))))
 (.cons (.ite (.and (.not (.e (.call jl (.cons (.v 6) (.cons (.v 2) .nil))))) (.not (.e (.call jl (.cons (.v 3) (.cons (.v 6) .nil))))))
 (.cons (.ret (.tup (.cons (.k (.str "over")) (.cons (.v 6) .nil))))
 .nil)
 .nil)
 .nil))
 .nil)
 (.cons (.par [7, 8] (.cons (.call jt (.cons (.v 0) (.cons (.v 2) .nil))) (.cons (.call jt (.cons (.v 0) (.cons (.v 3) .nil))) .nil)))
 (.cons (.ret (.ife (.e (.call jl (.cons (.v 8) (.cons (.v 7) .nil)))) (.tup (.cons (.k (.str "room")) (.cons (.v 8) (.cons (.v 7) .nil)))) (.tup (.cons (.k (.str "room")) (.cons (.v 7) (.cons (.v 8) .nil))))))
 .nil)))))⟩
def mpLc (js : Nat) : E := (.lc (.cio js 0 (.cons (.lst (.cons (.k (.int 0)) (.cons (.k (.int 1)) (.cons (.neg (.k (.int 1))) (.cons (.k (.int 2)) (.cons (.k (.int 3)) (.cons (.neg (.k (.int 2))) (.cons (.k (.int 5)) (.cons (.k (.int 7)) (.cons (.neg (.k (.int 4))) (.cons (.k (.int 10)) (.cons (.k (.int 100)) .nil)))))))))))) .nil)) (.n 2) (.rng (.cons (.k (.int 4)) .nil)) .yes)
def fLawMap (js : Nat) : Fn := ⟨1, 3, (.cons (.asg (.n 1) (mpLc js))
 (.cons (.ret (.ife (.or (.e (.cmp .ne (.ixv 1 (.k (.int 2))) (.k (.int 0)))) (.e (.cmp .ne (.ixv 1 (.k (.int 3))) (.k (.int 0))))) (.b1 .tuple (.v 1)) (.tup (.cons (.ixv 1 (.k (.int 0))) (.cons (.ixv 1 (.k (.int 1))) (.cons (.k (.int 0)) (.cons (.k (.int 1)) .nil)))))))
 .nil))⟩
/-- a drawn map -/
structure M4ok (m : M4) : Prop where
  a : m.a.natAbs ≤ 100
  b : m.b.natAbs ≤ 100
  c : m.c.natAbs ≤ 100
  d : m.d.natAbs ≤ 100
  nz : m.c ≠ 0 ∨ m.d ≠ 0
theorem ix0 {a b c d : D} : L2.atI [a, b, c, d] 0 = some a := rfl
theorem ix1 {a b c d : D} : L2.atI [a, b, c, d] 1 = some b := rfl
theorem ix2 {a b c d : D} : L2.atI [a, b, c, d] 2 = some c := rfl
theorem ix3 {a b c d : D} : L2.atI [a, b, c, d] 3 = some d := rfl
theorem cut2 {a b c d : D} : cut [a, b, c, d] (some 2) none = [c, d] := rfl
theorem md_100 {i : Int} (h : i.natAbs ≤ 100) : Md i := Nat.lt_of_le_of_lt h (by decide)
theorem lin_md {u v x y : Int} (h1 : u.natAbs ≤ 100) (h2 : v.natAbs ≤ 100) (h3 : Md x) (h4 : Md y) : (u * x + v * y).natAbs < 2 ^ 250 := by
  have e1 := Int.natAbs_add_le (u * x) (v * y)
  rw [Int.natAbs_mul, Int.natAbs_mul] at e1
  have e2 : u.natAbs * x.natAbs ≤ 100 * 2 ^ 120 := Nat.mul_le_mul h1 (Nat.le_of_lt h3)
  have e3 : v.natAbs * y.natAbs ≤ 100 * 2 ^ 120 := Nat.mul_le_mul h2 (Nat.le_of_lt h4)
  omega
section
variable {P : List Fn} {gl : Gls} {n j ji js jc jr jm jd ja jk jl jt jo jb jw g gR gO x : Nat} {m : M4}
theorem isMap_ok (hP : P[j]? = some (fIsMap ja g)) (hA : P[ja]? = some (fAreInts ji js)) (hI : P[ji]? = some fIsInt) (hS : P[js]? = some fSized) (hg : gl g = some (.int 1000000000000)) (hm : M4ok m) : run P gl (n + 3) j [.v (t4 m)] = .ret (.pv (.bool true)) none := by
  rw [run_succ hP, if_pos ⟨rfl, rfl⟩]
  obtain ⟨a, b, c, d⟩ := m
  obtain ⟨h1, h2, h3, h4, h5⟩ := hm
  dsimp only at *
  have a1 := areInts_ok (gl := gl) (n := n) hA hI hS (ns := [a, b, c, d]) (lo := 4) (hi := 4) (by simp) (by simp) (by simp [LIM])
  have l1 : evE (cf P gl (n + 2)) (.lc (.cmp .lt (.b1 .abs (.v 1)) (.g g)) (.n 1) (.of (.v 0)) .yes) [some (.v (.tuple [.int a, .int b, .int c, .int d])), none] = .ok (.fr (List.replicate 4 (.bool true))) [some (.v (.tuple [.int a, .int b, .int c, .int d])), none] := by
    refine lc_ints (ns := [a, b, c, d]) (by simp) rfl (by simp) (by simp [LIM]) fun k hk => ?_
    simp at hk
    simp [hg, abs_nat]
    rcases hk with rfl | rfl | rfl | rfl <;> omega
  simp at a1
  by_cases hc : c = 0
  · have hd : d ≠ 0 := h5.resolve_left fun z => z hc
    subst hc
    simp [fIsMap, t4, a1, l1, -List.reduceReplicate, ix2, ix3, hd]
  · simp [fIsMap, t4, a1, l1, -List.reduceReplicate, ix2, ix3, hc]
theorem mappedTo_ok {y : Int × Int} (hP : P[j]? = some (fMappedTo jm)) (hM : P[jm]? = some (fMade jc)) (hc : P[jc]? = some fCommon) (hm : M4ok m) (h1 : Md y.1) (h2 : Md y.2) : run P gl (n + 3) j [.v (t4 m), .v (pr y)] = .ret (.pv (dO (mapO m y))) none := by
  rw [run_succ hP, if_pos ⟨rfl, rfl⟩]
  have m1 := md_mul (md_100 hm.a) h1
  have m2 := md_mul (md_100 hm.b) h2
  have m3 := md_mul (md_100 hm.c) h1
  have m4 := md_mul (md_100 hm.d) h2
  by_cases hz : m.bot y = 0
  · have hz' : m.c * y.1 + m.d * y.2 = 0 := hz
    simp [fMappedTo, t4, prx0, prx1, m1, m2, m3, m4, hz', mapO, hz, dO]
  · have hz' : ¬ m.c * y.1 + m.d * y.2 = 0 := hz
    have md := made_ok (gl := gl) (n := n) (t := m.a * y.1 + m.b * y.2) hM hc hz' (lin_md hm.c hm.d h1 h2)
    simp [fMappedTo, t4, prx0, prx1, m1, m2, m3, m4, hz', md, mapO, hz, dO]
    rfl
theorem lawMapped_ok {y : Int × Int} (hP : P[j]? = some (fLawMapped jl)) (hl : P[jl]? = some fLow) (hm : M4ok m) (h1 : Md y.1) (h2 : Md y.2) : run P gl (n + 2) j [.v (t4 m), .v (pr y)] = .ret (.pv (dO (mapO m y))) none := by
  rw [run_succ hP, if_pos ⟨rfl, rfl⟩]
  have m1 := md_mul (md_100 hm.a) h1
  have m2 := md_mul (md_100 hm.b) h2
  have m3 := md_mul (md_100 hm.c) h1
  have m4 := md_mul (md_100 hm.d) h2
  by_cases hz : m.bot y = 0
  · have hz' : m.c * y.1 + m.d * y.2 = 0 := hz
    simp [fLawMapped, t4, prx0, prx1, m1, m2, m3, m4, hz', mapO, hz, dO]
  · have hz' : ¬ m.c * y.1 + m.d * y.2 = 0 := hz
    have md := low_ok (gl := gl) (n := n) (t := m.a * y.1 + m.b * y.2) hl hz' (lin_md hm.c hm.d h1 h2)
    simp [fLawMapped, t4, prx0, prx1, m1, m2, m3, m4, hz', md, mapO, hz, dO]
    rfl
theorem pole_small (hm : M4ok m) : Md (poleR m).1 ∧ Md (poleR m).2 := by
  have e1 := Int.natAbs_ediv_le_natAbs (0 - m.d) (Int.gcd (0 - m.d) m.c)
  have e2 := Int.natAbs_ediv_le_natAbs m.c (Int.gcd (0 - m.d) m.c)
  have h3 := hm.c
  have h4 := hm.d
  unfold poleR redP Md
  split <;> dsimp only <;> constructor <;> omega
theorem overIn_ok {lo hi : Int × Int} (hP : P[j]? = some (fOverIn jm jl)) (hM : P[jm]? = some (fMade jc)) (hc : P[jc]? = some fCommon) (hl : P[jl]? = some fLess) (hm : M4ok m) (s1 : Small lo) (s2 : Small hi) : run P gl (n + 3) j [.v (t4 m), .v (pr lo), .v (pr hi)] = .ret (.pv (dO (overO m lo hi))) none := by
  rw [run_succ hP, if_pos ⟨rfl, rfl⟩]
  unfold overO
  by_cases h : m.c = 0
  · rw [if_pos h]
    simp [fOverIn, t4, ix2, ix3, h, dO]
  · rw [if_neg h]
    have md := made_ok (gl := gl) (n := n) (t := 0 - m.d) (b := m.c) hM hc h (by have := hm.c; omega)
    obtain ⟨p1, p2⟩ := pole_small hm
    have l1 := less_ok (gl := gl) (n := n + 1) (p := poleR m) (q := lo) hl p1 p2 s1.h1 s1.h2
    have l2 := less_ok (gl := gl) (n := n + 1) (p := hi) (q := poleR m) hl s2.h1 s2.h2 p1 p2
    have ep : redP (0 - m.d) m.c = poleR m := rfl
    rw [ep, Int.zero_sub] at md
    by_cases h1 : lessP (poleR m) lo
    · rw [if_pos (.inl h1)]
      have h1 : (poleR m).1 * lo.2 < lo.1 * (poleR m).2 := h1
      simp only [h1, decide_true] at l1
      simp [fOverIn, t4, ix2, ix3, h, md, l1, dO]
    · have h1' : ¬ (poleR m).1 * lo.2 < lo.1 * (poleR m).2 := h1
      simp only [h1', decide_false] at l1
      by_cases h2 : lessP hi (poleR m)
      · rw [if_pos (.inr h2)]
        have h2 : hi.1 * (poleR m).2 < (poleR m).1 * hi.2 := h2
        simp only [h2, decide_true] at l2
        simp [fOverIn, t4, ix2, ix3, h, md, l1, l2, dO]
      · rw [if_neg (by rintro (z | z); exact h1 z; exact h2 z)]
        have h2 : ¬ hi.1 * (poleR m).2 < (poleR m).1 * hi.2 := h2
        simp only [h2, decide_false] at l2
        simp [fOverIn, t4, ix2, ix3, h, md, l1, l2, dO]
end
end Pv

namespace Pv
open PySem
/-! ### rooms of maps -/
theorem lessP_iff {p q : Int × Int} : lessP p q ↔ p.1 * q.2 < q.1 * p.2 := Iff.rfl
theorem roomV_facts {ts : List Int} (kn : Kn ts) (hb : bnd ts < 2 ^ 100) : Small (roomV ts).1 ∧ Small (roomV ts).2 ∧ 0 < (roomV ts).1.2 ∧ 0 < (roomV ts).2.2 ∧ lessP (roomV ts).1 (roomV ts).2 := by
  have hb1 : bnd ts * 1 < 2 ^ 120 := by omega
  have r1 := kn.rat (restNone (Nat.le_refl 1))
  have r2 := kn.rat (restOne (Nat.le_refl 1))
  have s1 := r1.small hb1
  have s2 := r2.small hb1
  unfold roomV
  by_cases h : lessP (valV ts (1, 1)) (valV ts (1, 0))
  · rw [if_pos h]
    exact ⟨s2, s1, r2.bot, r1.bot, h⟩
  · rw [if_neg h]
    exact ⟨s1, s2, r1.bot, r2.bot, (ends_one ts).mpr h⟩
/-- what is told of a map's room -/
def mapRoom (m : M4) (ts : List Int) : D := match overO m (roomV ts).1 (roomV ts).2 with
  | some x => .tuple [.str "over", pr x]
  | none => (match mapO m (roomV ts).1, mapO m (roomV ts).2 with
    | some p, some q => if lessP q p then .tuple [.str "room", pr q, pr p] else .tuple [.str "room", pr p, pr q]
    | _, _ => .none)
theorem mapO_md {m : M4} {y p : Int × Int} (hm : M4ok m) (s : Small y) (hy : y.1.natAbs < 2 ^ 100) (hy2 : y.2.natAbs < 2 ^ 100) (h : mapO m y = some p) : Small p := by
  unfold mapO at h
  split at h
  · cases h
  · cases h
    have b1 : ∀ {u v : Int}, u.natAbs ≤ 100 → v.natAbs ≤ 100 → (u * y.1 + v * y.2).natAbs < 2 ^ 120 := fun {u v} h1 h2 => by
      have e1 := Int.natAbs_add_le (u * y.1) (v * y.2)
      rw [Int.natAbs_mul, Int.natAbs_mul] at e1
      have e2 : u.natAbs * y.1.natAbs ≤ 100 * 2 ^ 100 := Nat.mul_le_mul h1 (Nat.le_of_lt hy)
      have e3 : v.natAbs * y.2.natAbs ≤ 100 * 2 ^ 100 := Nat.mul_le_mul h2 (Nat.le_of_lt hy2)
      omega
    have c1 := b1 hm.a hm.b
    have c2 := b1 hm.c hm.d
    have e1 := Int.natAbs_ediv_le_natAbs (m.top y) (Int.gcd (m.top y) (m.bot y))
    have e2 := Int.natAbs_ediv_le_natAbs (m.bot y) (Int.gcd (m.top y) (m.bot y))
    have c1 : (m.top y).natAbs < 2 ^ 120 := c1
    have c2 : (m.bot y).natAbs < 2 ^ 120 := c2
    constructor <;> unfold Md redP <;> split <;> dsimp only <;> omega
section
variable {P : List Fn} {gl : Gls} {n j ji js jc jr jm jd ja jk jl jt jo jb jw g gR gO x : Nat} {m : M4} {ts : List Int}
theorem isnotO_none : cmpD .isnot (dO none) .none = some false := rfl
theorem isnotO_some (p : Int × Int) : cmpD .isnot (dO (some p)) .none = some true := rfl
/-- the ends as they lie below 2 ** 100 -/
theorem ends_100 (kn : Kn ts) (hb : bnd ts < 2 ^ 100) : ((roomV ts).1.1.natAbs < 2 ^ 100 ∧ (roomV ts).1.2.natAbs < 2 ^ 100) ∧ ((roomV ts).2.1.natAbs < 2 ^ 100 ∧ (roomV ts).2.2.natAbs < 2 ^ 100) := by
  have r1 := kn.rat (restNone (Nat.le_refl 1))
  have r2 := kn.rat (restOne (Nat.le_refl 1))
  have a1 := r1.h1
  have a2 := r1.h2
  have a3 := r2.h1
  have a4 := r2.h2
  have v1 : vec none = (1, 0) := rfl
  have v2 : vec (some (1, 1)) = (1, 1) := rfl
  rw [v1] at a1 a2
  rw [v2] at a3 a4
  unfold roomV
  split <;> dsimp only <;> omega
/-- the two images, where no pole lies between -/
theorem two_images (hm : M4ok m) (kn : Kn ts) (hb : bnd ts < 2 ^ 100) (h : overO m (roomV ts).1 (roomV ts).2 = none) : ∃ p q, mapO m (roomV ts).1 = some p ∧ mapO m (roomV ts).2 = some q ∧ Small p ∧ Small q := by
  obtain ⟨s1, s2, b1, b2, l⟩ := roomV_facts kn hb
  obtain ⟨⟨c1, c2⟩, c3, c4⟩ := ends_100 kn hb
  obtain ⟨p, q, r, e1, e2, _⟩ := image_in hm.nz b1 b2 l h b1 (by unfold lessP; omega) (by unfold lessP at *; omega)
  exact ⟨p, q, e1, e2, mapO_md hm s1 c1 c2 e1, mapO_md hm s2 c3 c4 e2⟩
theorem roomBy_ok (hP : P[j]? = some (fRoomBy jr jo jt jl gR gO)) (hr : run P gl (n + 6) jr [.v (tuI ts)] = .ret (.pv (.tuple [pr (roomV ts).1, pr (roomV ts).2])) none) (hO : P[jo]? = some (fOverIn jm jl)) (hT : P[jt]? = some (fMappedTo jm)) (hM : P[jm]? = some (fMade jc)) (hc : P[jc]? = some fCommon) (hl : P[jl]? = some fLess) (hgR : gl gR = some (.str "room")) (hgO : gl gO = some (.str "over"))
    (hm : M4ok m) (kn : Kn ts) (hb : bnd ts < 2 ^ 100) : run P gl (n + 7) j [.v (t4 m), .v (tuI ts)] = .ret (.pv (mapRoom m ts)) none := by
  rw [run_succ hP, if_pos ⟨rfl, rfl⟩]
  obtain ⟨s1, s2, b1, b2, l⟩ := roomV_facts kn hb
  have ov := overIn_ok (gl := gl) (n := n + 3) (lo := (roomV ts).1) (hi := (roomV ts).2) hO hM hc hl hm s1 s2
  unfold mapRoom
  cases ho : overO m (roomV ts).1 (roomV ts).2 with
  | some x =>
    rw [ho] at ov
    have i1 := isnotO_some x
    simp [fRoomBy, hr, ov, i1, hgO, lim2]
    rfl
  | none =>
    rw [ho] at ov
    have i1 := isnotO_none
    obtain ⟨p, q, e1, e2, s3, s4⟩ := two_images hm kn hb ho
    have m1 := mappedTo_ok (gl := gl) (n := n + 3) (y := (roomV ts).1) hT hM hc hm s1.h1 s1.h2
    have m2 := mappedTo_ok (gl := gl) (n := n + 3) (y := (roomV ts).2) hT hM hc hm s2.h1 s2.h2
    rw [e1] at m1
    rw [e2] at m2
    have m1 : run P gl _ _ [_, _] = .ret (.pv (pr p)) none := m1
    have m2 : run P gl _ _ [_, _] = .ret (.pv (pr q)) none := m2
    have le := less_ok (gl := gl) (n := n + 5) (p := q) (q := p) hl s4.h1 s4.h2 s3.h1 s3.h2
    simp only [e1, e2]
    by_cases h : lessP q p
    · rw [if_pos h]
      simp only [lessP_iff.mp h, decide_true] at le
      simp [fRoomBy, hr, ov, i1, hgR, lim3, m1, m2, le]
    · rw [if_neg h]
      have h' : ¬ q.1 * p.2 < p.1 * q.2 := h
      simp only [h', decide_false] at le
      simp [fRoomBy, hr, ov, i1, hgR, lim3, m1, m2, le]
theorem lawMapRoom_ok (hP : P[j]? = some (fLawMapRoom jr jw jl jt)) (hr : run P gl (n + 3) jr [.v (tuI ts)] = .ret (.pv (.tuple [pr (roomV ts).1, pr (roomV ts).2])) none) (hT : P[jt]? = some (fLawMapped jw)) (hw : P[jw]? = some fLow) (hl : P[jl]? = some fLess)
    (hm : M4ok m) (kn : Kn ts) (hb : bnd ts < 2 ^ 100) : run P gl (n + 4) j [.v (t4 m), .v (tuI ts)] = .ret (.pv (mapRoom m ts)) none := by
  rw [run_succ hP, if_pos ⟨rfl, rfl⟩]
  obtain ⟨s1, s2, b1, b2, l⟩ := roomV_facts kn hb
  have fin : overO m (roomV ts).1 (roomV ts).2 = none → ∃ p q, mapRoom m ts = (if lessP q p then .tuple [.str "room", pr q, pr p] else .tuple [.str "room", pr p, pr q]) ∧ run P gl (n + 3) jt [.v (t4 m), .v (pr (roomV ts).1)] = .ret (.pv (pr p)) none ∧ run P gl (n + 3) jt [.v (t4 m), .v (pr (roomV ts).2)] = .ret (.pv (pr q)) none ∧ run P gl (n + 3) jl [.v (pr q), .v (pr p)] = .ret (.pv (.bool (decide (lessP q p)))) none := fun ho => by
    obtain ⟨p, q, e1, e2, s3, s4⟩ := two_images hm kn hb ho
    have m1 := lawMapped_ok (gl := gl) (n := n + 1) (y := (roomV ts).1) hT hw hm s1.h1 s1.h2
    have m2 := lawMapped_ok (gl := gl) (n := n + 1) (y := (roomV ts).2) hT hw hm s2.h1 s2.h2
    rw [e1] at m1
    rw [e2] at m2
    have le := less_ok (gl := gl) (n := n + 2) (p := q) (q := p) hl s4.h1 s4.h2 s3.h1 s3.h2
    refine ⟨p, q, ?_, m1, m2, le⟩
    unfold mapRoom
    simp only [ho, e1, e2]
  have sd : slD (t4 m) (some 2) none = some (.tuple [.int m.c, .int m.d]) := rfl
  by_cases h : m.c = 0
  · have ho : overO m (roomV ts).1 (roomV ts).2 = none := by unfold overO; rw [if_pos h]
    obtain ⟨p, q, e1, m1, m2, le⟩ := fin ho
    rw [e1]
    by_cases h2 : lessP q p
    · rw [if_pos h2]
      simp only [h2, decide_true] at le
      simp [fLawMapRoom, hr, partR, partO, isNop, sd, h, m1, m2, le, lim3]
    · rw [if_neg h2]
      simp only [h2, decide_false] at le
      simp [fLawMapRoom, hr, partR, partO, isNop, sd, h, m1, m2, le, lim3]
  · obtain ⟨p1, p2⟩ := pole_small hm
    have md := low_ok (gl := gl) (n := n + 2) (t := 0 - m.d) (b := m.c) hw h (by have := hm.c; omega)
    have ep : redP (0 - m.d) m.c = poleR m := rfl
    rw [ep, Int.zero_sub] at md
    have l1 := less_ok (gl := gl) (n := n + 2) (p := poleR m) (q := (roomV ts).1) hl p1 p2 s1.h1 s1.h2
    have l2 := less_ok (gl := gl) (n := n + 2) (p := (roomV ts).2) (q := poleR m) hl s2.h1 s2.h2 p1 p2
    have l1 : run P gl (n + 3) jl [.v (pr (poleR m)), .v (pr (roomV ts).1)] = .ret (.pv (.bool (decide (lessP (poleR m) (roomV ts).1)))) none := l1
    have l2 : run P gl (n + 3) jl [.v (pr (roomV ts).2), .v (pr (poleR m))] = .ret (.pv (.bool (decide (lessP (roomV ts).2 (poleR m))))) none := l2
    by_cases c1 : lessP (poleR m) (roomV ts).1
    · have ho : overO m (roomV ts).1 (roomV ts).2 = none := by unfold overO; rw [if_neg h, if_pos (.inl c1)]
      obtain ⟨p, q, e1, m1, m2, le⟩ := fin ho
      rw [e1]
      simp only [c1, decide_true] at l1
      by_cases h2 : lessP q p
      · rw [if_pos h2]
        simp only [h2, decide_true] at le
        simp [fLawMapRoom, hr, partR, partO, isNop, sd, h, md, l1, m1, m2, le, lim3]
      · rw [if_neg h2]
        simp only [h2, decide_false] at le
        simp [fLawMapRoom, hr, partR, partO, isNop, sd, h, md, l1, m1, m2, le, lim3]
    · simp only [c1, decide_false] at l1
      by_cases c2 : lessP (roomV ts).2 (poleR m)
      · have ho : overO m (roomV ts).1 (roomV ts).2 = none := by unfold overO; rw [if_neg h, if_pos (.inr c2)]
        obtain ⟨p, q, e1, m1, m2, le⟩ := fin ho
        rw [e1]
        simp only [c2, decide_true] at l2
        by_cases h2 : lessP q p
        · rw [if_pos h2]
          simp only [h2, decide_true] at le
          simp [fLawMapRoom, hr, partR, partO, isNop, sd, h, md, l1, l2, m1, m2, le, lim3]
        · rw [if_neg h2]
          simp only [h2, decide_false] at le
          simp [fLawMapRoom, hr, partR, partO, isNop, sd, h, md, l1, l2, m1, m2, le, lim3]
      · simp only [c2, decide_false] at l2
        have ho : overO m (roomV ts).1 (roomV ts).2 = some (poleR m) := by unfold overO; rw [if_neg h, if_neg (by rintro (z | z); exact c1 z; exact c2 z)]
        unfold mapRoom
        rw [ho]
        simp [fLawMapRoom, hr, partR, partO, isNop, sd, h, md, l1, l2, lim2]
end
end Pv

namespace Pv
open PySem
/-! ### a drawn map -/
def eleven : List D := [.int 0, .int 1, .int (-1), .int 2, .int 3, .int (-2), .int 5, .int 7, .int (-4), .int 10, .int 100]
theorem of_eleven {d : D} (h : d ∈ eleven) : ∃ k : Int, d = .int k ∧ k.natAbs ≤ 100 := by
  unfold eleven at h
  simp only [List.mem_cons, List.not_mem_nil, or_false] at h
  rcases h with rfl | rfl | rfl | rfl | rfl | rfl | rfl | rfl | rfl | rfl | rfl <;> exact ⟨_, rfl, by decide⟩
theorem lcTurn_io {ev : Env → R (Option D)} {x y : D} {xs ys : List D} (h : ev [some (.io xs), none, some (.v x)] = .ok (some y) [some (.io ys), none, some (.v x)]) : lcTurn (.n 2) ev x [some (.io xs), none, none] = .ok (some y) [some (.io ys), none, none] := by
  unfold lcTurn
  rw [if_pos (show plainAt [some (.io xs), none, none] (Tg.n 2).slots = true from rfl)]
  have e1 : putT (wipeE [some (.io xs), none, none] (Tg.n 2).slots) (.n 2) x = .ok () [some (.io xs), none, some (.v x)] := rfl
  rw [e1, R.bind_ok, h]
  rfl
section
variable {P : List Fn} {gl : Gls} {n j jd js : Nat}
theorem lawMap_ok {xs : List D} {c : Nat} (hP : P[j]? = some (fLawMap js)) (hd : P[jd]? = some fDraw) (hs : P[js]? = some (fSome jd)) (H : HandOk c xs) (hc : c < 1000000) : ∃ (m : M4) (ys : List D), run P gl (n + 3) j [.io xs] = .ret (.pv (t4 m)) (some (.io ys)) ∧ HandOk (c + 4) ys ∧ M4ok m := by
  have one : ∀ (x : D) (c' : Nat) (zs : List D), HandOk c' zs → c' < 1000000000 → ∃ (k : Int) (ws : List D), k.natAbs ≤ 100 ∧ HandOk (c' + 1) ws ∧ lcTurn (.n 2) (fun ρ => (evT (cf P gl (n + 2)) .yes ρ).bind fun t ρ => iteR t (bindD (evE (cf P gl (n + 2)) (.cio js 0 (.cons (.lst (.cons (.k (.int 0)) (.cons (.k (.int 1)) (.cons (.neg (.k (.int 1))) (.cons (.k (.int 2)) (.cons (.k (.int 3)) (.cons (.neg (.k (.int 2))) (.cons (.k (.int 5)) (.cons (.k (.int 7)) (.cons (.neg (.k (.int 4))) (.cons (.k (.int 10)) (.cons (.k (.int 100)) .nil)))))))))))) .nil)) ρ) fun y ρ => .ok (some y) ρ) (.ok none ρ)) x [some (.io zs), none, none] = .ok (some (.int k)) [some (.io ws), none, none] := by
    intro x c' zs G hc'
    obtain ⟨d, ws, k1, k2, k3⟩ := some_ok (gl := gl) (n := n) (ds := eleven) hs hd G (by decide) (by decide) hc'
    obtain ⟨k, rfl, k4⟩ := of_eleven k3
    refine ⟨k, ws, k4, k2, lcTurn_io ?_⟩
    have l11 : (11 : Nat) ≤ LIM := by decide
    have ev : evE (cf P gl (n + 2)) (.cio js 0 (.cons (.lst (.cons (.k (.int 0)) (.cons (.k (.int 1)) (.cons (.neg (.k (.int 1))) (.cons (.k (.int 2)) (.cons (.k (.int 3)) (.cons (.neg (.k (.int 2))) (.cons (.k (.int 5)) (.cons (.k (.int 7)) (.cons (.neg (.k (.int 4))) (.cons (.k (.int 10)) (.cons (.k (.int 100)) .nil)))))))))))) .nil)) [some (.io zs), none, some (.v x)] = .ok (.pv (.int k)) [some (.io ws), none, some (.v x)] :=
      ecio_io (xs := zs) (xs' := zs) (ds := [.list eleven]) (ρ' := [some (.io zs), none, some (.v x)]) rfl (by simp [l11, eleven]) rfl k1
    simp [ev]
  obtain ⟨a, x1, ha, H1, ea⟩ := one (.int 0) c xs H (by omega)
  obtain ⟨b, x2, hb, H2, eb⟩ := one (.int (0 + 1)) (c + 1) x1 H1 (by omega)
  obtain ⟨e, x3, he, H3, ee⟩ := one (.int (0 + 1 + 1)) (c + 1 + 1) x2 H2 (by omega)
  obtain ⟨f, x4, hf, H4, ef⟩ := one (.int (0 + 1 + 1 + 1)) (c + 1 + 1 + 1) x3 H3 (by omega)
  have lc : evE (cf P gl (n + 2)) (mpLc js) [some (.io xs), none, none] = .ok (.fr [.int a, .int b, .int e, .int f]) [some (.io x4), none, none] := by
    unfold mpLc
    rw [e_lc, i_rngA (ds := [.int 4]) (ρ' := [some (.io xs), none, none]) (by simp) (show rngOf [.int 4] = some (0, 4, 1) from rngOfA (k := 4) (by decide)), R.bind_ok]
    show lcEnd (lcGo _ [.int 0, .int (0 + 1), .int (0 + 1 + 1), .int (0 + 1 + 1 + 1)] _) = _
    simp only [lcGo, ea, eb, ee, ef, R.bind_ok]
    simp [lim4]
  have ht : PyData.tuple [.int a, .int b, .int e, .int f] = t4 ⟨a, b, e, f⟩ := rfl
  have ht2 : PyData.tuple [.int a, .int b, .int 0, .int 1] = t4 ⟨a, b, 0, 1⟩ := rfl
  by_cases c1 : e = 0
  · by_cases c2 : f = 0
    · refine ⟨⟨a, b, 0, 1⟩, x4, ?_, H4, ⟨ha, hb, Nat.zero_le _, show (1 : Int).natAbs ≤ 100 by decide, .inr (show (1 : Int) ≠ 0 by decide)⟩⟩
      rw [run_succ hP, if_pos ⟨rfl, rfl⟩]
      simp [fLawMap, lc, ix0, ix1, ix2, ix3, c1, c2, lim4]
      rfl
    · refine ⟨⟨a, b, e, f⟩, x4, ?_, H4, ⟨ha, hb, he, hf, .inr c2⟩⟩
      rw [run_succ hP, if_pos ⟨rfl, rfl⟩]
      simp [fLawMap, lc, ix0, ix1, ix2, ix3, c1, c2]
      rfl
  · refine ⟨⟨a, b, e, f⟩, x4, ?_, H4, ⟨ha, hb, he, hf, .inl c1⟩⟩
    rw [run_succ hP, if_pos ⟨rfl, rfl⟩]
    simp [fLawMap, lc, ix0, ix1, ix2, ix3, c1]
    rfl
/-! ### alike, nested -/
theorem is_none (hP : P[j]? = some (fIs j)) : run P gl (n + 1) j [.v .none, .v .none] = .ret (.pv (.bool true)) none := by
  rw [run_succ hP, if_pos ⟨rfl, rfl⟩]
  have e : cmpD .eq .none .none = some true := by rw [cmp_eq rfl rfl]; rfl
  have t1 : ∀ t : Ty, t ≠ .non → t.is .none = false := fun t ht => by cases t <;> first | rfl | exact absurd rfl ht
  simp [fIs, t1, e]
theorem is_str {x : Str} (hs : shp (.str x) = true) (hP : P[j]? = some (fIs j)) : run P gl (n + 1) j [.v (.str x), .v (.str x)] = .ret (.pv (.bool true)) none := by
  rw [run_succ hP, if_pos ⟨rfl, rfl⟩]
  have e : cmpD .eq (.str x) (.str x) = some true := by
    rw [cmp_eq hs hs]
    show some (x == x) = _
    simp
  have t1 : ∀ t : Ty, t ≠ .str → t.is (.str x) = false := fun t ht => by cases t <;> first | rfl | exact absurd rfl ht
  have t2 : Ty.is .str (.str x) = true := rfl
  simp [fIs, t1, t2, e]
theorem is_pr (hP : P[j]? = some (fIs j)) (p : Int × Int) : run P gl (n + 2) j [.v (pr p), .v (pr p)] = .ret (.pv (.bool true)) none := by
  refine is_tup (m := n + 1) hP _ lim2 ?_
  intro d hd
  simp at hd
  rcases hd with rfl | rfl <;> exact is_int hP _
theorem is_dO (hP : P[j]? = some (fIs j)) (h : Option (Int × Int)) : run P gl (n + 2) j [.v (dO h), .v (dO h)] = .ret (.pv (.bool true)) none := by
  cases h with
  | none => exact is_none hP
  | some p => exact is_pr hP p
end
end Pv

namespace Pv
open PySem
/-! ### more basics -/
def fWithin (ji : Nat) : Fn := ⟨3, 3, (.cons (.ret (.and (.call ji (.cons (.v 0) .nil)) (.chain .le .le (.v 1) (.v 0) (.v 2)))) .nil)⟩
def fMinus (jm : Nat) : Fn := ⟨2, 2, (.cons (.ret (.call jm (.cons (.bin .sub (.bin .mul (.ixv 0 (.k (.int 0))) (.ixv 1 (.k (.int 1)))) (.bin .mul (.ixv 1 (.k (.int 0))) (.ixv 0 (.k (.int 1))))) (.cons (.bin .mul (.ixv 0 (.k (.int 1))) (.ixv 1 (.k (.int 1)))) .nil))))
 .nil)⟩
def fTimes (jm : Nat) : Fn := ⟨2, 2, (.cons (.ret (.call jm (.cons (.bin .mul (.ixv 0 (.k (.int 0))) (.ixv 1 (.k (.int 0)))) (.cons (.bin .mul (.ixv 0 (.k (.int 1))) (.ixv 1 (.k (.int 1)))) .nil))))
 .nil)⟩
section
variable {P : List Fn} {gl : Gls} {n j ji jm jc : Nat}
theorem within_ok (hP : P[j]? = some (fWithin ji)) (hI : P[ji]? = some fIsInt) {i lo hi : Int} (h1 : lo ≤ i) (h2 : i ≤ hi) : run P gl (n + 2) j [.v (.int i), .v (.int lo), .v (.int hi)] = .ret (.pv (.bool true)) none := by
  rw [run_succ hP, if_pos ⟨rfl, rfl⟩]
  simp [fWithin, isInt_ok hI, h1, h2]
theorem minus_ok {p q : Int × Int} (hP : P[j]? = some (fMinus jm)) (hm : P[jm]? = some (fMade jc)) (hc : P[jc]? = some fCommon) (h1 : Md p.1) (h2 : Md p.2) (h3 : Md q.1) (h4 : Md q.2) (hb : p.2 * q.2 ≠ 0) (hz : (p.2 * q.2).natAbs < 2 ^ 250) : run P gl (n + 3) j [.v (pr p), .v (pr q)] = .ret (.pv (pr (redP (p.1 * q.2 - q.1 * p.2) (p.2 * q.2)))) none := by
  rw [run_succ hP, if_pos ⟨rfl, rfl⟩]
  have md := made_ok (gl := gl) (n := n) (t := p.1 * q.2 - q.1 * p.2) hm hc hb hz
  simp [fMinus, prx0, prx1, md_mul h1 h4, md_mul h3 h2, md_mul h2 h4, md]
theorem times_ok {p q : Int × Int} (hP : P[j]? = some (fTimes jm)) (hm : P[jm]? = some (fMade jc)) (hc : P[jc]? = some fCommon) (h1 : Md p.1) (h2 : Md p.2) (h3 : Md q.1) (h4 : Md q.2) (hb : p.2 * q.2 ≠ 0) (hz : (p.2 * q.2).natAbs < 2 ^ 250) : run P gl (n + 3) j [.v (pr p), .v (pr q)] = .ret (.pv (pr (redP (p.1 * q.1) (p.2 * q.2)))) none := by
  rw [run_succ hP, if_pos ⟨rfl, rfl⟩]
  have md := made_ok (gl := gl) (n := n) (t := p.1 * q.1) hm hc hb hz
  simp [fTimes, prx0, prx1, md_mul h1 h3, md_mul h2 h4, md]
end
/-- the same ratio, written greater -/
theorem redP_scale {t b g : Int} (hg : 0 < g) (hb : b ≠ 0) : redP (g * t) (g * b) = redP t b := by
  have e : (Int.gcd (g * t) (g * b) : Int) = g * Int.gcd t b := by
    rw [Int.gcd_mul_left]
    have : (g.natAbs : Int) = g := by omega
    push_cast
    rw [this]
  have hp : 0 < Int.gcd t b := Int.gcd_pos_of_ne_zero_right _ hb
  have d : ∀ x : Int, g * x / (g * Int.gcd t b) = x / Int.gcd t b := fun x => Int.mul_ediv_mul_of_pos _ _ hg
  have s : (0 < g * b) ↔ 0 < b := ⟨fun h => Int.pos_of_mul_pos_left (by rw [Int.mul_comm]; exact h) hg, fun h => Int.mul_pos hg h⟩
  unfold redP
  rw [e, d, d]
  by_cases h : 0 < b
  · rw [if_pos h, if_pos (s.mpr h)]
  · rw [if_neg h, if_neg (fun z => h (s.mp z))]
end Pv

namespace Pv
open PySem

/-! ### more places filled: the same outcome -/
/-- t: a comprehension's own name: what is left over there is plain data -/
def LeO (t : Bool) (a b : Option Slot) : Prop := a = b ∨ (a = none ∧ ((∃ d, b = some (.v d)) ∨ (t = false ∧ ∃ xs, b = some (.own xs))))
structure Le (T : Nat → Bool) (ρ ρ' : Env) : Prop where
  len : ρ.length = ρ'.length
  at_ : ∀ i a b, ρ[i]? = some a → ρ'[i]? = some b → LeO (T i) a b
inductive LeR (T : Nat → Bool) {α : Type} : R α → R α → Prop where
  | ok (a : α) {ρ ρ' : Env} (h : Le T ρ ρ') : LeR T (.ok a ρ) (.ok a ρ')
  | exc (c : Nat) (x : Option D) {ρ ρ' : Env} (h : Le T ρ ρ') : LeR T (.exc c x ρ) (.exc c x ρ')
  | bad (r : R α) : LeR T .bad r
inductive LeS (T : Nat → Bool) : SR → SR → Prop where
  | nx {ρ ρ' : Env} (h : Le T ρ ρ') : LeS T (.nx ρ) (.nx ρ')
  | ret (x : Val) {ρ ρ' : Env} (h : Le T ρ ρ') : LeS T (.ret x ρ) (.ret x ρ')
  | brk {ρ ρ' : Env} (h : Le T ρ ρ') : LeS T (.brk ρ) (.brk ρ')
  | ct {ρ ρ' : Env} (h : Le T ρ ρ') : LeS T (.ct ρ) (.ct ρ')
  | exc (c : Nat) (x : Option D) {ρ ρ' : Env} (h : Le T ρ ρ') : LeS T (.exc c x ρ) (.exc c x ρ')
  | bad (r : SR) : LeS T .bad r
section
variable {T : Nat → Bool} {ρ ρ' : Env} {α β : Type}
theorem LeO.refl (t : Bool) (a : Option Slot) : LeO t a a := .inl rfl
theorem Le.refl (T : Nat → Bool) (ρ : Env) : Le T ρ ρ := ⟨rfl, fun i a b h1 h2 => by rw [h1] at h2; cases h2; exact .inl rfl⟩
theorem Le.get (h : Le T ρ ρ') {i : Nat} {s : Slot} (hs : ρ[i]? = some (some s)) : ρ'[i]? = some (some s) := by
  have hi : i < ρ.length := (List.getElem?_eq_some_iff.mp hs).1
  have hi2 : i < ρ'.length := h.len ▸ hi
  have e : ρ'[i]? = some ρ'[i] := List.getElem?_eq_getElem hi2
  rcases h.at_ i _ _ hs e with h1 | ⟨h1, _⟩
  · rw [e, ← h1]
  · cases h1
theorem Le.getO (h : Le T ρ ρ') (i : Nat) : (ρ[i]? = none ∧ ρ'[i]? = none) ∨ ∃ a b, ρ[i]? = some a ∧ ρ'[i]? = some b ∧ LeO (T i) a b := by
  by_cases hi : i < ρ.length
  · have hi2 : i < ρ'.length := h.len ▸ hi
    exact .inr ⟨_, _, List.getElem?_eq_getElem hi, List.getElem?_eq_getElem hi2, h.at_ i _ _ (List.getElem?_eq_getElem hi) (List.getElem?_eq_getElem hi2)⟩
  · exact .inl ⟨List.getElem?_eq_none (by omega), List.getElem?_eq_none (by rw [← h.len]; omega)⟩
theorem Le.set2 (h : Le T ρ ρ') (i : Nat) {a b : Option Slot} (hab : LeO (T i) a b) : Le T (ρ.set i a) (ρ'.set i b) := by
  refine ⟨by rw [List.length_set, List.length_set]; exact h.len, fun j x y h1 h2 => ?_⟩
  by_cases hj : i = j
  · subst hj
    by_cases hi : i < ρ.length
    · rw [List.getElem?_set_self hi] at h1
      rw [List.getElem?_set_self (h.len ▸ hi)] at h2
      cases h1
      cases h2
      exact hab
    · rw [List.getElem?_eq_none (by rw [List.length_set]; omega)] at h1
      cases h1
  · rw [List.getElem?_set_ne hj] at h1 h2
    exact h.at_ j x y h1 h2
theorem Le.set (h : Le T ρ ρ') (i : Nat) (a : Option Slot) : Le T (ρ.set i a) (ρ'.set i a) := h.set2 i (.inl rfl)
theorem Le.wipe (h : Le T ρ ρ') : ∀ is : List Nat, Le T (wipeE ρ is) (wipeE ρ' is)
  | [] => h
  | i :: is => (Le.wipe h is).set i none
theorem Le.getD (h : Le T ρ ρ') (i : Nat) : LeO (T i) (ρ.getD i none) (ρ'.getD i none) := by
  rw [List.getD_eq_getElem?_getD, List.getD_eq_getElem?_getD]
  rcases h.getO i with ⟨h1, h2⟩ | ⟨a, b, h1, h2, h3⟩
  · rw [h1, h2]; exact .inl rfl
  · rw [h1, h2]; exact h3
theorem Le.back {ρ1 ρ1' : Env} (h : Le T ρ ρ') (h1 : Le T ρ1 ρ1') : ∀ is : List Nat, Le T (backE ρ ρ1 is) (backE ρ' ρ1' is)
  | [] => h1
  | i :: is => (Le.back h h1 is).set2 i (h.getD i)
theorem Le.free (h : Le T ρ ρ') {i : Nat} (hf : freeAt ρ i = true) : freeAt ρ' i = true := by
  unfold freeAt at hf ⊢
  rcases h.getO i with ⟨h1, h2⟩ | ⟨a, b, h1, h2, h3⟩
  · rw [h1] at hf; cases hf
  · rw [h1] at hf
    rw [h2]
    rcases h3 with h3 | ⟨_, ⟨d, h3⟩ | ⟨_, xs, h3⟩⟩
    · subst h3; exact hf
    · subst h3; rfl
    · subst h3; rfl
theorem Le.plain (h : Le T ρ ρ') {is : List Nat} (ht : is.all T = true) (hf : plainAt ρ is = true) : plainAt ρ' is = true := by
  unfold plainAt at hf ⊢
  refine List.all_eq_true.mpr fun i hi => ?_
  have hf := List.all_eq_true.mp hf i hi
  have ht := List.all_eq_true.mp ht i hi
  rcases h.getO i with ⟨h1, h2⟩ | ⟨a, b, h1, h2, h3⟩
  · rw [h1] at hf; cases hf
  · rw [h1] at hf
    rw [h2]
    rcases h3 with h3 | ⟨_, ⟨d, h3⟩ | ⟨h4, _⟩⟩
    · subst h3; exact hf
    · subst h3; rfl
    · rw [ht] at h4; cases h4
theorem LeR.bind {r r' : R α} {f f' : α → Env → R β} (h : LeR T r r') (hf : ∀ a (ρ ρ' : Env), Le T ρ ρ' → LeR T (f a ρ) (f' a ρ')) : LeR T (r.bind f) (r'.bind f') := by
  cases h with
  | ok a h => exact hf a _ _ h
  | exc c x h => exact .exc c x h
  | bad r => exact .bad _
theorem LeR.bindD {r r' : R Val} {f f' : D → Env → R β} (h : LeR T r r') (hf : ∀ a (ρ ρ' : Env), Le T ρ ρ' → LeR T (f a ρ) (f' a ρ')) : LeR T (bindD r f) (Pv.bindD r' f') := LeR.bind h fun a _ _ h => hf _ _ _ h
theorem LeR.toS {r r' : R α} {f f' : α → Env → SR} (h : LeR T r r') (hf : ∀ a (ρ ρ' : Env), Le T ρ ρ' → LeS T (f a ρ) (f' a ρ')) : LeS T (r.toS f) (r'.toS f') := by
  cases h with
  | ok a h => exact hf a _ _ h
  | exc c x h => exact .exc c x h
  | bad r => exact .bad _
theorem LeS.bind {r r' : SR} {f f' : Env → SR} (h : LeS T r r') (hf : ∀ (ρ ρ' : Env), Le T ρ ρ' → LeS T (f ρ) (f' ρ')) : LeS T (r.bind f) (r'.bind f') := by
  cases h with
  | nx h => exact hf _ _ h
  | ret x h => exact .ret x h
  | brk h => exact .brk h
  | ct h => exact .ct h
  | exc c x h => exact .exc c x h
  | bad r => exact .bad _
theorem LeR.ofO (o : Option α) (h : Le T ρ ρ') : LeR T (R.ofO o ρ) (R.ofO o ρ') := by
  cases o with
  | none => exact .bad _
  | some a => exact .ok a h
theorem leR_read (h : Le T ρ ρ') (i : Nat) : LeR T (readV ρ i) (readV ρ' i) := by
  unfold readV
  rcases e : ρ[i]? with _ | _ | s
  · exact .bad _
  · exact .bad _
  · rw [h.get e]
    cases s with
    | raw xs => exact .bad _
    | xc a => exact .bad _
    | _ => exact .ok _ (h.set i _)
theorem leR_look (h : Le T ρ ρ') (i : Nat) : LeR T (lookV ρ i) (lookV ρ' i) := by
  unfold lookV
  rcases e : ρ[i]? with _ | _ | s
  · exact .bad _
  · exact .bad _
  · rw [h.get e]
    cases s with
    | raw xs => exact .bad _
    | xc a => exact .bad _
    | _ => exact .ok _ h
theorem LeR.iteR {r r' q q' : R α} (t : Bool) (h1 : LeR T r r') (h2 : LeR T q q') : LeR T (iteR t r q) (Pv.iteR t r' q') := by
  cases t with
  | true => exact h1
  | false => exact h2
theorem LeS.iteS {r r' q q' : SR} (t : Bool) (h1 : LeS T r r') (h2 : LeS T q q') : LeS T (iteS t r q) (Pv.iteS t r' q') := by
  cases t with
  | true => exact h1
  | false => exact h2
theorem leR_and (x : D) {k k' : R Val} (hk : LeR T k k') (h : Le T ρ ρ') : LeR T (andD x k ρ) (andD x k' ρ') := by
  unfold andD
  split
  · exact hk
  · exact .ok _ h
  · exact .bad _
theorem leR_or (x : D) {k k' : R Val} (hk : LeR T k k') (h : Le T ρ ρ') : LeR T (orD x k ρ) (orD x k' ρ') := by
  unfold orD
  split
  · exact hk
  · exact .ok _ h
  · exact .bad _
theorem leR_chain (x : Option Bool) {k k' : R Val} (hk : LeR T k k') (h : Le T ρ ρ') : LeR T (chainD x k ρ) (chainD x k' ρ') := by
  unfold chainD
  split
  · exact hk
  · exact .ok _ h
  · exact .bad _
theorem leR_dd {r r' : R Val} (h : LeR T r r') : LeR T (dd r) (dd r') := LeR.bindD h fun a _ _ h => .ok a h
theorem leR_pk (o : Option Nat) {ev ev' : Env → R Val} (hev : ∀ (ρ ρ' : Env), Le T ρ ρ' → LeR T (ev ρ) (ev' ρ')) (h : Le T ρ ρ') : LeR T (pk o ev ρ) (pk o ev' ρ') := by
  cases o with
  | some i => exact leR_look h i
  | none => exact leR_dd (hev _ _ h)
theorem leR_tup (ds : List D) (h : Le T ρ ρ') : LeR T (tupV ds ρ) (tupV ds ρ') := by
  unfold tupV
  split
  · exact .ok _ h
  · exact .bad _
theorem leR_lst (ds : List D) (h : Le T ρ ρ') : LeR T (lstV ds ρ) (lstV ds ρ') := by
  unfold lstV
  split
  · exact .ok _ h
  · exact .bad _
theorem leR_part (b : Bool) {r r' : R Val} (h : LeR T r r') : LeR T (partR b r) (partR b r') := LeR.bindD h fun a _ _ h => LeR.ofO _ h
theorem le_backS (h : Le T ρ ρ') (p : Option Nat) (o : Option Slot) : backS ρ p o = none ∨ ∃ ρ1 ρ1', backS ρ p o = some ρ1 ∧ backS ρ' p o = some ρ1' ∧ Le T ρ1 ρ1' := by
  cases p with
  | none => exact .inr ⟨ρ, ρ', rfl, rfl, h⟩
  | some i =>
    cases o with
    | none => exact .inl rfl
    | some s =>
      unfold backS
      dsimp only
      rcases e : ρ[i]? with _ | _ | q
      · exact .inl rfl
      · exact .inl rfl
      · rw [h.get e]
        cases q with
        | own xs =>
          cases s with
          | io ys => exact .inr ⟨_, _, rfl, rfl, h.set i _⟩
          | fz ys => exact .inr ⟨_, _, rfl, rfl, h.set i _⟩
          | _ => exact .inl rfl
        | io xs =>
          cases s with
          | io ys => exact .inr ⟨_, _, rfl, rfl, h.set i _⟩
          | fz ys => exact .inr ⟨_, _, rfl, rfl, h.set i _⟩
          | _ => exact .inl rfl
        | _ => exact .inl rfl
theorem leR_back0 (p : Option Nat) (r : FR) (h : Le T ρ ρ') : LeR T (backR p ρ r) (backR p ρ' r) := by
  unfold backR
  cases r with
  | ret x o =>
    dsimp only
    rcases le_backS h p o with e | ⟨ρ1, ρ1', e1, e2, e3⟩
    · rw [e]; exact .bad _
    · rw [e1, e2]; exact .ok _ e3
  | exc c x o =>
    dsimp only
    rcases le_backS h p o with e | ⟨ρ1, ρ1', e1, e2, e3⟩
    · rw [e]; exact .bad _
    · rw [e1, e2]; exact .exc _ _ e3
  | bad => exact .bad _
theorem leR_back (p : Option Nat) {r r' : FR} (hr : r = .bad ∨ r' = r) (h : Le T ρ ρ') : LeR T (backR p ρ r) (backR p ρ' r') := by
  rcases hr with e | e
  · subst e; exact .bad _
  · subst e; exact leR_back0 p _ h
theorem le_ioArg (h : Le T ρ ρ') (i : Nat) {xs : List D} (e : ioArg ρ i = some xs) : ioArg ρ' i = some xs := by
  unfold ioArg at e ⊢
  rcases q : ρ[i]? with _ | _ | s
  · rw [q] at e; cases e
  · rw [q] at e; cases e
  · rw [q] at e
    rw [h.get q]
    exact e
theorem ioArg_rest (h : Le T ρ ρ') (i : Nat) (e : ioArg ρ i = none) : readV ρ i = .bad ∨ ioArg ρ' i = none := by
  unfold ioArg at e
  unfold readV
  rcases q : ρ[i]? with _ | _ | s
  · exact .inl rfl
  · exact .inl rfl
  · rw [q] at e
    right
    unfold ioArg
    rw [h.get q]
    exact e
theorem leR_cio {call call' : List Slot → FR} (hcl : ∀ as, call as = .bad ∨ call' as = call as) (i : Nat) {args args' : Env → R (List D)} (ha : ∀ (ρ ρ' : Env), Le T ρ ρ' → LeR T (args ρ) (args' ρ')) (h : Le T ρ ρ') : LeR T (cioGo call i args ρ) (cioGo call' i args' ρ') := by
  unfold cioGo
  cases e : ioArg ρ i with
  | some xs =>
    rw [le_ioArg h i e]
    dsimp only
    refine LeR.bind (ha _ _ h) fun ds ρ1 ρ1' h1 => ?_
    cases e1 : ioArg ρ1 i with
    | none => exact .bad _
    | some ys =>
      rw [le_ioArg h1 i e1]
      exact leR_back _ (hcl _) h1
  | none =>
    rcases ioArg_rest h i e with e2 | e2
    · dsimp only
      rw [e2]
      exact .bad _
    · rw [e2]
      dsimp only
      exact LeR.bindD (leR_read h i) fun x _ _ h => LeR.bind (ha _ _ h) fun ds _ _ h => leR_back _ (hcl _) h
theorem leR_craw {call call' : List Slot → FR} (hcl : ∀ as, call as = .bad ∨ call' as = call as) (i : Nat) (h : Le T ρ ρ') : LeR T (crawGo call i ρ) (crawGo call' i ρ') := by
  unfold crawGo
  rcases q : ρ[i]? with _ | _ | s
  · exact .bad _
  · exact .bad _
  · rw [h.get q]
    cases s with
    | raw xs => exact leR_back _ (hcl _) h
    | _ => exact .bad _
theorem leR_scr (i : Nat) (n : Int) (h : Le T ρ ρ') : LeR T (scrV ρ i n) (scrV ρ' i n) := by
  unfold scrV
  rcases q : ρ[i]? with _ | _ | s
  · exact .bad _
  · exact .bad _
  · rw [h.get q]
    cases s with
    | raw xs => exact .ok _ h
    | _ => exact .bad _
theorem leR_isx {C C' : Cfg} (he : C'.ex = C.ex) (i : Nat) (c : Option Nat) (h : Le T ρ ρ') : LeR T (isxV C ρ i c) (isxV C' ρ' i c) := by
  unfold isxV
  rw [he]
  rcases q : ρ[i]? with _ | _ | s
  · exact .bad _
  · exact .bad _
  · rw [h.get q]
    cases s with
    | xc a =>
      rcases C.ex with _ | ⟨b, c', _ | x⟩
      · exact .bad _
      · dsimp only
        split
        · exact .ok _ h
        · exact .bad _
      · exact .bad _
    | _ => exact .bad _
theorem leR_put (h : Le T ρ ρ') (i : Nat) (x : Val) : LeR T (putV ρ i x) (putV ρ' i x) := by
  unfold putV
  by_cases hf : freeAt ρ i = true
  · rw [if_pos hf, if_pos (h.free hf)]
    exact .ok _ (h.set i _)
  · rw [if_neg hf]
    exact .bad _
theorem leR_putAll : ∀ (is : List Nat) (ds : List D) {ρ ρ' : Env}, Le T ρ ρ' → LeR T (putAll ρ is ds) (putAll ρ' is ds)
  | [], [], _, _, h => .ok _ h
  | i :: is, d :: ds, _, _, h => LeR.bind (leR_put h i _) fun _ _ _ h => leR_putAll is ds h
  | [], _ :: _, _, _, _ => .bad _
  | _ :: _, [], _, _, _ => .bad _
theorem leR_putN (t : Tg) (d : D) (h : Le T ρ ρ') : LeR T (putN ρ t d) (putN ρ' t d) := by
  unfold putN
  split
  · exact leR_put h _ _
  · split
    · exact leR_putAll _ _ h
    · exact .bad _
  · split
    · exact leR_putAll _ _ h
    · exact .bad _
  · exact .bad _
theorem leR_putU : ∀ (ts : List (List Nat)) (ds : List D) {ρ ρ' : Env}, Le T ρ ρ' → LeR T (putU ρ ts ds) (putU ρ' ts ds)
  | [], [], _, _, h => .ok _ h
  | t :: ts, d :: ds, _, _, h => LeR.bind (leR_putN _ _ h) fun _ _ _ h => leR_putU ts ds h
  | [], _ :: _, _, _, _ => .bad _
  | _ :: _, [], _, _, _ => .bad _
theorem leR_putT (t : Tg) (d : D) (h : Le T ρ ρ') : LeR T (putT ρ t d) (putT ρ' t d) := by
  unfold putT
  split
  · exact leR_put h _ _
  · split
    · exact leR_putU _ _ h
    · exact .bad _
  · split
    · exact leR_putAll _ _ h
    · exact .bad _
  · split
    · exact leR_putAll _ _ h
    · exact .bad _
  · exact .bad _
theorem leR_turn (tg : Tg) (ht : tg.slots.all T = true) {ev ev' : Env → R (Option D)} (hev : ∀ (ρ ρ' : Env), Le T ρ ρ' → LeR T (ev ρ) (ev' ρ')) (x : D) (h : Le T ρ ρ') : LeR T (lcTurn tg ev x ρ) (lcTurn tg ev' x ρ') := by
  unfold lcTurn
  by_cases hf : plainAt ρ tg.slots = true
  · rw [if_pos hf, if_pos (h.plain ht hf)]
    exact LeR.bind (leR_putT tg x (h.wipe _)) fun _ _ _ h2 => LeR.bind (hev _ _ h2) fun o _ _ h3 => .ok o (h.back h3 _)
  · rw [if_neg hf]
    exact .bad _
theorem leR_lcGo {f f' : D → Env → R (Option D)} (hf : ∀ x (ρ ρ' : Env), Le T ρ ρ' → LeR T (f x ρ) (f' x ρ')) : ∀ (xs : List D) {ρ ρ' : Env}, Le T ρ ρ' → LeR T (lcGo f xs ρ) (lcGo f' xs ρ')
  | [], _, _, h => .ok _ h
  | x :: xs, _, _, h => LeR.bind (hf x _ _ h) fun o _ _ h => LeR.bind (leR_lcGo hf xs h) fun r _ _ h => .ok _ h
theorem leR_lcEnd {r r' : R (List D)} (h : LeR T r r') : LeR T (lcEnd r) (lcEnd r') := by
  cases h with
  | ok a h => exact leR_lst a h
  | exc c x h => exact .bad _
  | bad r => exact .bad _
theorem leR_outL {r r' : R Val} {k k' : Out → Env → R Val} (h : LeR T r r') (hk : ∀ o (ρ ρ' : Env), Le T ρ ρ' → LeR T (k o ρ) (k' o ρ')) : LeR T (outL r k) (outL r' k') := by
  cases h with
  | ok a h => exact hk _ _ _ h
  | exc c x h => exact hk _ _ _ h
  | bad r => exact .bad _
theorem leR_lsR (d : D) {r r' : R β} (h : LeR T r r') : LeR T (lsR d r) (lsR d r') := by
  unfold lsR
  split
  · exact h
  · exact .bad _
theorem leR_stR (d : D) {r r' : R β} (h : LeR T r r') : LeR T (stR d r) (stR d r') := by
  unfold stR
  split
  · exact h
  · exact .bad _
end

/-! ### the names of comprehensions -/
section
variable (B : Nat → Bool)
mutual
def okE : E → Bool
  | .nop => true
  | .v _ => true
  | .k _ => true
  | .g _ => true
  | .bin _ a b => okE a && okE b
  | .neg a => okE a
  | .not a => okE a
  | .and a b => okE a && okE b
  | .or a b => okE a && okE b
  | .cmp _ a b => okE a && okE b
  | .chain _ _ a b c => okE a && (okE b && okE c)
  | .ife c a b => okT c && (okE a && okE b)
  | .tup es => okA es
  | .lst es => okA es
  | .ix a i => okE a && okE i
  | .ixv _ i => okE i
  | .sl a lo hi => okE a && (okE lo && okE hi)
  | .slv _ lo hi => okE lo && okE hi
  | .rev a => okE a
  | .call _ es => okA es
  | .cio _ _ es => okA es
  | .craw _ _ => true
  | .scr _ _ => true
  | .b1 _ a => okE a
  | .b2 _ a c => okE a && okE c
  | .isi a _ => okE a
  | .lc elt tg it c => tg.slots.all B && (okE elt && (okI it && okT c))
  | .lam _ e => okE e
  | .isx _ _ => true
  | .fld _ _ => true
  | .dic _ es => okA es
  | .cnt a x => okE a && okE x
  | .idx a x => okE a && okE x
  | .joi a b => okE a && okE b
def okT : T → Bool
  | .e a => okE a
  | .and a b => okT a && okT b
  | .or a b => okT a && okT b
  | .not a => okT a
  | .yes => true
def okA : Es → Bool
  | .nil => true
  | .cons e es => okE e && okA es
def okI : It → Bool
  | .rng es => okA es
  | .of e => okE e
  | .zip a b => okE a && okE b
  | .enum a => okE a
end
mutual
def okS : S → Bool
  | .asg _ e => okE B e
  | .par _ es => okA B es
  | .set _ x e => okE B x && okE B e
  | .aug _ _ e => okE B e
  | .app _ e => okE B e
  | .ext _ e => okE B e
  | .raisex _ _ => true
  | .expr e => okE B e
  | .ite c a b => okT B c && (okSs a && okSs b)
  | .whl c b => okT B c && okSs b
  | .for_ _ it b => okI B it && okSs b
  | .ret e => okE B e
  | .retv _ => true
  | .retN => true
  | .raise _ => true
  | .pass => true
  | .brk => true
  | .ct => true
def okSs : Ss → Bool
  | .nil => true
  | .cons s r => okS s && okSs r
end
end
/-- a configuration that knows at least as much -/
structure CLe (C C' : Cfg) : Prop where
  call : ∀ j as, C.call j as = .bad ∨ C'.call j as = C.call j as
  lowc : ∀ j as, C.lowc j as = .bad ∨ C'.lowc j as = C.lowc j as
  wrd : ∀ j o, C.wrd j o = .bad ∨ C'.wrd j o = C.wrd j o
  ex : C'.ex = C.ex
  gl : C'.gl.g = C.gl.g
theorem CLe.refl (C : Cfg) : CLe C C := ⟨fun _ _ => .inr rfl, fun _ _ => .inr rfl, fun _ _ => .inr rfl, rfl, rfl⟩
theorem CLe.low {C C' : Cfg} (h : CLe C C') : CLe C.low C'.low := ⟨h.lowc, fun _ _ => .inl rfl, fun _ _ => .inl rfl, rfl, h.gl⟩
section
variable {B : Nat → Bool}
theorem band {a b : Bool} (h : (a && b) = true) : a = true ∧ b = true := Bool.and_eq_true_iff.mp h
mutual
theorem leE : ∀ (e : E) {C C' : Cfg} (_ : CLe C C') {ρ ρ' : Env}, okE B e = true → Le B ρ ρ' → LeR B (evE C e ρ) (evE C' e ρ')
  | .nop, C, C', hc, ρ, ρ', o, h => .ok _ h
  | .v i, C, C', hc, ρ, ρ', o, h => leR_read h i
  | .k _, C, C', hc, ρ, ρ', o, h => .ok _ h
  | .g j, C, C', hc, ρ, ρ', o, h => by
    show LeR B (R.ofO ((C.gl.g j).map Val.pv) ρ) (R.ofO ((C'.gl.g j).map Val.pv) ρ')
    rw [hc.gl]
    exact LeR.ofO _ h
  | .bin _ a b, C, C', hc, ρ, ρ', o, h => LeR.bindD (leE a hc (band o).1 h) fun _ _ _ h => LeR.bindD (leE b hc (band o).2 h) fun _ _ _ h => LeR.ofO _ h
  | .neg a, C, C', hc, ρ, ρ', o, h => LeR.bindD (leE a hc o h) fun _ _ _ h => LeR.ofO _ h
  | .not a, C, C', hc, ρ, ρ', o, h => LeR.bindD (leE a hc o h) fun _ _ _ h => LeR.ofO _ h
  | .and a b, C, C', hc, ρ, ρ', o, h => LeR.bindD (leE a hc (band o).1 h) fun _ _ _ h => leR_and _ (leE b hc (band o).2 h) h
  | .or a b, C, C', hc, ρ, ρ', o, h => LeR.bindD (leE a hc (band o).1 h) fun _ _ _ h => leR_or _ (leE b hc (band o).2 h) h
  | .cmp _ a b, C, C', hc, ρ, ρ', o, h => LeR.bindD (leE a hc (band o).1 h) fun _ _ _ h => LeR.bind (leR_pk _ (fun _ _ h => leE b hc (band o).2 h) h) fun _ _ _ h => LeR.ofO _ h
  | .chain _ _ a b c, C, C', hc, ρ, ρ', o, h => LeR.bindD (leE a hc (band o).1 h) fun _ _ _ h => LeR.bindD (leE b hc (band (band o).2).1 h) fun _ _ _ h => leR_chain _ (LeR.bindD (leE c hc (band (band o).2).2 h) fun _ _ _ h => LeR.ofO _ h) h
  | .ife c a b, C, C', hc, ρ, ρ', o, h => LeR.bind (leT c hc (band o).1 h) fun _ _ _ h => LeR.iteR _ (leE a hc (band (band o).2).1 h) (leE b hc (band (band o).2).2 h)
  | .tup es, C, C', hc, ρ, ρ', o, h => LeR.bind (leA es hc o h) fun _ _ _ h => leR_tup _ h
  | .lst es, C, C', hc, ρ, ρ', o, h => LeR.bind (leA es hc o h) fun _ _ _ h => leR_lst _ h
  | .ix a i, C, C', hc, ρ, ρ', o, h => LeR.bindD (leE a hc (band o).1 h) fun _ _ _ h => LeR.bindD (leE i hc (band o).2 h) fun _ _ _ h => LeR.ofO _ h
  | .ixv j i, C, C', hc, ρ, ρ', o, h => LeR.bind (leR_look h j) fun _ _ _ h => LeR.bindD (leE i hc o h) fun _ _ _ h => LeR.bind (leR_look h j) fun _ _ _ h => LeR.ofO _ h
  | .sl a lo hi, C, C', hc, ρ, ρ', o, h => LeR.bindD (leE a hc (band o).1 h) fun _ _ _ h => LeR.bind (leR_part _ (leE lo hc (band (band o).2).1 h)) fun _ _ _ h => LeR.bind (leR_part _ (leE hi hc (band (band o).2).2 h)) fun _ _ _ h => LeR.ofO _ h
  | .slv j lo hi, C, C', hc, ρ, ρ', o, h => LeR.bind (leR_look h j) fun _ _ _ h => LeR.bind (leR_part _ (leE lo hc (band o).1 h)) fun _ _ _ h => LeR.bind (leR_part _ (leE hi hc (band o).2 h)) fun _ _ _ h => LeR.bind (leR_look h j) fun _ _ _ h => LeR.ofO _ h
  | .rev a, C, C', hc, ρ, ρ', o, h => LeR.bind (leR_pk _ (fun _ _ h => leE a hc o h) h) fun _ _ _ h => LeR.ofO _ h
  | .call j es, C, C', hc, ρ, ρ', o, h => LeR.bind (leA es hc o h) fun _ _ _ h => leR_back _ (hc.call _ _) h
  | .cio j i es, C, C', hc, ρ, ρ', o, h => leR_cio (hc.call _) i (fun _ _ h => leA es hc o h) h
  | .craw j i, C, C', hc, ρ, ρ', o, h => leR_craw (hc.call _) i h
  | .scr i n, C, C', hc, ρ, ρ', o, h => leR_scr i n h
  | .b1 b a, C, C', hc, ρ, ρ', o, h => LeR.bind (leR_pk _ (fun _ _ h => leE a hc o h) h) fun _ _ _ h => LeR.ofO _ h
  | .b2 b a c, C, C', hc, ρ, ρ', o, h => LeR.bindD (leE a hc (band o).1 h) fun _ _ _ h => LeR.bindD (leE c hc (band o).2 h) fun _ _ _ h => LeR.ofO _ h
  | .isi a ts, C, C', hc, ρ, ρ', o, h => LeR.bind (leR_pk _ (fun _ _ h => leE a hc o h) h) fun _ _ _ h => .ok _ h
  | .lc elt tg it c, C, C', hc, ρ, ρ', o, h => LeR.bind (leI it hc (band (band (band o).2).2).1 h) fun xs _ _ h => leR_lcEnd (leR_lcGo (f := lcTurn tg fun ρ => (evT C c ρ).bind fun t ρ => iteR t (bindD (evE C elt ρ) fun y ρ => .ok (some y) ρ) (.ok none ρ)) (f' := lcTurn tg fun ρ => (evT C' c ρ).bind fun t ρ => iteR t (bindD (evE C' elt ρ) fun y ρ => .ok (some y) ρ) (.ok none ρ)) (fun x _ _ h => leR_turn tg (band o).1 (fun _ _ h => LeR.bind (leT c hc (band (band (band o).2).2).2 h) fun t _ _ h => LeR.iteR t (LeR.bindD (leE elt hc (band (band o).2).1 h) fun y _ _ h => .ok (some y) h) (.ok none h)) x h) xs h)
  | .lam j e, C, C', hc, ρ, ρ', o, h => leR_outL (leE e hc.low o h) fun _ _ _ h => leR_back _ (hc.wrd _ _) h
  | .isx i c, C, C', hc, ρ, ρ', o, h => leR_isx hc.ex i c h
  | .fld i f, C, C', hc, ρ, ρ', o, h => .bad _
  | .dic ks es, C, C', hc, ρ, ρ', o, h => LeR.bind (leA es hc o h) fun _ _ _ h => LeR.ofO _ h
  | .cnt a x, C, C', hc, ρ, ρ', o, h => LeR.bind (leR_pk _ (fun _ _ h => leE a hc (band o).1 h) h) fun _ _ _ h => leR_lsR _ (LeR.bind (leR_pk _ (fun _ _ h => leE x hc (band o).2 h) h) fun _ _ _ h => LeR.ofO _ h)
  | .idx a x, C, C', hc, ρ, ρ', o, h => LeR.bind (leR_pk _ (fun _ _ h => leE a hc (band o).1 h) h) fun _ _ _ h => leR_lsR _ (LeR.bind (leR_pk _ (fun _ _ h => leE x hc (band o).2 h) h) fun _ _ _ h => LeR.ofO _ h)
  | .joi a b, C, C', hc, ρ, ρ', o, h => LeR.bindD (leE a hc (band o).1 h) fun _ _ _ h => leR_stR _ (LeR.bindD (leE b hc (band o).2 h) fun _ _ _ h => LeR.ofO _ h)
theorem leT : ∀ (t : T) {C C' : Cfg} (_ : CLe C C') {ρ ρ' : Env}, okT B t = true → Le B ρ ρ' → LeR B (evT C t ρ) (evT C' t ρ')
  | .e a, C, C', hc, ρ, ρ', o, h => LeR.bind (leR_pk _ (fun _ _ h => leE a hc o h) h) fun _ _ _ h => LeR.ofO _ h
  | .and a b, C, C', hc, ρ, ρ', o, h => LeR.bind (leT a hc (band o).1 h) fun _ _ _ h => LeR.iteR _ (leT b hc (band o).2 h) (.ok _ h)
  | .or a b, C, C', hc, ρ, ρ', o, h => LeR.bind (leT a hc (band o).1 h) fun _ _ _ h => LeR.iteR _ (.ok _ h) (leT b hc (band o).2 h)
  | .not a, C, C', hc, ρ, ρ', o, h => LeR.bind (leT a hc o h) fun _ _ _ h => .ok _ h
  | .yes, C, C', hc, ρ, ρ', o, h => .ok _ h
theorem leA : ∀ (es : Es) {C C' : Cfg} (_ : CLe C C') {ρ ρ' : Env}, okA B es = true → Le B ρ ρ' → LeR B (evA C es ρ) (evA C' es ρ')
  | .nil, C, C', hc, ρ, ρ', o, h => .ok _ h
  | .cons e es, C, C', hc, ρ, ρ', o, h => LeR.bindD (leE e hc (band o).1 h) fun _ _ _ h => LeR.bind (leA es hc (band o).2 h) fun _ _ _ h => .ok _ h
theorem leI : ∀ (i : It) {C C' : Cfg} (_ : CLe C C') {ρ ρ' : Env}, okI B i = true → Le B ρ ρ' → LeR B (evI C i ρ) (evI C' i ρ')
  | .rng es, C, C', hc, ρ, ρ', o, h => LeR.bind (leA es hc o h) fun _ _ _ h => LeR.ofO _ h
  | .of e, C, C', hc, ρ, ρ', o, h => LeR.bindD (leE e hc o h) fun x _ _ h => LeR.ofO (walkD x) h
  | .zip a b, C, C', hc, ρ, ρ', o, h => LeR.bindD (leE a hc (band o).1 h) fun x _ _ h => LeR.bindD (leE b hc (band o).2 h) fun y _ _ h => LeR.ofO (zipO x y) h
  | .enum a, C, C', hc, ρ, ρ', o, h => LeR.bindD (leE a hc o h) fun x _ _ h => LeR.ofO (enumO x) h
end
theorem leVs : ∀ (es : Es) {C C' : Cfg} (_ : CLe C C') {ρ ρ' : Env}, okA B es = true → Le B ρ ρ' → LeR B (evVs C es ρ) (evVs C' es ρ')
  | .nil, C, C', hc, ρ, ρ', o, h => .ok _ h
  | .cons e es, C, C', hc, ρ, ρ', o, h => LeR.bind (leE e hc (band o).1 h) fun _ _ _ h => LeR.bind (leVs es hc (band o).2 h) fun _ _ _ h => .ok _ h
theorem leR_putVs : ∀ (is : List Nat) (ds : List Val) {ρ ρ' : Env}, Le B ρ ρ' → LeR B (putVs ρ is ds) (putVs ρ' is ds)
  | [], [], _, _, h => .ok _ h
  | i :: is, d :: ds, _, _, h => LeR.bind (leR_put h i _) fun _ _ _ h => leR_putVs is ds h
  | [], _ :: _, _, _, _ => .bad _
  | _ :: _, [], _, _, _ => .bad _
theorem leS_nx {r r' : R Unit} (h : LeR B r r') : LeS B (toNx r) (toNx r') := LeR.toS h fun _ _ _ h => .nx h
theorem leS_asg (t : Tg) (x : Val) {ρ ρ' : Env} (h : Le B ρ ρ') : LeS B (asgV ρ t x) (asgV ρ' t x) := by
  cases t with
  | n i => exact leS_nx (leR_put h i x)
  | t is => exact leS_nx (leR_putT _ _ h)
  | u ts => exact leS_nx (leR_putT _ _ h)
theorem leS_putX (i : Nat) (x d : D) {ρ ρ' : Env} (h : Le B ρ ρ') : LeS B (putX ρ i x d) (putX ρ' i x d) := by
  unfold putX
  rcases q : ρ[i]? with _ | _ | s
  · exact .bad _
  · exact .bad _
  · rw [h.get q]
    cases s with
    | own xs =>
      cases x with
      | int j =>
        dsimp only
        cases setAt? xs j d with
        | none => exact .bad _
        | some ys => exact .nx (h.set i _)
      | _ => exact .bad _
    | io xs =>
      cases x with
      | int j =>
        dsimp only
        cases setAt? xs j d with
        | none => exact .bad _
        | some ys => exact .nx (h.set i _)
      | _ => exact .bad _
    | _ => exact .bad _
theorem leS_addX (i : Nat) (d : D) {ρ ρ' : Env} (h : Le B ρ ρ') : LeS B (addX ρ i d) (addX ρ' i d) := by
  unfold addX
  rcases q : ρ[i]? with _ | _ | s
  · exact .bad _
  · exact .bad _
  · rw [h.get q]
    cases s with
    | own xs =>
      dsimp only
      split
      · exact .nx (h.set i _)
      · exact .bad _
    | io xs =>
      dsimp only
      split
      · exact .nx (h.set i _)
      · exact .bad _
    | _ => exact .bad _
theorem leS_extX (i : Nat) (d : D) {ρ ρ' : Env} (h : Le B ρ ρ') : LeS B (extX ρ i d) (extX ρ' i d) := by
  unfold extX
  rcases q : ρ[i]? with _ | _ | s
  · exact .bad _
  · exact .bad _
  · rw [h.get q]
    cases s with
    | own xs =>
      cases d with
      | list ys =>
        dsimp only
        split
        · exact .nx (h.set i _)
        · exact .bad _
      | _ => exact .bad _
    | io xs =>
      cases d with
      | list ys =>
        dsimp only
        split
        · exact .nx (h.set i _)
        · exact .bad _
      | _ => exact .bad _
    | _ => exact .bad _
theorem leS_retV (i : Nat) {ρ ρ' : Env} (h : Le B ρ ρ') : LeS B (retV ρ i) (retV ρ' i) := by
  unfold retV
  rcases q : ρ[i]? with _ | _ | s
  · exact .bad _
  · exact .bad _
  · rw [h.get q]
    cases s with
    | raw xs => exact .bad _
    | xc a => exact .bad _
    | _ => exact .ret _ (h.set i _)
theorem leR_ioArg (i : Nat) {ρ ρ' : Env} (h : Le B ρ ρ') : LeR B (R.ofO (ioArg ρ i) ρ) (R.ofO (ioArg ρ' i) ρ') := by
  cases e : ioArg ρ i with
  | none => exact .bad _
  | some xs => rw [le_ioArg h i e]; exact .ok _ h
theorem leS_forGo {f f' : D → Env → SR} (hf : ∀ x (ρ ρ' : Env), Le B ρ ρ' → LeS B (f x ρ) (f' x ρ')) : ∀ (xs : List D) {ρ ρ' : Env}, Le B ρ ρ' → LeS B (forGo f xs ρ) (forGo f' xs ρ')
  | [], _, _, h => .nx h
  | x :: xs, ρ, ρ', h => by
    have k := hf x ρ ρ' h
    unfold forGo
    revert k
    generalize f x ρ = r
    generalize f' x ρ' = r'
    intro k
    cases k with
    | nx h => exact leS_forGo hf xs h
    | ret x h => exact .ret x h
    | brk h => exact .nx h
    | ct h => exact leS_forGo hf xs h
    | exc c x h => exact .exc c x h
    | bad r => exact .bad _
theorem le_whlF {c c' : Env → R Bool} {b b' : Env → SR} (hc : ∀ (ρ ρ' : Env), Le B ρ ρ' → LeR B (c ρ) (c' ρ')) (hb : ∀ (ρ ρ' : Env), Le B ρ ρ' → LeS B (b ρ) (b' ρ')) : ∀ (n : Nat) {ρ ρ' : Env} {r : SR}, Le B ρ ρ' → whlF c b n ρ = some r → r = .bad ∨ ∃ r', whlF c' b' n ρ' = some r' ∧ LeS B r r'
  | 0, _, _, _, _, h => by cases h
  | n + 1, ρ, ρ', r, h, e => by
    unfold whlF at e ⊢
    have k := hc ρ ρ' h
    revert k e
    generalize c ρ = q
    generalize c' ρ' = q'
    intro e k
    cases k with
    | ok t h1 =>
      cases t with
      | false =>
        cases e
        exact .inr ⟨_, rfl, .nx h1⟩
      | true =>
        rename_i ρ1 ρ1'
        have k2 := hb ρ1 ρ1' h1
        dsimp only at e ⊢
        revert k2 e
        generalize b ρ1 = p
        generalize b' ρ1' = p'
        intro e k2
        cases k2 with
        | nx h2 => exact le_whlF hc hb n h2 e
        | ct h2 => exact le_whlF hc hb n h2 e
        | brk h2 => cases e; exact .inr ⟨_, rfl, .nx h2⟩
        | ret x h2 => cases e; exact .inr ⟨_, rfl, .ret x h2⟩
        | exc a x h2 => cases e; exact .inr ⟨_, rfl, .exc a x h2⟩
        | bad r => cases e; exact .inl rfl
    | exc a x h1 =>
      cases e
      exact .inr ⟨_, rfl, .exc a x h1⟩
    | bad r => cases e; exact .inl rfl
theorem leS_whl {c c' : Env → R Bool} {b b' : Env → SR} (hc : ∀ (ρ ρ' : Env), Le B ρ ρ' → LeR B (c ρ) (c' ρ')) (hb : ∀ (ρ ρ' : Env), Le B ρ ρ' → LeS B (b ρ) (b' ρ')) {ρ ρ' : Env} (h : Le B ρ ρ') : LeS B (whl c b ρ) (whl c' b' ρ') := by
  by_cases hx : whl c b ρ = .bad
  · rw [hx]; exact .bad _
  · obtain ⟨n, hn⟩ := whl_ends hx
    rcases le_whlF hc hb n h hn with e | ⟨r', e, k⟩
    · exact absurd e hx
    · rw [whl_of e]; exact k
mutual
theorem leS : ∀ (s : S) {C C' : Cfg} (_ : CLe C C') {ρ ρ' : Env}, okS B s = true → Le B ρ ρ' → LeS B (evS C s ρ) (evS C' s ρ')
  | .asg t e, C, C', hc, ρ, ρ', o, h => LeR.toS (leE e hc o h) fun _ _ _ h => leS_asg t _ h
  | .par is es, C, C', hc, ρ, ρ', o, h => LeR.toS (leVs es hc o h) fun _ _ _ h => leS_nx (leR_putVs _ _ h)
  | .set i x e, C, C', hc, ρ, ρ', o, h => LeR.toS (LeR.bindD (leE e hc (band o).2 h) fun _ _ _ h => LeR.bind (leR_look h i) fun _ _ _ h => LeR.bindD (leE x hc (band o).1 h) fun _ _ _ h => .ok _ h) fun _ _ _ h => leS_putX _ _ _ h
  | .aug i _ e, C, C', hc, ρ, ρ', o, h => LeR.toS (LeR.bind (leR_look h i) fun _ _ _ h => LeR.bindD (leE e hc o h) fun _ _ _ h => LeR.ofO _ h) fun _ _ _ h => leS_nx (leR_put h _ _)
  | .app i e, C, C', hc, ρ, ρ', o, h => LeR.toS (leR_ioArg i h) fun _ _ _ h => LeR.toS (leR_dd (leE e hc o h)) fun _ _ _ h => leS_addX _ _ h
  | .ext i e, C, C', hc, ρ, ρ', o, h => LeR.toS (leR_ioArg i h) fun _ _ _ h => LeR.toS (leR_dd (leE e hc o h)) fun _ _ _ h => leS_extX _ _ h
  | .raisex _ _, C, C', hc, ρ, ρ', o, h => .bad _
  | .expr e, C, C', hc, ρ, ρ', o, h => LeR.toS (leE e hc o h) fun _ _ _ h => .nx h
  | .ite c a b, C, C', hc, ρ, ρ', o, h => LeR.toS (leT c hc (band o).1 h) fun _ _ _ h => LeS.iteS _ (leSs a hc (band (band o).2).1 h) (leSs b hc (band (band o).2).2 h)
  | .whl c b, C, C', hc, ρ, ρ', o, h => leS_whl (fun _ _ h => leT c hc (band o).1 h) (fun _ _ h => leSs b hc (band o).2 h) h
  | .for_ t it b, C, C', hc, ρ, ρ', o, h => LeR.toS (leI it hc (band o).1 h) fun _ _ _ h => leS_forGo (fun x _ _ h => LeR.toS (leR_putT t x h) fun _ _ _ h => leSs b hc (band o).2 h) _ h
  | .ret e, C, C', hc, ρ, ρ', o, h => LeR.toS (leE e hc o h) fun _ _ _ h => .ret _ h
  | .retv i, C, C', hc, ρ, ρ', o, h => leS_retV i h
  | .retN, C, C', hc, ρ, ρ', o, h => .ret _ h
  | .raise c, C, C', hc, ρ, ρ', o, h => .exc _ _ h
  | .pass, C, C', hc, ρ, ρ', o, h => .nx h
  | .brk, C, C', hc, ρ, ρ', o, h => .brk h
  | .ct, C, C', hc, ρ, ρ', o, h => .ct h
theorem leSs : ∀ (s : Ss) {C C' : Cfg} (_ : CLe C C') {ρ ρ' : Env}, okSs B s = true → Le B ρ ρ' → LeS B (evSs C s ρ) (evSs C' s ρ')
  | .nil, C, C', hc, ρ, ρ', o, h => .nx h
  | .cons s r, C, C', hc, ρ, ρ', o, h => LeS.bind (leS s hc (band o).1 h) fun _ _ h => leSs r hc (band o).2 h
end
end

/-! ### loops with a bound: the kernel can reckon -/
section
variable (K : Nat) (C : Cfg)
mutual
noncomputable def evSF : S → Env → SR
  | .asg t e, ρ => (evE C e ρ).toS fun x ρ => asgV ρ t x
  | .par is es, ρ => (evVs C es ρ).toS fun ds ρ => toNx (putVs ρ is ds)
  | .set i x e, ρ => (bindD (evE C e ρ) fun d ρ => (lookV ρ i).bind fun _ ρ => bindD (evE C x ρ) fun j ρ => .ok (d, j) ρ).toS fun p ρ => putX ρ i p.2 p.1
  | .aug i o e, ρ => ((lookV ρ i).bind fun x ρ => bindD (evE C e ρ) fun y ρ => R.ofO (augD o x y) ρ).toS fun z ρ => toNx (putD ρ i z)
  | .app i e, ρ => (R.ofO (ioArg ρ i) ρ).toS fun _ ρ => (dd (evE C e ρ)).toS fun y ρ => addX ρ i y
  | .ext i e, ρ => (R.ofO (ioArg ρ i) ρ).toS fun _ ρ => (dd (evE C e ρ)).toS fun y ρ => extX ρ i y
  | .raisex _ _, _ => .bad
  | .expr e, ρ => (evE C e ρ).toS fun _ ρ => .nx ρ
  | .ite c a b, ρ => (evT C c ρ).toS fun t ρ => iteS t (evSsF a ρ) (evSsF b ρ)
  | .whl c b, ρ => (whlF (fun ρ => evT C c ρ) (fun ρ => evSsF b ρ) K ρ).getD .bad
  | .for_ t it b, ρ => (evI C it ρ).toS fun xs ρ => forGo (fun x ρ => (putT ρ t x).toS fun _ ρ => evSsF b ρ) xs ρ
  | .ret e, ρ => (evE C e ρ).toS fun x ρ => .ret x ρ
  | .retv i, ρ => retV ρ i
  | .retN, ρ => .ret (.pv .none) ρ
  | .raise c, ρ => .exc c none ρ
  | .pass, ρ => .nx ρ
  | .brk, ρ => .brk ρ
  | .ct, ρ => .ct ρ
noncomputable def evSsF : Ss → Env → SR
  | .nil, ρ => .nx ρ
  | .cons s r, ρ => (evSF s ρ).bind fun ρ => evSsF r ρ
end
end
section
variable {B : Nat → Bool}
theorem leS_whlF (K : Nat) {c c' : Env → R Bool} {b b' : Env → SR} (hc : ∀ (ρ ρ' : Env), Le B ρ ρ' → LeR B (c ρ) (c' ρ')) (hb : ∀ (ρ ρ' : Env), Le B ρ ρ' → LeS B (b ρ) (b' ρ')) {ρ ρ' : Env} (h : Le B ρ ρ') : LeS B ((whlF c b K ρ).getD .bad) (whl c' b' ρ') := by
  cases e : whlF c b K ρ with
  | none => exact .bad _
  | some r =>
    rcases le_whlF hc hb K h e with e | ⟨r', e, k⟩
    · subst e; exact .bad _
    · rw [whl_of e]; exact k
mutual
theorem leSF (K : Nat) : ∀ (s : S) {C C' : Cfg} (_ : CLe C C') {ρ ρ' : Env}, okS B s = true → Le B ρ ρ' → LeS B (evSF K C s ρ) (evS C' s ρ')
  | .asg t e, C, C', hc, ρ, ρ', o, h => LeR.toS (leE e hc o h) fun _ _ _ h => leS_asg t _ h
  | .par is es, C, C', hc, ρ, ρ', o, h => LeR.toS (leVs es hc o h) fun _ _ _ h => leS_nx (leR_putVs _ _ h)
  | .set i x e, C, C', hc, ρ, ρ', o, h => LeR.toS (LeR.bindD (leE e hc (band o).2 h) fun _ _ _ h => LeR.bind (leR_look h i) fun _ _ _ h => LeR.bindD (leE x hc (band o).1 h) fun _ _ _ h => .ok _ h) fun _ _ _ h => leS_putX _ _ _ h
  | .aug i _ e, C, C', hc, ρ, ρ', o, h => LeR.toS (LeR.bind (leR_look h i) fun _ _ _ h => LeR.bindD (leE e hc o h) fun _ _ _ h => LeR.ofO _ h) fun _ _ _ h => leS_nx (leR_put h _ _)
  | .app i e, C, C', hc, ρ, ρ', o, h => LeR.toS (leR_ioArg i h) fun _ _ _ h => LeR.toS (leR_dd (leE e hc o h)) fun _ _ _ h => leS_addX _ _ h
  | .ext i e, C, C', hc, ρ, ρ', o, h => LeR.toS (leR_ioArg i h) fun _ _ _ h => LeR.toS (leR_dd (leE e hc o h)) fun _ _ _ h => leS_extX _ _ h
  | .raisex _ _, C, C', hc, ρ, ρ', o, h => .bad _
  | .expr e, C, C', hc, ρ, ρ', o, h => LeR.toS (leE e hc o h) fun _ _ _ h => .nx h
  | .ite c a b, C, C', hc, ρ, ρ', o, h => LeR.toS (leT c hc (band o).1 h) fun _ _ _ h => LeS.iteS _ (leSsF K a hc (band (band o).2).1 h) (leSsF K b hc (band (band o).2).2 h)
  | .whl c b, C, C', hc, ρ, ρ', o, h => leS_whlF K (fun _ _ h => leT c hc (band o).1 h) (fun _ _ h => leSsF K b hc (band o).2 h) h
  | .for_ t it b, C, C', hc, ρ, ρ', o, h => LeR.toS (leI it hc (band o).1 h) fun _ _ _ h => leS_forGo (fun x _ _ h => LeR.toS (leR_putT t x h) fun _ _ _ h => leSsF K b hc (band o).2 h) _ h
  | .ret e, C, C', hc, ρ, ρ', o, h => LeR.toS (leE e hc o h) fun _ _ _ h => .ret _ h
  | .retv i, C, C', hc, ρ, ρ', o, h => leS_retV i h
  | .retN, C, C', hc, ρ, ρ', o, h => .ret _ h
  | .raise c, C, C', hc, ρ, ρ', o, h => .exc _ _ h
  | .pass, C, C', hc, ρ, ρ', o, h => .nx h
  | .brk, C, C', hc, ρ, ρ', o, h => .brk h
  | .ct, C, C', hc, ρ, ρ', o, h => .ct h
theorem leSsF (K : Nat) : ∀ (s : Ss) {C C' : Cfg} (_ : CLe C C') {ρ ρ' : Env}, okSs B s = true → Le B ρ ρ' → LeS B (evSsF K C s ρ) (evSs C' s ρ')
  | .nil, C, C', hc, ρ, ρ', o, h => .nx h
  | .cons s r, C, C', hc, ρ, ρ', o, h => LeS.bind (leSF K s hc (band o).1 h) fun _ _ h => leSsF K r hc (band o).2 h
end
end

/-- the levels, loops with a bound; wt: what the defs that take a lambda tell -/
noncomputable def runsF (K : Nat) (wt : Nat → Out → FR) (P : List Fn) (gl : Nat → Option D) : Nat → (Nat → List Slot → FR) × (Nat → List Slot → FR) × (Nat → List Slot → FR)
  | 0 => (fun _ _ => .bad, fun _ _ => .bad, fun _ _ => .bad)
  | n + 1 => (fun j as => match P[j]? with
    | some f => if as.length = f.ar ∧ argOk as = true then finR as (evSsF K ⟨(runsF K wt P gl n).1, (runsF K wt P gl n).2.2, wt, none, ⟨gl, fun _ => none, 0⟩⟩ f.body (as.map some ++ List.replicate (f.nl - f.ar) none)) else .bad
    | none => .bad, (runsF K wt P gl n).1, (runsF K wt P gl n).2.1)
noncomputable def runF (K : Nat) (wt : Nat → Out → FR) (P : List Fn) (gl : Nat → Option D) (n : Nat) : Nat → List Slot → FR := (runsF K wt P gl n).1
theorem fin_le {B : Nat → Bool} {as : List Slot} {r r' : SR} (h : LeS B r r') : finR as r = .bad ∨ finR as r' = finR as r := by
  have key : ∀ {ρ ρ' : Env}, Le B ρ ρ' → ∀ {o}, outOf as ρ = some o → outOf as ρ' = some o := fun {ρ ρ'} hl {o} ho => by
    match as, ho with
    | [], ho => exact ho
    | .v _ :: _, ho => exact ho
    | .own _ :: _, ho => exact ho
    | .fz _ :: _, ho => exact ho
    | .raw _ :: _, ho => exact ho
    | .xc _ :: _, ho => exact ho
    | .io _ :: _, ho =>
      unfold outOf at ho ⊢
      dsimp only at ho ⊢
      rw [List.getD_eq_getElem?_getD] at ho ⊢
      rcases q : ρ[0]? with _ | _ | s
      · rw [q] at ho; cases ho
      · rw [q] at ho; cases ho
      · rw [hl.get q]
        rw [q] at ho
        exact ho
  cases h with
  | nx h =>
    unfold finR
    dsimp only
    cases e : outOf as _ with
    | none => exact .inl rfl
    | some o => rw [key h e]; exact .inr rfl
  | ret x h =>
    unfold finR
    dsimp only
    cases e : outOf as _ with
    | none => exact .inl rfl
    | some o => rw [key h e]; exact .inr rfl
  | exc c x h =>
    unfold finR
    dsimp only
    cases e : outOf as _ with
    | none => exact .inl rfl
    | some o => rw [key h e]; exact .inr rfl
  | brk h => exact .inl rfl
  | ct h => exact .inl rfl
  | bad r => exact .inl rfl
/-- nobody's names -/
abbrev noB : Nat → Bool := fun _ => true
theorem all_noB (is : List Nat) : is.all noB = true := List.all_eq_true.mpr fun _ _ => rfl
mutual
theorem okE_no : ∀ e : E, okE noB e = true
  | .nop => rfl
  | .v _ => rfl
  | .k _ => rfl
  | .g _ => rfl
  | .bin _ a b => Bool.and_eq_true_iff.mpr ⟨okE_no a, okE_no b⟩
  | .neg a => okE_no a
  | .not a => okE_no a
  | .and a b => Bool.and_eq_true_iff.mpr ⟨okE_no a, okE_no b⟩
  | .or a b => Bool.and_eq_true_iff.mpr ⟨okE_no a, okE_no b⟩
  | .cmp _ a b => Bool.and_eq_true_iff.mpr ⟨okE_no a, okE_no b⟩
  | .chain _ _ a b c => Bool.and_eq_true_iff.mpr ⟨okE_no a, Bool.and_eq_true_iff.mpr ⟨okE_no b, okE_no c⟩⟩
  | .ife c a b => Bool.and_eq_true_iff.mpr ⟨okT_no c, Bool.and_eq_true_iff.mpr ⟨okE_no a, okE_no b⟩⟩
  | .tup es => okA_no es
  | .lst es => okA_no es
  | .ix a i => Bool.and_eq_true_iff.mpr ⟨okE_no a, okE_no i⟩
  | .ixv _ i => okE_no i
  | .sl a lo hi => Bool.and_eq_true_iff.mpr ⟨okE_no a, Bool.and_eq_true_iff.mpr ⟨okE_no lo, okE_no hi⟩⟩
  | .slv _ lo hi => Bool.and_eq_true_iff.mpr ⟨okE_no lo, okE_no hi⟩
  | .rev a => okE_no a
  | .call _ es => okA_no es
  | .cio _ _ es => okA_no es
  | .craw _ _ => rfl
  | .scr _ _ => rfl
  | .b1 _ a => okE_no a
  | .b2 _ a c => Bool.and_eq_true_iff.mpr ⟨okE_no a, okE_no c⟩
  | .isi a _ => okE_no a
  | .lc elt tg it c => Bool.and_eq_true_iff.mpr ⟨all_noB _, Bool.and_eq_true_iff.mpr ⟨okE_no elt, Bool.and_eq_true_iff.mpr ⟨okI_no it, okT_no c⟩⟩⟩
  | .lam _ e => okE_no e
  | .isx _ _ => rfl
  | .fld _ _ => rfl
  | .dic _ es => okA_no es
  | .cnt a x => Bool.and_eq_true_iff.mpr ⟨okE_no a, okE_no x⟩
  | .idx a x => Bool.and_eq_true_iff.mpr ⟨okE_no a, okE_no x⟩
  | .joi a b => Bool.and_eq_true_iff.mpr ⟨okE_no a, okE_no b⟩
theorem okT_no : ∀ e : T, okT noB e = true
  | .e a => okE_no a
  | .and a b => Bool.and_eq_true_iff.mpr ⟨okT_no a, okT_no b⟩
  | .or a b => Bool.and_eq_true_iff.mpr ⟨okT_no a, okT_no b⟩
  | .not a => okT_no a
  | .yes => rfl
theorem okA_no : ∀ e : Es, okA noB e = true
  | .nil => rfl
  | .cons e es => Bool.and_eq_true_iff.mpr ⟨okE_no e, okA_no es⟩
theorem okI_no : ∀ e : It, okI noB e = true
  | .rng es => okA_no es
  | .of e => okE_no e
  | .zip a b => Bool.and_eq_true_iff.mpr ⟨okE_no a, okE_no b⟩
  | .enum a => okE_no a
end
mutual
theorem okS_no : ∀ e : S, okS noB e = true
  | .asg _ e => okE_no e
  | .par _ es => okA_no es
  | .set _ x e => Bool.and_eq_true_iff.mpr ⟨okE_no x, okE_no e⟩
  | .aug _ _ e => okE_no e
  | .app _ e => okE_no e
  | .ext _ e => okE_no e
  | .raisex _ _ => rfl
  | .expr e => okE_no e
  | .ite c a b => Bool.and_eq_true_iff.mpr ⟨okT_no c, Bool.and_eq_true_iff.mpr ⟨okSs_no a, okSs_no b⟩⟩
  | .whl c b => Bool.and_eq_true_iff.mpr ⟨okT_no c, okSs_no b⟩
  | .for_ _ it b => Bool.and_eq_true_iff.mpr ⟨okI_no it, okSs_no b⟩
  | .ret e => okE_no e
  | .retv _ => rfl
  | .retN => rfl
  | .raise _ => rfl
  | .pass => rfl
  | .brk => rfl
  | .ct => rfl
theorem okSs_no : ∀ e : Ss, okSs noB e = true
  | .nil => rfl
  | .cons s r => Bool.and_eq_true_iff.mpr ⟨okS_no s, okSs_no r⟩
end
section
variable {P : List Fn} {gl : Gls}
theorem wrd_le (gl : Gls) (n : Nat) (j : Nat) (o : Out) : wrdN gl n j o = .bad ∨ wrdN gl (n + 1) j o = wrdN gl n j o := by
  match n with
  | 0 => exact .inl rfl
  | 1 => exact .inl rfl
  | n + 2 => exact .inr rfl
theorem run_le1 : ∀ (n j : Nat) (as : List Slot), run P gl n j as = .bad ∨ run P gl (n + 1) j as = run P gl n j as
  | 0, _, _ => .inl rfl
  | n + 1, j, as => by
    have low : ∀ j as, run P gl (n - 2) j as = .bad ∨ run P gl (n + 1 - 2) j as = run P gl (n - 2) j as := fun j as => by
      by_cases h : 2 ≤ n
      · rw [show n + 1 - 2 = (n - 2) + 1 by omega]
        exact run_le1 (n - 2) j as
      · rw [show n - 2 = 0 by omega]
        exact .inl rfl
    rw [run_eq, run_eq]
    cases P[j]? with
    | none => exact .inl rfl
    | some f =>
      dsimp only
      split
      · exact fin_le (leSs f.body (B := noB) (C := cf P gl n) (C' := cf P gl (n + 1)) ⟨fun j as => run_le1 n j as, low, wrd_le gl n, rfl, rfl⟩ (okSs_no _) (Le.refl _ _))
      · exact .inl rfl
/-- more levels: the same outcome -/
theorem run_le {n j : Nat} {as : List Slot} {r : FR} (h : run P gl n j as = r) (hr : r ≠ .bad) : ∀ m, run P gl (n + m) j as = r
  | 0 => h
  | m + 1 => by
    have := run_le h hr m
    rcases run_le1 (P := P) (gl := gl) (n + m) j as with e | e
    · rw [this] at e; exact absurd e hr
    · rw [← Nat.add_assoc, e]; exact this
theorem run_ge {n m j : Nat} {as : List Slot} {r : FR} (h : run P gl n j as = r) (hr : r ≠ .bad) (hm : n ≤ m) : run P gl m j as = r := by
  have := run_le h hr (m - n)
  rwa [Nat.add_sub_cancel' hm] at this
theorem runF_le {K : Nat} {wt : Nat → Out → FR} (hw : ∀ j o, wt j o = .bad ∨ wrdOf gl j o = wt j o) : ∀ (n j : Nat) (as : List Slot), runF K wt P gl.g n j as = .bad ∨ run P gl (n + 2) j as = runF K wt P gl.g n j as
  | 0, _, _ => .inl rfl
  | n + 1, j, as => by
    have low : ∀ j as, (runsF K wt P gl.g n).2.2 j as = .bad ∨ run P gl (n + 2 - 2) j as = (runsF K wt P gl.g n).2.2 j as := fun j as => by
      match n with
      | 0 => exact .inl rfl
      | 1 => exact .inl rfl
      | n + 2 =>
        rcases runF_le (K := K) hw n j as with e | e
        · exact .inl e
        · exact .inr e
    have e : runF K wt P gl.g (n + 1) j as = (match P[j]? with
      | some f => if as.length = f.ar ∧ argOk as = true then finR as (evSsF K ⟨(runsF K wt P gl.g n).1, (runsF K wt P gl.g n).2.2, wt, none, ⟨gl.g, fun _ => none, 0⟩⟩ f.body (as.map some ++ List.replicate (f.nl - f.ar) none)) else .bad
      | none => .bad) := rfl
    rw [e, show n + 1 + 2 = (n + 2) + 1 from rfl, run_eq]
    cases P[j]? with
    | none => exact .inl rfl
    | some f =>
      dsimp only
      split
      · exact fin_le (leSsF K f.body (B := noB) (C := ⟨(runsF K wt P gl.g n).1, (runsF K wt P gl.g n).2.2, wt, none, ⟨gl.g, fun _ => none, 0⟩⟩) (C' := cf P gl (n + 2)) ⟨fun j as => runF_le hw n j as, low, hw, rfl, rfl⟩ (okSs_no _) (Le.refl _ _))
      · exact .inl rfl
/-- what the kernel has reckoned -/
theorem run_ofF {K n m j : Nat} {wt : Nat → Out → FR} {as : List Slot} {r : FR} (hw : ∀ j o, wt j o = .bad ∨ wrdOf gl j o = wt j o) (h : runF K wt P gl.g n j as = r) (hr : r ≠ .bad) (hm : n + 2 ≤ m) : run P gl m j as = r := by
  rcases runF_le (P := P) (K := K) hw n j as with e | e
  · rw [h] at e; exact absurd e hr
  · exact run_ge (e.trans h) hr hm
theorem wt0 (gl : Gls) : ∀ j o, (fun _ _ => .bad : Nat → Out → FR) j o = .bad ∨ wrdOf gl j o = (fun _ _ => .bad : Nat → Out → FR) j o := fun _ _ => .inl rfl
end
end Pv

namespace Pv
open PySem

/-! ### sizes, found by instances -/
theorem lim_n : LIM = 1000000 := rfl
class Sz (i : Int) (n : outParam Nat) : Prop where
  h : i.natAbs < 2 ^ n
theorem sz_le {i : Int} {n m : Nat} (h : i.natAbs < 2 ^ n) (hm : n ≤ m) : i.natAbs < 2 ^ m := Nat.lt_of_lt_of_le h (Nat.pow_le_pow_right (by decide) hm)
instance sz_mul {a b : Int} {m n : Nat} [ha : Sz a m] [hb : Sz b n] : Sz (a * b) (m + n) := ⟨by
  rw [Int.natAbs_mul, Nat.pow_add]
  exact Nat.mul_lt_mul'' ha.h hb.h⟩
theorem sz_two {a b : Int} {m n : Nat} (ha : a.natAbs < 2 ^ m) (hb : b.natAbs < 2 ^ n) : a.natAbs + b.natAbs < 2 ^ (max m n + 1) := by
  have h1 := sz_le ha (Nat.le_max_left m n)
  have h2 := sz_le hb (Nat.le_max_right m n)
  rw [Nat.pow_succ]
  omega
instance sz_add {a b : Int} {m n : Nat} [ha : Sz a m] [hb : Sz b n] : Sz (a + b) (max m n + 1) := ⟨Nat.lt_of_le_of_lt (Int.natAbs_add_le a b) (sz_two ha.h hb.h)⟩
instance sz_sub {a b : Int} {m n : Nat} [ha : Sz a m] [hb : Sz b n] : Sz (a - b) (max m n + 1) := ⟨Nat.lt_of_le_of_lt (by omega) (sz_two ha.h hb.h)⟩
instance sz_neg {a : Int} {m : Nat} [ha : Sz a m] : Sz (-a) m := ⟨by rw [Int.natAbs_neg]; exact ha.h⟩
instance sz_div {a b : Int} {m : Nat} [ha : Sz a m] : Sz (a / b) m := ⟨Nat.lt_of_le_of_lt (Int.natAbs_ediv_le_natAbs a b) ha.h⟩
theorem mod_abs {a b : Int} : (a % b).natAbs ≤ max a.natAbs b.natAbs := by
  by_cases hb : b = 0
  · subst hb
    rw [Int.emod_zero]
    omega
  · have h1 := Int.emod_nonneg a hb
    have h2 := Int.emod_lt a hb
    omega
instance sz_mod {a b : Int} {m n : Nat} [ha : Sz a m] [hb : Sz b n] : Sz (a % b) (max m n) := ⟨by
  have h1 := sz_le ha.h (Nat.le_max_left m n)
  have h2 := sz_le hb.h (Nat.le_max_right m n)
  have := mod_abs (a := a) (b := b)
  omega⟩
instance sz_abs {a : Int} {m : Nat} [ha : Sz a m] : Sz (a.natAbs : Int) m := ⟨by rw [Int.natAbs_natCast]; exact ha.h⟩
theorem sz_lit (k : Nat) : k < 2 ^ (k.log2 + 1) := Nat.lt_log2_self
instance sz_ofNat {k : Nat} : Sz (no_index (OfNat.ofNat k : Int)) (k.log2 + 1) := ⟨by
  show (Int.natAbs (k : Int)) < _
  rw [Int.natAbs_natCast]
  exact sz_lit k⟩
instance sz_0 : Sz 0 1 := ⟨by decide⟩
instance sz_1 : Sz 1 1 := ⟨by decide⟩
theorem Sz.of {i : Int} (n : Nat) (h : i.natAbs < 2 ^ n) : Sz i n := ⟨h⟩
theorem Sz.le {i : Int} {n : Nat} (m : Nat) (h : Sz i n) (hm : n ≤ m) : Sz i m := ⟨sz_le h.h hm⟩
theorem BIG_of {n m : Nat} (h : n < 2 ^ m) (hm : m ≤ 1000000) : n < BIG := by
  rw [BIG_eq]
  exact Nat.lt_of_lt_of_le h (Nat.pow_le_pow_right (by decide) hm)
theorem DIVB_of {n m : Nat} (h : n < 2 ^ m) (hm : m ≤ 9000) : n < DIVB := by
  rw [DIVB_eq]
  exact Nat.lt_of_lt_of_le h (Nat.pow_le_pow_right (by decide) hm)
theorem z_mul {i j : Int} {m n : Nat} [hi : Sz i m] [hj : Sz j n] (hm : m ≤ 1000000) (hn : n ≤ 1000000) : binD .mul (.int i) (.int j) = some (.int (i * j)) := b_mul (BIG_of hi.h hm) (BIG_of hj.h hn)
theorem z_div {i j : Int} {n : Nat} [hj : Sz j n] (h : 0 < j) (hn : n ≤ 9000) : binD .fdiv (.int i) (.int j) = some (.int (i / j)) := b_fdiv h (DIVB_of hj.h hn)

/-! ### loops, from the names that live on -/
section
variable {T : Nat → Bool}
theorem LeO.trans {t : Bool} {a b c : Option Slot} (h : LeO t a b) (h2 : LeO t b c) : LeO t a c := by
  rcases h with h | ⟨h, k⟩
  · subst h; exact h2
  · rcases h2 with h2 | ⟨h2, k2⟩
    · subst h2; exact .inr ⟨h, k⟩
    · rcases k with ⟨d, k⟩ | ⟨_, xs, k⟩ <;> rw [k] at h2 <;> cases h2
theorem Le.trans {ρ1 ρ2 ρ3 : Env} (h : Le T ρ1 ρ2) (h2 : Le T ρ2 ρ3) : Le T ρ1 ρ3 := by
  refine ⟨h.len.trans h2.len, fun i a b ha hb => ?_⟩
  rcases h.getO i with ⟨e, _⟩ | ⟨x, y, e1, e2, k⟩
  · rw [e] at ha; cases ha
  · rw [e1] at ha
    cases ha
    exact k.trans (h2.at_ i y b e2 hb)
/-- place by place -/
def leL (T : Nat → Bool) : Nat → Env → Env → Prop
  | k, a :: r, b :: r' => LeO (T k) a b ∧ leL T (k + 1) r r'
  | _, [], [] => True
  | _, _, _ => False
theorem leL_at : ∀ {ρ ρ' : Env} {k : Nat}, leL T k ρ ρ' → ρ.length = ρ'.length ∧ ∀ i a b, ρ[i]? = some a → ρ'[i]? = some b → LeO (T (k + i)) a b
  | [], [], k, _ => ⟨rfl, fun i a b h _ => by simp at h⟩
  | x :: r, y :: r', k, h => by
    obtain ⟨h1, h2⟩ := leL_at h.2
    refine ⟨by rw [List.length_cons, List.length_cons, h1], fun i a b ha hb => ?_⟩
    cases i with
    | zero =>
      simp only [List.getElem?_cons_zero, Option.some.injEq] at ha hb
      subst ha hb
      exact h.1
    | succ i =>
      rw [List.getElem?_cons_succ] at ha hb
      have := h2 i a b ha hb
      rwa [show k + 1 + i = k + (i + 1) by omega] at this
theorem le_of {ρ ρ' : Env} (h : leL T 0 ρ ρ') : Le T ρ ρ' := by
  obtain ⟨h1, h2⟩ := leL_at h
  exact ⟨h1, fun i a b ha hb => by have := h2 i a b ha hb; rwa [Nat.zero_add] at this⟩
@[simp] theorem leO_same (t : Bool) (a : Option Slot) : LeO t a a ↔ True := ⟨fun _ => trivial, fun _ => .inl rfl⟩
@[simp] theorem leO_nv (t : Bool) (d : D) : LeO t none (some (.v d)) ↔ True := ⟨fun _ => trivial, fun _ => .inr ⟨rfl, .inl ⟨d, rfl⟩⟩⟩
@[simp] theorem leO_no (xs : List D) : LeO false none (some (.own xs)) ↔ True := ⟨fun _ => trivial, fun _ => .inr ⟨rfl, .inr ⟨rfl, xs, rfl⟩⟩⟩
@[simp] theorem leL_cons (k : Nat) (a b : Option Slot) (r r' : Env) : leL T k (a :: r) (b :: r') ↔ LeO (T k) a b ∧ leL T (k + 1) r r' := Iff.rfl
@[simp] theorem leL_nil (k : Nat) : leL T k [] [] ↔ True := Iff.rfl
variable {C : Cfg} {b : Ss}
/-- a for loop: from each state the suite leads to a state, the rest of the names being whatever they are -/
theorem for_le {St : Type} (E : St → Env) (I : Nat → St → Prop) {t : Tg} {xs : List D} (ok : okSs T b = true)
    (body : ∀ k x σ, xs[k]? = some x → I k σ → ∃ σ' ρ1, ((putT (E σ) t x).toS fun _ ρ => evSs C b ρ) = .nx ρ1 ∧ Le T (E σ') ρ1 ∧ I (k + 1) σ') :
    ∀ (ys : List D) (k : Nat) (σ : St) (ρ : Env), xs.drop k = ys → I k σ → Le T (E σ) ρ → ∃ σ' ρ', forGo (fun x ρ => (putT ρ t x).toS fun _ ρ => evSs C b ρ) ys ρ = .nx ρ' ∧ Le T (E σ') ρ' ∧ I (k + ys.length) σ'
  | [], k, σ, ρ, _, hI, hl => ⟨σ, ρ, rfl, hl, hI⟩
  | y :: ys, k, σ, ρ, hd, hI, hl => by
    have hk : xs[k]? = some y := by rw [← List.head?_drop, hd]; rfl
    have hd2 : xs.drop (k + 1) = ys := by rw [← List.tail_drop, hd]; rfl
    obtain ⟨σ1, ρ1, e, h1, h2⟩ := body k y σ hk hI
    have key := LeR.toS (leR_putT t y hl) (f := fun _ ρ => evSs C b ρ) (f' := fun _ ρ => evSs C b ρ) fun _ _ _ h => leSs b (CLe.refl C) ok h
    rw [e] at key
    generalize hq : ((putT ρ t y).toS fun _ ρ => evSs C b ρ) = r' at key
    cases key with
    | nx h3 =>
      obtain ⟨σ', ρ', e', h', i'⟩ := for_le E I ok body ys (k + 1) σ1 _ hd2 h2 (h1.trans h3)
      refine ⟨σ', ρ', ?_, h', by rw [List.length_cons, show k + (ys.length + 1) = k + 1 + ys.length by omega]; exact i'⟩
      unfold forGo
      rw [hq]
      exact e'
/-- the same for a statement -/
theorem for_st {St : Type} (E : St → Env) (I : Nat → St → Prop) {t : Tg} {it : It} {xs : List D} {ρ ρ1 : Env} (ok : okSs T b = true) (σ : St) (hit : evI C it ρ = .ok xs ρ1) (h0 : Le T (E σ) ρ1) (hI : I 0 σ)
    (body : ∀ k x σ, xs[k]? = some x → I k σ → ∃ σ' ρ1, ((putT (E σ) t x).toS fun _ ρ => evSs C b ρ) = .nx ρ1 ∧ Le T (E σ') ρ1 ∧ I (k + 1) σ') :
    ∃ σ' ρ', evS C (.for_ t it b) ρ = .nx ρ' ∧ Le T (E σ') ρ' ∧ I xs.length σ' := by
  obtain ⟨σ', ρ', e, h, i⟩ := for_le E I ok body xs 0 σ ρ1 rfl hI h0
  refine ⟨σ', ρ', ?_, h, by rwa [Nat.zero_add] at i⟩
  show (evI C it ρ).toS _ = _
  rw [hit]
  exact e
/-- a while loop: each turn leads to a state that is nearer to the end -/
theorem whl_st {St : Type} (E : St → Env) (I : St → Prop) (Q : St → Prop) (m : St → Nat) {c : Pv.T} {b : Ss} (okc : okT T c = true) (okb : okSs T b = true)
    (body : ∀ σ, I σ → (∃ ρ1, evT C c (E σ) = .ok false ρ1 ∧ Le T (E σ) ρ1 ∧ Q σ) ∨ ∃ ρ1 ρ2 σ', evT C c (E σ) = .ok true ρ1 ∧ evSs C b ρ1 = .nx ρ2 ∧ Le T (E σ') ρ2 ∧ I σ' ∧ m σ' < m σ) :
    ∀ (k : Nat) (σ : St) (ρ : Env), m σ ≤ k → I σ → Le T (E σ) ρ → ∃ σ' ρ', evS C (.whl c b) ρ = .nx ρ' ∧ Le T (E σ') ρ' ∧ I σ' ∧ Q σ' := by
  intro k
  induction k with
  | zero =>
    intro σ ρ hm hI hl
    rcases body σ hI with ⟨ρ1, e, h, q⟩ | ⟨ρ1, ρ2, σ', e1, e2, h, i, hlt⟩
    · have key := leT c (CLe.refl C) okc hl
      rw [e] at key
      generalize hq : evT C c ρ = r' at key
      cases key with
      | ok _ h3 => exact ⟨σ, _, whl_f hq, h.trans h3, hI, q⟩
    · omega
  | succ k ih =>
    intro σ ρ hm hI hl
    rcases body σ hI with ⟨ρ1, e, h, q⟩ | ⟨ρ1, ρ2, σ', e1, e2, h, i, hlt⟩
    · have key := leT c (CLe.refl C) okc hl
      rw [e] at key
      generalize hq : evT C c ρ = r' at key
      cases key with
      | ok _ h3 => exact ⟨σ, _, whl_f hq, h.trans h3, hI, q⟩
    · have key := leT c (CLe.refl C) okc hl
      rw [e1] at key
      generalize hq : evT C c ρ = r' at key
      cases key with
      | ok _ h3 =>
        rename_i ρ1'
        have key2 := leSs b (CLe.refl C) okb h3
        rw [e2] at key2
        generalize hq2 : evSs C b ρ1' = r2 at key2
        cases key2 with
        | nx h4 =>
          rw [whl_t hq hq2]
          exact ih σ' _ (by omega) i (h.trans h4)
end
/-- what is left of a def behind a loop -/
theorem rest_ret {T : Nat → Bool} {C : Cfg} {s : Ss} {ρ ρ' ρ1 : Env} {x : Val} (ok : okSs T s = true) (hl : Le T ρ ρ') (h : evSs C s ρ = .ret x ρ1) : ∃ ρ1', evSs C s ρ' = .ret x ρ1' ∧ Le T ρ1 ρ1' := by
  have key := leSs s (CLe.refl C) ok hl
  rw [h] at key
  generalize hq : evSs C s ρ' = r' at key
  cases key with
  | ret _ h3 => exact ⟨_, rfl, h3⟩
theorem rest_s {T : Nat → Bool} {C : Cfg} {s : S} {ρ ρ' ρ1 : Env} (ok : okS T s = true) (hl : Le T ρ ρ') (h : evS C s ρ = .nx ρ1) : ∃ ρ1', evS C s ρ' = .nx ρ1' ∧ Le T ρ1 ρ1' := by
  have key := leS s (CLe.refl C) ok hl
  rw [h] at key
  generalize hq : evS C s ρ' = r' at key
  cases key with
  | nx h3 => exact ⟨_, rfl, h3⟩
theorem rest_nx {T : Nat → Bool} {C : Cfg} {s : Ss} {ρ ρ' ρ1 : Env} (ok : okSs T s = true) (hl : Le T ρ ρ') (h : evSs C s ρ = .nx ρ1) : ∃ ρ1', evSs C s ρ' = .nx ρ1' ∧ Le T ρ1 ρ1' := by
  have key := leSs s (CLe.refl C) ok hl
  rw [h] at key
  generalize hq : evSs C s ρ' = r' at key
  cases key with
  | nx h3 => exact ⟨_, rfl, h3⟩
end Pv
namespace Pv
open PySem
section
variable {T : Nat → Bool} {C : Cfg} {b : Ss}
/-- a for loop along a row of environments -/
theorem for_seq (F : Nat → Env) {t : Tg} {it : It} {xs : List D} {ρ ρ1 : Env} (ok : okSs T b = true) (hit : evI C it ρ = .ok xs ρ1) (h0 : Le T (F 0) ρ1)
    (body : ∀ k x, xs[k]? = some x → ∃ ρ1, ((putT (F k) t x).toS fun _ ρ => evSs C b ρ) = .nx ρ1 ∧ Le T (F (k + 1)) ρ1) :
    ∃ ρ', evS C (.for_ t it b) ρ = .nx ρ' ∧ Le T (F xs.length) ρ' := by
  obtain ⟨σ, ρ', e, h, rfl⟩ := for_st (St := Nat) F (fun k σ => σ = k) ok 0 hit h0 rfl fun k x σ hx hI => by
    subst hI
    obtain ⟨ρ1, e, h⟩ := body σ x hx
    exact ⟨σ + 1, ρ1, e, h, rfl⟩
  exact ⟨ρ', e, h⟩
/-- the state in front of the k-th of some ints -/
def foldAt {St : Type} (f : St → Int → St) (σ : St) (ns : List Int) (k : Nat) : St := (ns.take k).foldl f σ
theorem foldAt_zero {St : Type} (f : St → Int → St) (σ : St) (ns : List Int) : foldAt f σ ns 0 = σ := rfl
theorem foldAt_succ {St : Type} (f : St → Int → St) (σ : St) {ns : List Int} {k : Nat} {x : Int} (h : ns[k]? = some x) : foldAt f σ ns (k + 1) = f (foldAt f σ ns k) x := by
  unfold foldAt
  rw [List.take_add_one, h]
  simp
theorem foldAt_len {St : Type} (f : St → Int → St) (σ : St) (ns : List Int) : foldAt f σ ns ns.length = ns.foldl f σ := by
  unfold foldAt
  rw [List.take_length]
/-- a for loop over ints that folds -/
theorem for_fold {St : Type} (E : St → Env) (f : St → Int → St) (J : Nat → St → Prop) {i : Nat} {it : It} {ns : List Int} {ρ ρ1 : Env} {σ : St} (ok : okSs T b = true) (hit : evI C it ρ = .ok (ns.map PyData.int) ρ1) (h0 : Le T (E σ) ρ1) (hJ : J 0 σ)
    (body : ∀ k x σ, ns[k]? = some x → J k σ → J (k + 1) (f σ x) ∧ ∃ ρ1, ((putT (E σ) (.n i) (.int x)).toS fun _ ρ => evSs C b ρ) = .nx ρ1 ∧ Le T (E (f σ x)) ρ1) :
    ∃ ρ', evS C (.for_ (.n i) it b) ρ = .nx ρ' ∧ Le T (E (ns.foldl f σ)) ρ' ∧ J ns.length (ns.foldl f σ) := by
  obtain ⟨σ', ρ', e, h, h1, h2⟩ := for_st (St := St) E (fun k σ' => σ' = foldAt f σ ns k ∧ J k σ') ok σ hit h0 ⟨rfl, hJ⟩ fun k x σ' hx hI => by
    obtain ⟨rfl, hI⟩ := hI
    rw [List.getElem?_map] at hx
    obtain ⟨y, hy, rfl⟩ := Option.map_eq_some_iff.mp hx
    obtain ⟨j1, ρ1, e, h⟩ := body k y _ hy hI
    exact ⟨_, ρ1, e, h, (foldAt_succ f σ hy).symm, j1⟩
  rw [List.length_map] at h1 h2
  rw [foldAt_len] at h1
  subst h1
  exact ⟨ρ', e, h, h2⟩
end
/-- the state-wise turn of a comprehension whose element hands the names on -/
theorem lcGo_st {St : Type} (E : St → Env) (I : St → Prop) (W : D → D → Prop) {f : D → Env → R (Option D)} : ∀ (xs : List D) (σ : St), I σ →
    (∀ x ∈ xs, ∀ σ, I σ → ∃ σ' y, f x (E σ) = .ok (some y) (E σ') ∧ I σ' ∧ W x y) → ∃ σ' ys, lcGo f xs (E σ) = .ok ys (E σ') ∧ I σ' ∧ ys.length = xs.length ∧ ∀ y ∈ ys, ∃ x ∈ xs, W x y
  | [], σ, hI, _ => ⟨σ, [], rfl, hI, rfl, fun y hy => by cases hy⟩
  | x :: xs, σ, hI, step => by
    obtain ⟨σ1, y, e, h1, r⟩ := step x (List.mem_cons_self ..) σ hI
    obtain ⟨σ2, ys, e2, h2, hl, hr⟩ := lcGo_st E I W xs σ1 h1 fun z hz => step z (List.mem_cons_of_mem _ hz)
    refine ⟨σ2, y :: ys, ?_, h2, by rw [List.length_cons, List.length_cons, hl], fun z hz => ?_⟩
    · unfold lcGo
      rw [e]
      dsimp only [R.bind]
      rw [e2]
      rfl
    · rcases List.mem_cons.mp hz with rfl | hz
      · exact ⟨x, List.mem_cons_self .., r⟩
      · obtain ⟨w, hw, hr⟩ := hr z hz
        exact ⟨w, List.mem_cons_of_mem _ hw, hr⟩
end Pv
namespace Pv
open PySem
/-! ### cuts -/
@[simp] theorem nop_n : isNop .nop = true := rfl
@[simp] theorem nop_k (d : D) : isNop (.k d) = false := rfl
@[simp] theorem nop_v (i : Nat) : isNop (.v i) = false := rfl
@[simp] theorem nop_g (i : Nat) : isNop (.g i) = false := rfl
@[simp] theorem nop_bin (o : BOp) (a b : E) : isNop (.bin o a b) = false := rfl
@[simp] theorem nop_neg (a : E) : isNop (.neg a) = false := rfl
@[simp] theorem nop_b1 (b : Blt) (a : E) : isNop (.b1 b a) = false := rfl
@[simp] theorem nop_ixv (b : Nat) (a : E) : isNop (.ixv b a) = false := rfl
@[simp] theorem nop_call (b : Nat) (a : Es) : isNop (.call b a) = false := rfl
@[simp] theorem partR_t (x : Val) (ρ : Env) : partR true (.ok x ρ) = .ok none ρ := rfl
@[simp] theorem partR_i (i : Int) (ρ : Env) : partR false (.ok (.pv (.int i)) ρ) = .ok (some i) ρ := rfl
@[simp] theorem slD_t (xs : List D) (lo hi : Option Int) : slD (.tuple xs) lo hi = some (.tuple (cut xs lo hi)) := rfl
@[simp] theorem slD_l (xs : List D) (lo hi : Option Int) : slD (.list xs) lo hi = some (.list (cut xs lo hi)) := rfl
theorem cut_map {α β : Type} (f : α → β) (xs : List α) (lo hi : Option Int) : cut (xs.map f) lo hi = (cut xs lo hi).map f := by
  unfold cut
  rw [List.length_map, List.map_take, List.map_drop]
theorem cut_drop {α : Type} {xs : List α} {k : Int} (h0 : 0 ≤ k) : cut xs (some k) none = xs.drop k.toNat := by
  have e : HT.sIx xs.length 0 (some k) = min k.toNat xs.length := by simp [HT.sIx]; omega
  have e2 : HT.sIx xs.length xs.length none = xs.length := by simp [HT.sIx]
  unfold cut
  rw [e, e2]
  by_cases h : k.toNat ≤ xs.length
  · rw [Nat.min_eq_left h, List.take_of_length_le (by rw [List.length_drop]; exact Nat.le_refl _)]
  · rw [Nat.min_eq_right (by omega), List.drop_of_length_le (Nat.le_refl _), List.drop_of_length_le (by omega), List.take_nil]
theorem cut_take {α : Type} {xs : List α} {k : Int} (h0 : 0 ≤ k) : cut xs none (some k) = xs.take k.toNat := by
  have e : HT.sIx xs.length xs.length (some k) = min k.toNat xs.length := by simp [HT.sIx]; omega
  have e2 : HT.sIx xs.length 0 none = 0 := by simp [HT.sIx]
  unfold cut
  rw [e, e2, List.drop_zero, Nat.sub_zero, Nat.min_def]
  split
  · rfl
  · rw [List.take_of_length_le (Nat.le_refl _), List.take_of_length_le (by omega)]
theorem cut_init {α : Type} {xs : List α} : cut xs none (some (-1)) = xs.dropLast := by
  have e : HT.sIx xs.length xs.length (some (-1)) = xs.length - 1 := by simp [HT.sIx]; omega
  have e2 : HT.sIx xs.length 0 none = 0 := by simp [HT.sIx]
  unfold cut
  rw [e, e2, List.drop_zero, Nat.sub_zero, List.dropLast_eq_take]
theorem last_at {xs : List D} {d : D} : L2.atI (xs ++ [d]) (-1) = some d := by
  unfold L2.atI L2.ixN
  have e : (-1 + ((xs.length : Int) + 1)).toNat = xs.length := by omega
  have e2 : (1 : Int) ≤ (xs.length : Int) + 1 := by omega
  simp [e, e2]
end Pv
namespace Pv
open PySem
theorem all_tt {α : Type} (xs : List α) : (xs.all fun _ => true) = true := List.all_eq_true.mpr fun _ _ => rfl
theorem any_ff {α : Type} (xs : List α) : (xs.any fun _ => false) = false := List.any_eq_false.mpr fun _ _ => by simp
end Pv
namespace Pv
open PySem
/-! ### ranges -/
theorem range_len (c : Int) : ∀ (n : Nat) (lo : Int), (rangeD lo n c).length = n
  | 0, _ => rfl
  | n + 1, lo => by
    show (rangeD (lo + c) n c).length + 1 = n + 1
    rw [range_len c n]
theorem range_get (c : Int) : ∀ (n : Nat) (lo : Int) (k : Nat) (x : D), (rangeD lo n c)[k]? = some x → k < n ∧ x = .int (lo + c * k)
  | 0, lo, k, x, h => by simp [rangeD] at h
  | n + 1, lo, 0, x, h => by
    simp only [rangeD, List.getElem?_cons_zero, Option.some.injEq] at h
    refine ⟨by omega, ?_⟩
    rw [← h]
    simp
  | n + 1, lo, k + 1, x, h => by
    simp only [rangeD, List.getElem?_cons_succ] at h
    obtain ⟨h1, h2⟩ := range_get c n (lo + c) k x h
    refine ⟨by omega, ?_⟩
    rw [h2, Int.natCast_add, Int.mul_add]
    congr 1
    omega
/-- range(i, j) for places of rows -/
theorem rng2 {i j : Int} (h1 : i.natAbs ≤ 2 ^ 60) (h2 : j.natAbs ≤ 2 ^ 60) : rngOf [.int i, .int j] = some (i, (j - i).toNat, 1) := if_pos ⟨by omega, by omega⟩
theorem rng1 {j : Int} (h2 : j.natAbs ≤ 2 ^ 60) : rngOf [.int j] = some (0, j.toNat, 1) := by
  have h : j.natAbs < 2 ^ 62 := by
    omega
  exact if_pos h
end Pv
namespace Pv
open PySem
@[simp] theorem b_addT (xs ys : List D) : binD .add (.tuple xs) (.tuple ys) = if xs.length + ys.length ≤ LIM then some (.tuple (xs ++ ys)) else none := rfl
@[simp] theorem b_addL (xs ys : List D) : binD .add (.list xs) (.list ys) = if xs.length + ys.length ≤ LIM then some (.list (xs ++ ys)) else none := rfl
@[simp] theorem b_mulT (xs : List D) (k : Int) : binD .mul (.tuple xs) (.int k) = if k.natAbs < 2 ^ 62 ∧ xs.length * k.toNat ≤ LIM then some (.tuple (List.replicate k.toNat xs).flatten) else none := rfl
@[simp] theorem b_mulL' (xs : List D) (k : Int) : binD .mul (.list xs) (.int k) = if k.natAbs < 2 ^ 62 ∧ xs.length * k.toNat ≤ LIM then some (.list (List.replicate k.toNat xs).flatten) else none := rfl
end Pv
namespace Pv
open PySem
theorem lcGo_2 {i j : Nat} {ev : Env → R (Option D)} {ρ : Env} {α : Type} {f1 f2 g : α → D} (hi : i < ρ.length) (hj : j < ρ.length) (hij : i ≠ j) (hp : plainAt ρ [i, j] = true) : ∀ {xs : List α}, (∀ p ∈ xs, ev ((ρ.set i (some (.v (f1 p)))).set j (some (.v (f2 p)))) = .ok (some (g p)) ((ρ.set i (some (.v (f1 p)))).set j (some (.v (f2 p))))) → lcGo (lcTurn (.t [i, j]) ev) (xs.map fun p => .tuple [f1 p, f2 p]) ρ = .ok (xs.map g) ρ
  | [], _ => rfl
  | p :: r, h => by
    show (lcTurn (.t [i, j]) ev (.tuple [f1 p, f2 p]) ρ).bind _ = _
    rw [lcTurn_2 hi hj hij hp (h p (List.mem_cons_self ..)), R.bind_ok, lcGo_2 hi hj hij hp fun q hq => h q (List.mem_cons_of_mem _ hq)]
    rfl
end Pv
namespace Pv
open PySem
theorem lcGo_1 {i : Nat} {ev : Env → R (Option D)} {ρ : Env} {α : Type} {f g : α → D} (hi : i < ρ.length) (hp : plainAt ρ [i] = true) : ∀ {xs : List α}, (∀ p ∈ xs, ev (ρ.set i (some (.v (f p)))) = .ok (some (g p)) (ρ.set i (some (.v (f p))))) → lcGo (lcTurn (.n i) ev) (xs.map f) ρ = .ok (xs.map g) ρ
  | [], _ => rfl
  | p :: r, h => by
    show (lcTurn (.n i) ev (f p) ρ).bind _ = _
    rw [lcTurn_n hi hp (h p (List.mem_cons_self ..)), R.bind_ok, lcGo_1 hi hp fun q hq => h q (List.mem_cons_of_mem _ hq)]
    rfl
/-- a turn that hands the names on -/
theorem lcTurn_on {i : Nat} {ev : Env → R (Option D)} {ρ ρ3 : Env} {x : D} {o : Option D} (hp : plainAt ρ [i] = true) (h : ev (ρ.set i (some (.v x))) = .ok o ρ3) : lcTurn (.n i) ev x ρ = .ok o (ρ3.set i (ρ.getD i none)) := by
  have hi : i < ρ.length := by
    unfold plainAt at hp
    have hp := List.all_eq_true.mp hp i (List.mem_singleton.mpr rfl)
    cases hx : ρ[i]? with
    | none => rw [hx] at hp; cases hp
    | some s => exact (List.getElem?_eq_some_iff.mp hx).1
  unfold lcTurn
  rw [if_pos (show plainAt ρ (Tg.n i).slots = true from hp)]
  show ((if freeAt (ρ.set i none) i = true then R.ok () ((ρ.set i none).set i (some (.v x))) else .bad).bind fun _ ρ2 => (ev ρ2).bind fun o ρ3 => .ok o (backE ρ ρ3 [i])) = _
  have f1 : freeAt (ρ.set i none) i = true := by
    unfold freeAt
    rw [List.getElem?_set_self hi]
  rw [if_pos f1, List.set_set, R.bind_ok, h]
  rfl
theorem ints_map : ∀ ns : List Int, intsOf (ns.map PyData.int) = some ns
  | [] => rfl
  | x :: r => by
    show (intsOf (r.map PyData.int)).map _ = _
    rw [ints_map r]
    rfl
theorem bools_map : ∀ ns : List Bool, boolsOf (ns.map PyData.bool) = some ns
  | [] => rfl
  | x :: r => by
    show (boolsOf (r.map PyData.bool)).map _ = _
    rw [bools_map r]
    rfl
@[simp] theorem revD_t (xs : List D) : revD (.tuple xs) = some (.tuple xs.reverse) := rfl
@[simp] theorem revD_l (xs : List D) : revD (.list xs) = some (.list xs.reverse) := rfl
end Pv
namespace Pv
open PySem
@[simp] theorem bv_sum (d : D) : bltV .sum d = .pv d := rfl
@[simp] theorem bv_min (d : D) : bltV .min d = .pv d := rfl
@[simp] theorem bv_max (d : D) : bltV .max d = .pv d := rfl
@[simp] theorem bv_list (xs : List D) : bltV .list (.list xs) = .fr xs := rfl
@[simp] theorem bv_sort (xs : List D) : bltV .sorted (.list xs) = .fr xs := rfl
theorem bl_sum (xs : List D) : bltD .sum [.list xs] = (intsOf xs).map fun ns => .int ns.sum := rfl
end Pv

namespace Pv
open PySem

/-! ### the drawing, whatever its numbers -/
/-- jd deals figures from what H tells of -/
structure Deal (P : List Fn) (gl : Gls) (jd : Nat) (H : List D → Prop) : Prop where
  draw : ∀ (n : Nat) {many : Int} {xs : List D}, H xs → 0 < many → many < 2 ^ 200 → ∃ (r : Int) (ys : List D), run P gl (n + 2) jd [.io xs, .v (.int many)] = .ret (.pv (.int r)) (some (.io ys)) ∧ H ys ∧ 0 ≤ r ∧ r < many
def dHeadP (ce : E) (A G M : Int) : S := (.ite (.and (.e (.cmp .eq (.ixv 0 (.k (.int 2))) (.k (.int 0)))) (.e (.cmp .lt (.ixv 0 (.k (.int 1))) (.b1 .len (.ixv 0 (.k (.int 0)))))))
 (.cons (.asg (.n 3) (.ix (.ixv 0 (.k (.int 0))) (.ixv 0 (.k (.int 1)))))
 (.cons (.set 0 (.k (.int 1)) (.bin .add (.ixv 0 (.k (.int 1))) (.k (.int 1))))
 (.cons (.set 0 (.k (.int 3)) (.bin .mod (.b1 .int (.bin .add (.bin .add (.bin .mul (.ixv 0 (.k (.int 3))) (.k (.int A))) ce) (.k (.int G)))) (.k (.int M))))
 (.cons (.ite (.e (.cmp .ge (.v 3) (.bin .pow (.k (.int 10)) (.k (.int 18)))))
 (.cons (.set 0 (.k (.int 2)) (.v 3))
 .nil)
 .nil)
 .nil))))
 .nil)
def dTailP (T U N1 D1 V1 N2 D2 V2 N3 SH : Int) : Ss := (.cons (.ite (.e (.cmp .gt (.ixv 0 (.k (.int 2))) (.k (.int 0))))
 (.cons (.asg (.n 4) (.bin .mod (.b1 .int (.ixv 0 (.k (.int 2)))) (.v 1)))
 (.cons (.set 0 (.k (.int 2)) (.bin .fdiv (.ixv 0 (.k (.int 2))) (.v 1)))
 (.cons (.retv 4)
 .nil)))
 .nil)
 (.cons (.set 0 (.k (.int 4)) (.bin .add (.ixv 0 (.k (.int 4))) (.k (.int 1))))
 (.cons (.asg (.n 2) (.bin .mod (.b1 .int (.bin .mul (.b1 .int (.bin .add (.ixv 0 (.k (.int 3))) (.bin .mul (.k (.int T)) (.ixv 0 (.k (.int 4)))))) (.k (.int U)))) (.k (.int N1))))
 (.cons (.asg (.n 2) (.bin .mod (.b1 .int (.bin .mul (.v 2) (.bin .add (.bin .fdiv (.v 2) (.k (.int D1))) (.k (.int V1))))) (.k (.int N2))))
 (.cons (.asg (.n 2) (.bin .mod (.b1 .int (.bin .mul (.v 2) (.bin .add (.bin .fdiv (.v 2) (.k (.int D2))) (.k (.int V2))))) (.k (.int N3))))
 (.cons (.ret (.bin .mod (.b1 .int (.bin .fdiv (.v 2) (.k (.int SH)))) (.v 1)))
 .nil))))))
def fDrawP (ce : E) (A G M T U N1 D1 V1 N2 D2 V2 N3 SH : Int) : Fn := ⟨2, 5, .cons (dHeadP ce A G M) (dTailP T U N1 D1 V1 N2 D2 V2 N3 SH)⟩
/-- the hand: the cells, the place, the figures left, the state, the count -/
def Hd5 (xs : List D) : Prop := ∃ (cs : List Int) (i b s c : Int), xs = [.list (cs.map PyData.int), .int i, .int b, .int s, .int c] ∧ (∀ x ∈ cs, 0 ≤ x) ∧ 0 ≤ i ∧ 0 ≤ b
def shortI (x : Int) : Bool := decide (x.natAbs < 2 ^ 61)
def posI (x : Int) : Bool := decide (0 < x) && shortI x
theorem shortI_ok {x : Int} (h : shortI x = true) : x.natAbs < 2 ^ 61 := of_decide_eq_true h
theorem posI_ok {x : Int} (h : posI x = true) : 0 < x ∧ x.natAbs < 2 ^ 61 := by
  obtain ⟨h1, h2⟩ := band h
  exact ⟨of_decide_eq_true h1, shortI_ok h2⟩
section
variable {P : List Fn} {gl : Gls} {j : Nat} {ce : E} {cv : Int → Int} {A G M T U N1 D1 V1 N2 D2 V2 N3 SH : Int}
theorem tailP_ok {C : Cfg} {cs : D} {i b s c many : Int} {z : Option Slot} {h0 : List D} {as : List Slot} (hk : (shortI T && (shortI U && (posI N1 && (posI D1 && (posI N2 && (posI D2 && (posI N3 && posI SH))))))) = true) (hm : 0 < many) (hm2 : many < 2 ^ 200) (hb : 0 ≤ b) :
    ∃ r b' c' : Int, finR (.io h0 :: as) (evSs C (dTailP T U N1 D1 V1 N2 D2 V2 N3 SH) [some (.io [cs, .int i, .int b, .int s, .int c]), some (.v (.int many)), none, z, none]) = .ret (.pv (.int r)) (some (.io [cs, .int i, .int b', .int s, .int c'])) ∧ 0 ≤ r ∧ r < many ∧ 0 ≤ b' := by
  obtain ⟨k1, hk⟩ := band hk
  obtain ⟨k2, hk⟩ := band hk
  obtain ⟨k3, hk⟩ := band hk
  obtain ⟨k4, hk⟩ := band hk
  obtain ⟨k5, hk⟩ := band hk
  obtain ⟨k6, hk⟩ := band hk
  obtain ⟨k7, k8⟩ := band hk
  have k1 := shortI_ok k1
  have k2 := shortI_ok k2
  have k3 := posI_ok k3
  have k4 := posI_ok k4
  have k5 := posI_ok k5
  have k6 := posI_ok k6
  have k7 := posI_ok k7
  have k8 := posI_ok k8
  have hd : many.natAbs < 2 ^ 250 := by omega
  by_cases h : 0 < b
  · refine ⟨b % many, b / many, c, ?_, (mod_lt hm).1, (mod_lt hm).2, Int.ediv_nonneg hb (by omega)⟩
    simp [dTailP, at2, h, b_mod hm, divS hm hd, st2]
  · have m1 : binD .mul (.int T) (.int (c + 1)) = some (.int (T * (c + 1))) := b_mulL (by omega)
    have m2 : binD .mul (.int (s + T * (c + 1))) (.int U) = some (.int ((s + T * (c + 1)) * U)) := b_mulR (by omega)
    have q1 := mod_lt (x := (s + T * (c + 1)) * U) k3.1
    generalize hn1 : (s + T * (c + 1)) * U % N1 = n1 at q1
    have d1 : binD .fdiv (.int n1) (.int D1) = some (.int (n1 / D1)) := divS k4.1 (by omega)
    have m3 : binD .mul (.int n1) (.int (n1 / D1 + V1)) = some (.int (n1 * (n1 / D1 + V1))) := b_mulL (by omega)
    have q2 := mod_lt (x := n1 * (n1 / D1 + V1)) k5.1
    generalize hn2 : n1 * (n1 / D1 + V1) % N2 = n2 at q2
    have d2 : binD .fdiv (.int n2) (.int D2) = some (.int (n2 / D2)) := divS k6.1 (by omega)
    have m4 : binD .mul (.int n2) (.int (n2 / D2 + V2)) = some (.int (n2 * (n2 / D2 + V2))) := b_mulL (by omega)
    have d3 : ∀ x : Int, binD .fdiv (.int x) (.int SH) = some (.int (x / SH)) := fun x => divS k8.1 (by omega)
    refine ⟨n2 * (n2 / D2 + V2) % N3 / SH % many, b, c + 1, ?_, (mod_lt hm).1, (mod_lt hm).2, hb⟩
    simp [dTailP, at2, at3, at4, h, b_mod hm, st4, m1, m2, hn1, b_mod k3.1, d1, m3, hn2, b_mod k5.1, d2, m4, b_mod k7.1, d3]
theorem dealP (hP : P[j]? = some (fDrawP ce A G M T U N1 D1 V1 N2 D2 V2 N3 SH)) (hce : ∀ C a b x, evE C ce [a, b, none, some (.v (.int x)), none] = .ok (.pv (.int (cv x))) [a, b, none, some (.v (.int x)), none])
    (hk : (shortI A && (posI M && (shortI T && (shortI U && (posI N1 && (posI D1 && (posI N2 && (posI D2 && (posI N3 && posI SH))))))))) = true) : Deal P gl j Hd5 := by
  obtain ⟨ka, hk⟩ := band hk
  obtain ⟨km, hk⟩ := band hk
  have ka := shortI_ok ka
  have km := posI_ok km
  refine ⟨fun n {many xs} H hm hm2 => ?_⟩
  obtain ⟨cs, i, b, s, c, rfl, h1, h2, h3⟩ := H
  have done : ∀ (i' b' s' : Int) (z : Option Slot), 0 ≤ i' → 0 ≤ b' → evS (cf P gl (n + 1)) (dHeadP ce A G M) [some (.io [.list (cs.map PyData.int), .int i, .int b, .int s, .int c]), some (.v (.int many)), none, none, none] = .nx [some (.io [.list (cs.map PyData.int), .int i', .int b', .int s', .int c]), some (.v (.int many)), none, z, none] →
      ∃ (r : Int) (ys : List D), run P gl (n + 2) j [.io [.list (cs.map PyData.int), .int i, .int b, .int s, .int c], .v (.int many)] = .ret (.pv (.int r)) (some (.io ys)) ∧ Hd5 ys ∧ 0 ≤ r ∧ r < many := by
    intro i' b' s' z k1 k2 e
    obtain ⟨r, b2, c2, q, q1, q2, q3⟩ := tailP_ok (C := (cf P gl (n + 1))) (cs := .list (cs.map PyData.int)) (i := i') (b := b') (s := s') (c := c) (many := many) (z := z) (h0 := [.list (cs.map PyData.int), .int i, .int b, .int s, .int c]) (as := [.v (.int many)]) (V1 := V1) (V2 := V2) hk hm hm2 k2
    refine ⟨r, _, ?_, ⟨cs, i', b2, s', c2, rfl, h1, k1, q3⟩, q1, q2⟩
    rw [run_succ hP, if_pos ⟨rfl, rfl⟩, ← q]
    show finR _ (evSs _ (.cons (dHeadP ce A G M) (dTailP T U N1 D1 V1 N2 D2 V2 N3 SH)) [some (.io [.list (cs.map PyData.int), .int i, .int b, .int s, .int c]), some (.v (.int many)), none, none, none]) = _
    rw [ss_cons, e]
    rfl
  by_cases c1 : b = 0 ∧ i < cs.length
  · obtain ⟨e1, c2⟩ := c1
    subst e1
    have ea : L2.atI (cs.map PyData.int) i = some (.int (cs[i.toNat]'(by omega))) := by
      rw [at_nat h2 (by simpa using c2), List.getElem?_map, List.getElem?_eq_getElem (by omega)]
      rfl
    have hx : 0 ≤ cs[i.toNat]'(by omega) := h1 _ (List.getElem_mem _)
    generalize cs[i.toNat]'(by omega) = x at ea hx
    have m1 : binD .mul (.int s) (.int A) = some (.int (s * A)) := b_mulR (by omega)
    have pw : binD .pow (.int 10) (.int 18) = some (.int 1000000000000000000) := by simp [binD]
    by_cases c3 : 1000000000000000000 ≤ x
    · refine done (i + 1) x ((s * A + cv x + G) % M) (some (.v (.int x))) (by omega) hx ?_
      simp [dHeadP, at0, at1, at2, at3, st1, st2, st3, ea, m1, hce, b_mod km.1, pw, c2, c3]
    · refine done (i + 1) 0 ((s * A + cv x + G) % M) (some (.v (.int x))) (by omega) (by omega) ?_
      simp [dHeadP, at0, at1, at2, at3, st1, st2, st3, ea, m1, hce, b_mod km.1, pw, c2, c3]
  · refine done i b s none h2 h3 ?_
    by_cases c2 : b = 0
    · have : ¬ i < cs.length := fun z => c1 ⟨c2, z⟩
      simp [dHeadP, at0, at1, at2, c2, this]
    · simp [dHeadP, at0, at1, at2, c2]
end
/-- the cell itself -/
theorem ce_v (C : Cfg) (a b : Option Slot) (x : Int) : evE C (.v 3) [a, b, none, some (.v (.int x)), none] = .ok (.pv (.int x)) [a, b, none, some (.v (.int x)), none] := by simp
/-- the cell times a number -/
theorem ce_m {k : Int} (hk : shortI k = true) (C : Cfg) (a b : Option Slot) (x : Int) : evE C (.bin .mul (.v 3) (.k (.int k))) [a, b, none, some (.v (.int x)), none] = .ok (.pv (.int (x * k))) [a, b, none, some (.v (.int x)), none] := by
  have m : binD .mul (.int x) (.int k) = some (.int (x * k)) := b_mulR (Nat.lt_trans (shortI_ok hk) (by decide))
  simp [m]
def handLcP : E := (.lc (.b1 .abs (.b1 .int (.v 2))) (.n 2) (.of (.scr 0 63)) .yes)
def fHandP (se : E) : Fn := ⟨1, 3, (.cons (.asg (.n 1) handLcP)
 (.cons (.ret (.lst (.cons (.v 1) (.cons (.k (.int 0)) (.cons (.k (.int 0)) (.cons se (.cons (.k (.int 0)) .nil)))))))
 .nil))⟩
section
variable {P : List Fn} {gl : Gls} {j n : Nat} {se : E}
theorem cut63 (ns : List Int) : ∃ cs : List Int, (cut (ns.map PyData.int) none (some 63)) = cs.map PyData.int ∧ cs.length ≤ 63 := by
  refine ⟨cut ns none (some 63), ?_, ?_⟩
  · unfold cut
    rw [List.length_map, List.map_take, List.map_drop]
  · unfold cut
    rw [List.length_take, List.length_drop]
    have : HT.sIx ns.length ns.length (some 63) ≤ 63 := by
      simp [HT.sIx]
      omega
    omega
theorem handP_ok {ns : List Int} (hP : P[j]? = some (fHandP se)) (hse : ∀ (C : Cfg) (a c : Option Slot) (xs : List D), xs.length ≤ 63 → ∃ y : Int, evE C se [a, some (.v (.list xs)), c] = .ok (.pv (.int y)) [a, some (.v (.list xs)), c]) : ∃ xs, run P gl (n + 1) j [.raw (ns.map PyData.int)] = .ret (.fr xs) none ∧ Hd5 xs := by
  obtain ⟨cs, hl, hlen⟩ := cut63 ns
  have lc : ∀ C : Cfg, evE C handLcP [some (.raw (ns.map PyData.int)), none, none] = .ok (.fr ((cs.map fun i => if i < 0 then -i else i).map PyData.int)) [some (.raw (ns.map PyData.int)), none, none] := fun C => by
    unfold handLcP
    rw [e_lc]
    have e1 : evI C (.of (.scr 0 63)) [some (.raw (ns.map PyData.int)), none, none] = .ok (cs.map PyData.int) [some (.raw (ns.map PyData.int)), none, none] := by simp [scrV, hl]
    rw [e1]
    show lcEnd (lcGo _ _ _) = _
    rw [lcGo_n (g := fun d => match d with | .int i => .int (if i < 0 then -i else i) | d => d) (by simp) rfl ?_]
    · have h6 : cs.length ≤ LIM := Nat.le_trans hlen (by decide)
      simp [h6]
    · intro x hx
      obtain ⟨i, _, rfl⟩ := List.mem_map.mp hx
      simp
  obtain ⟨y, hy⟩ := hse (cf P gl n) (some (.raw (ns.map PyData.int))) none ((cs.map fun i => if i < 0 then -i else i).map PyData.int) (by simpa using hlen)
  refine ⟨[.list ((cs.map fun i => if i < 0 then -i else i).map PyData.int), .int 0, .int 0, .int y, .int 0], ?_, ⟨_, 0, 0, _, 0, rfl, ?_, by omega, by omega⟩⟩
  · rw [run_succ hP, if_pos ⟨rfl, rfl⟩]
    have h5 : (5 : Nat) ≤ LIM := by decide
    simp only [List.map_map] at lc hy
    simp [fHandP, lc, hy, h5]
  · intro x hx
    obtain ⟨i, _, rfl⟩ := List.mem_map.mp hx
    split <;> omega
theorem se_mul {k q : Int} (hq : shortI q = true) (C : Cfg) (a c : Option Slot) (xs : List D) (_ : xs.length ≤ 63) : ∃ y : Int, evE C (.bin .add (.k (.int k)) (.bin .mul (.k (.int q)) (.b1 .len (.v 1)))) [a, some (.v (.list xs)), c] = .ok (.pv (.int y)) [a, some (.v (.list xs)), c] := by
  have m : binD .mul (.int q) (.int (xs.length : Int)) = some (.int (q * (xs.length : Int))) := b_mulL (Nat.lt_trans (shortI_ok hq) (by decide))
  exact ⟨k + q * xs.length, by simp [m]⟩
theorem se_one {k : Int} (C : Cfg) (a c : Option Slot) (xs : List D) (_ : xs.length ≤ 63) : ∃ y : Int, evE C (.bin .add (.k (.int k)) (.b1 .len (.v 1))) [a, some (.v (.list xs)), c] = .ok (.pv (.int y)) [a, some (.v (.list xs)), c] := ⟨k + xs.length, by simp⟩
end

/-! ### the other hand: cells, place, figures left, turn -/
def fMixB : Fn := ⟨2, 3, (.cons (.asg (.n 2) (.bin .mod (.b1 .int (.bin .mul (.bin .add (.bin .add (.bin .mod (.b1 .int (.v 0)) (.k (.int 2147483647))) (.bin .mul (.k (.int 7919)) (.v 1))) (.k (.int 1))) (.k (.int 48271)))) (.k (.int 2147483647))))
 (.cons (.asg (.n 2) (.bin .mod (.b1 .int (.bin .mul (.v 2) (.bin .add (.bin .fdiv (.v 2) (.k (.int 1009))) (.k (.int 69621))))) (.k (.int 2147483647))))
 (.cons (.ret (.bin .fdiv (.bin .mod (.b1 .int (.bin .mul (.v 2) (.bin .add (.bin .fdiv (.v 2) (.k (.int 2003))) (.k (.int 40692))))) (.k (.int 2147483399))) (.k (.int 16))))
 .nil)))⟩
def drawBs (jm : Nat) : Ss := (.cons (.ite (.e (.cmp .gt (.ixv 0 (.k (.int 2))) (.k (.int 0))))
 (.cons (.asg (.n 3) (.bin .mod (.b1 .int (.ixv 0 (.k (.int 2)))) (.v 1)))
 (.cons (.set 0 (.k (.int 2)) (.bin .fdiv (.ixv 0 (.k (.int 2))) (.v 1)))
 (.cons (.retv 3)
 .nil)))
 .nil)
 (.cons (.par [4, 5] (.cons (.ixv 0 (.k (.int 0))) (.cons (.ixv 0 (.k (.int 1))) .nil)))
 (.cons (.set 0 (.k (.int 1)) (.bin .add (.v 5) (.k (.int 1))))
 (.cons (.ite (.e (.cmp .eq (.b1 .len (.v 4)) (.k (.int 0))))
 (.cons (.ret (.bin .mod (.b1 .int (.call jm (.cons (.k (.int 0)) (.cons (.ixv 0 (.k (.int 3))) .nil)))) (.v 1)))
 .nil)
 .nil)
 (.cons (.asg (.n 2) (.ixv 4 (.bin .mod (.b1 .int (.v 5)) (.b1 .len (.v 4)))))
 (.cons (.ite (.and (.e (.cmp .lt (.v 5) (.b1 .len (.v 4)))) (.e (.cmp .ge (.b1 .abs (.v 2)) (.bin .pow (.k (.int 10)) (.k (.int 18))))))
 (.cons (.set 0 (.k (.int 2)) (.bin .fdiv (.b1 .abs (.v 2)) (.v 1)))
 (.cons (.ret (.bin .mod (.b1 .int (.b1 .abs (.v 2))) (.v 1)))
 .nil))
 .nil)
 (.cons (.ret (.bin .mod (.b1 .int (.call jm (.cons (.v 2) (.cons (.ixv 0 (.k (.int 3))) .nil)))) (.v 1)))
 .nil)))))))
def fDrawB (jm : Nat) : Fn := ⟨2, 6, (.cons (.set 0 (.k (.int 3)) (.bin .add (.ixv 0 (.k (.int 3))) (.k (.int 1)))) (drawBs jm))⟩
def fHandB : Fn := ⟨1, 2, (.cons (.ret (.lst (.cons (.lc (.b1 .int (.v 1)) (.n 1) (.of (.scr 0 63)) .yes) (.cons (.k (.int 0)) (.cons (.k (.int 0)) (.cons (.k (.int 0)) .nil))))))
 .nil)⟩
def Hd4 (xs : List D) : Prop := ∃ (cs : List Int) (i b t : Int), xs = [.list (cs.map PyData.int), .int i, .int b, .int t] ∧ 0 ≤ i ∧ 0 ≤ b
theorem bt0 {a b c d : D} : L2.atI [a, b, c, d] 0 = some a := rfl
theorem bt1 {a b c d : D} : L2.atI [a, b, c, d] 1 = some b := rfl
theorem bt2 {a b c d : D} : L2.atI [a, b, c, d] 2 = some c := rfl
theorem bt3 {a b c d : D} : L2.atI [a, b, c, d] 3 = some d := rfl
theorem bs1 {a b c d x : D} : setAt? [a, b, c, d] 1 x = some [a, x, c, d] := rfl
theorem bs2 {a b c d x : D} : setAt? [a, b, c, d] 2 x = some [a, b, x, d] := rfl
theorem bs3 {a b c d x : D} : setAt? [a, b, c, d] 3 x = some [a, b, c, x] := rfl
section
variable {P : List Fn} {gl : Gls} {j jm n : Nat}
theorem mixB_ok (hP : P[j]? = some fMixB) (x t : Int) : ∃ y : Int, run P gl (n + 1) j [.v (.int x), .v (.int t)] = .ret (.pv (.int y)) none := by
  have m1 : binD .mul (.int 7919) (.int t) = some (.int (7919 * t)) := b_mulL (by decide)
  have o1 : ∀ x : Int, binD .mod (.int x) (.int 2147483647) = some (.int (x % 2147483647)) := fun x => b_mod (by decide)
  have o2 : ∀ x : Int, binD .mod (.int x) (.int 2147483399) = some (.int (x % 2147483399)) := fun x => b_mod (by decide)
  have m2 : ∀ x : Int, binD .mul (.int x) (.int 48271) = some (.int (x * 48271)) := fun x => b_mulR (by decide)
  have q1 := mod_lt (x := (x % 2147483647 + 7919 * t + 1) * 48271) (m := 2147483647) (by decide)
  generalize hn1 : (x % 2147483647 + 7919 * t + 1) * 48271 % 2147483647 = n1 at q1
  have d1 : binD .fdiv (.int n1) (.int 1009) = some (.int (n1 / 1009)) := divS (by decide) (by decide)
  have m3 : binD .mul (.int n1) (.int (n1 / 1009 + 69621)) = some (.int (n1 * (n1 / 1009 + 69621))) := b_mulL (by omega)
  have q2 := mod_lt (x := n1 * (n1 / 1009 + 69621)) (m := 2147483647) (by decide)
  generalize hn2 : n1 * (n1 / 1009 + 69621) % 2147483647 = n2 at q2
  have d2 : binD .fdiv (.int n2) (.int 2003) = some (.int (n2 / 2003)) := divS (by decide) (by decide)
  have m4 : binD .mul (.int n2) (.int (n2 / 2003 + 40692)) = some (.int (n2 * (n2 / 2003 + 40692))) := b_mulL (by omega)
  have d3 : ∀ x : Int, binD .fdiv (.int x) (.int 16) = some (.int (x / 16)) := fun x => divS (by decide) (by decide)
  refine ⟨n2 * (n2 / 2003 + 40692) % 2147483399 / 16, ?_⟩
  rw [run_succ hP, if_pos ⟨rfl, rfl⟩]
  simp [fMixB, o1, o2, m1, m2, hn1, d1, m3, hn2, d2, m4, d3]
theorem dealB (hP : P[j]? = some (fDrawB jm)) (hM : P[jm]? = some fMixB) : Deal P gl j Hd4 := by
  refine ⟨fun n {many xs} H hm hm2 => ?_⟩
  obtain ⟨cs, i, b, t, rfl, h2, h3⟩ := H
  have hd : many.natAbs < 2 ^ 250 := by omega
  have pw : binD .pow (.int 10) (.int 18) = some (.int 1000000000000000000) := by simp [binD]
  rw [run_succ hP, if_pos ⟨rfl, rfl⟩]
  by_cases h : 0 < b
  · refine ⟨b % many, _, ?_, ⟨cs, i, b / many, t + 1, rfl, h2, Int.ediv_nonneg h3 (by omega)⟩, (mod_lt hm).1, (mod_lt hm).2⟩
    simp [fDrawB, drawBs, bt0, bt1, bt2, bt3, h, b_mod hm, divS hm hd, bs2, bs3]
  · by_cases h0 : cs.length = 0
    · obtain ⟨y, hy⟩ := mixB_ok (n := n) (gl := gl) hM 0 (t + 1)
      refine ⟨y % many, _, ?_, ⟨cs, i + 1, b, t + 1, rfl, by omega, h3⟩, (mod_lt hm).1, (mod_lt hm).2⟩
      have e0 : cs = [] := List.length_eq_zero_iff.mp h0
      subst e0
      simp [fDrawB, drawBs, bt0, bt1, bt2, bt3, h, b_mod hm, bs1, bs3, hy]
    · have hp : (0 : Int) < cs.length := by omega
      have q := mod_lt (x := i) hp
      have ea : L2.atI (cs.map PyData.int) (i % cs.length) = some (.int (cs[(i % cs.length).toNat]'(by omega))) := by
        rw [at_nat q.1 (by simpa using q.2), List.getElem?_map, List.getElem?_eq_getElem (by omega)]
        rfl
      generalize cs[(i % cs.length).toNat]'(by omega) = x at ea
      have mo : binD .mod (.int i) (.int (cs.length : Int)) = some (.int (i % cs.length)) := b_mod hp
      have h0' : ¬ ((cs.length : Int) = 0) := by omega
      by_cases h4 : i < cs.length ∧ 1000000000000000000 ≤ (if x < 0 then -x else x)
      · have hx : 0 ≤ (if x < 0 then -x else x) := by split <;> omega
        refine ⟨(if x < 0 then -x else x) % many, _, ?_, ⟨cs, i + 1, (if x < 0 then -x else x) / many, t + 1, rfl, by omega, Int.ediv_nonneg hx (by omega)⟩, (mod_lt hm).1, (mod_lt hm).2⟩
        obtain ⟨h5, h6⟩ := h4
        have em : cs ≠ [] := fun e => h0 (by rw [e]; rfl)
        simp [fDrawB, drawBs, bt0, bt1, bt2, bt3, h, b_mod hm, divS hm hd, bs1, bs2, bs3, ea, mo, h0', pw, h5, h6, em]
      · obtain ⟨y, hy⟩ := mixB_ok (n := n) (gl := gl) hM x (t + 1)
        refine ⟨y % many, _, ?_, ⟨cs, i + 1, b, t + 1, rfl, by omega, h3⟩, (mod_lt hm).1, (mod_lt hm).2⟩
        have em : cs ≠ [] := fun e => h0 (by rw [e]; rfl)
        by_cases h5 : i < cs.length
        · have h6 : ¬ 1000000000000000000 ≤ (if x < 0 then -x else x) := fun z => h4 ⟨h5, z⟩
          simp [fDrawB, drawBs, bt0, bt1, bt2, bt3, h, b_mod hm, bs1, bs3, ea, mo, h0', pw, h5, h6, hy, em]
        · simp [fDrawB, drawBs, bt0, bt1, bt2, bt3, h, b_mod hm, bs1, bs3, ea, mo, h0', pw, h5, hy, em]
theorem handB_ok {ns : List Int} (hP : P[j]? = some fHandB) : ∃ xs, run P gl (n + 1) j [.raw (ns.map PyData.int)] = .ret (.fr xs) none ∧ Hd4 xs := by
  obtain ⟨cs, hl, hlen⟩ := cut63 ns
  have lc : ∀ C : Cfg, evE C (.lc (.b1 .int (.v 1)) (.n 1) (.of (.scr 0 63)) .yes) [some (.raw (ns.map PyData.int)), none] = .ok (.fr (cs.map PyData.int)) [some (.raw (ns.map PyData.int)), none] := fun C => by
    rw [e_lc]
    have e1 : evI C (.of (.scr 0 63)) [some (.raw (ns.map PyData.int)), none] = .ok (cs.map PyData.int) [some (.raw (ns.map PyData.int)), none] := by simp [scrV, hl]
    rw [e1]
    show lcEnd (lcGo _ _ _) = _
    rw [lcGo_n (g := id) (by simp) rfl ?_]
    · have h6 : cs.length ≤ LIM := Nat.le_trans hlen (by decide)
      simp [h6]
    · intro x hx
      obtain ⟨i, _, rfl⟩ := List.mem_map.mp hx
      simp
  refine ⟨[.list (cs.map PyData.int), .int 0, .int 0, .int 0], ?_, ⟨cs, 0, 0, 0, rfl, by omega, by omega⟩⟩
  rw [run_succ hP, if_pos ⟨rfl, rfl⟩]
  have h5 : (4 : Nat) ≤ LIM := by decide
  simp [fHandB, lc, h5]
end

/-! ### one of several -/
def fAny (jd : Nat) : Fn := ⟨2, 2, (.cons (.ret (.ixv 1 (.cio jd 0 (.cons (.b1 .len (.v 1)) .nil))))
 .nil)⟩
section
variable {P : List Fn} {gl : Gls} {j jd : Nat} {H : List D → Prop}
theorem any_l (hP : P[j]? = some (fAny jd)) (dl : Deal P gl jd H) (n : Nat) {xs ds : List D} (h : H xs) (hl : 0 < ds.length) (hl2 : ds.length < 1000000) : ∃ (k : Nat) (d : D) (ys : List D), run P gl (n + 3) j [.io xs, .v (.list ds)] = .ret (.pv d) (some (.io ys)) ∧ H ys ∧ ds[k]? = some d := by
  obtain ⟨r, ys, e, h, r0, r1⟩ := dl.draw n (many := ds.length) h (by omega) (by omega)
  have hx : ds[r.toNat]? = some (ds[r.toNat]'(by omega)) := List.getElem?_eq_getElem _
  refine ⟨r.toNat, ds[r.toNat]'(by omega), ys, ?_, h, hx⟩
  rw [run_succ hP, if_pos ⟨rfl, rfl⟩]
  have ea : L2.atI ds r = some (ds[r.toNat]'(by omega)) := by rw [at_nat r0 r1, hx]
  generalize ds[r.toNat]'(by omega) = d at ea hx
  have ci : evE (cf P gl (n + 2)) (.cio jd 0 (.cons (.b1 .len (.v 1)) .nil)) [some (.io xs), some (.v (.list ds))] = .ok (.pv (.int r)) [some (.io ys), some (.v (.list ds))] := ecio_io (xs := xs) (xs' := xs) (ds := [.int ds.length]) (ρ' := [some (.io xs), some (.v (.list ds))]) rfl (by simp) rfl e
  simp [fAny, ci, ea]
theorem any_t (hP : P[j]? = some (fAny jd)) (dl : Deal P gl jd H) (n : Nat) {xs ds : List D} (h : H xs) (hl : 0 < ds.length) (hl2 : ds.length < 1000000) : ∃ (k : Nat) (d : D) (ys : List D), run P gl (n + 3) j [.io xs, .v (.tuple ds)] = .ret (.pv d) (some (.io ys)) ∧ H ys ∧ ds[k]? = some d := by
  obtain ⟨r, ys, e, h, r0, r1⟩ := dl.draw n (many := ds.length) h (by omega) (by omega)
  have hx : ds[r.toNat]? = some (ds[r.toNat]'(by omega)) := List.getElem?_eq_getElem _
  refine ⟨r.toNat, ds[r.toNat]'(by omega), ys, ?_, h, hx⟩
  rw [run_succ hP, if_pos ⟨rfl, rfl⟩]
  have ea : L2.atI ds r = some (ds[r.toNat]'(by omega)) := by rw [at_nat r0 r1, hx]
  generalize ds[r.toNat]'(by omega) = d at ea hx
  have ci : evE (cf P gl (n + 2)) (.cio jd 0 (.cons (.b1 .len (.v 1)) .nil)) [some (.io xs), some (.v (.tuple ds))] = .ok (.pv (.int r)) [some (.io ys), some (.v (.tuple ds))] := ecio_io (xs := xs) (xs' := xs) (ds := [.int ds.length]) (ρ' := [some (.io xs), some (.v (.tuple ds))]) rfl (by simp) rfl e
  simp [fAny, ci, ea]
end
end Pv

namespace Pv
open PySem
/-! ### the plain law -/
def kst (p : Int × Int) (x : Int) : Int × Int := (p.2, x * p.2 + p.1)
def kf (p : Int × Int) (ns : List Int) : Int × Int := ns.foldl kst p
def Kc (ns : List Int) : Int := (kf (0, 1) ns).2
def K1 (ns : List Int) : Int := (kf (0, 1) ns).1
def Jc (ns : List Int) : Int := (kf (1, 0) ns).2
theorem kf_cons (p : Int × Int) (x : Int) (ns : List Int) : kf p (x :: ns) = kf (kst p x) ns := rfl
theorem kf_append (p : Int × Int) (a b : List Int) : kf p (a ++ b) = kf (kf p a) b := List.foldl_append
theorem kf_snoc (p : Int × Int) (a : List Int) (x : Int) : kf p (a ++ [x]) = kst (kf p a) x := kf_append p a [x]
theorem kf_lin : ∀ (ns : List Int) (a b : Int), (kf (a, b) ns).2 = a * Jc ns + b * Kc ns
  | [], a, b => by show b = a * 0 + b * 1; omega
  | x :: r, a, b => by
    show (kf (b, x * b + a) r).2 = a * (kf (0, x * 0 + 1) r).2 + b * (kf (1, x * 1 + 0) r).2
    rw [kf_lin r b (x * b + a), kf_lin r 0 (x * 0 + 1), kf_lin r 1 (x * 1 + 0)]
    grind
theorem Kc_app (a b : List Int) : Kc (a ++ b) = Kc a * Kc b + K1 a * Jc b := by
  unfold Kc
  rw [kf_append]
  rw [show kf (0, 1) a = (K1 a, Kc a) from rfl, kf_lin]
  show K1 a * Jc b + Kc a * Kc b = Kc a * Kc b + K1 a * Jc b
  omega
theorem Jc_cons (x : Int) (r : List Int) : Jc (x :: r) = Kc r := by
  show (kf (0, x * 0 + 1) r).2 = _
  rw [Int.mul_zero, Int.zero_add]
  rfl
theorem Jc_tail {b : List Int} (h : b ≠ []) : Jc b = Kc b.tail := by
  cases b with
  | nil => exact absurd rfl h
  | cons x r => exact Jc_cons x r
theorem K1_snoc (a : List Int) (x : Int) : K1 (a ++ [x]) = Kc a := by
  unfold K1
  rw [kf_snoc]
  rfl
theorem Kc_snoc (a : List Int) (x : Int) : Kc (a ++ [x]) = x * Kc a + K1 a := by
  unfold Kc
  rw [kf_snoc]
  rfl
theorem Kc_cons (x : Int) (r : List Int) : Kc (x :: r) = x * Kc r + Jc r := by
  show (kf (1, x * 1 + 0) r).2 = _
  rw [kf_lin]
  grind
theorem K1_last {a : List Int} (h : a ≠ []) : K1 a = Kc a.dropLast := by
  have e := List.dropLast_concat_getLast h
  generalize a.dropLast = b at e
  generalize a.getLast h = x at e
  rw [← e, K1_snoc]
theorem rev_both : ∀ r : List Int, Kc r.reverse = Kc r ∧ K1 r.reverse = Jc r
  | [] => ⟨rfl, rfl⟩
  | x :: r => by
    obtain ⟨h1, h2⟩ := rev_both r
    rw [List.reverse_cons, Kc_snoc, K1_snoc, Kc_cons, Jc_cons, h1, h2]
    exact ⟨rfl, rfl⟩
theorem euler {r : List Int} {k : Nat} (h1 : 1 ≤ k) (h2 : k < r.length) : Kc (r.take k) * Kc (r.drop k) + Kc (r.take (k - 1)) * Kc (r.drop (k + 1)) = Kc r := by
  have e := Kc_app (r.take k) (r.drop k)
  rw [List.take_append_drop] at e
  have ha : r.take k ≠ [] := fun z => by
    have := congrArg List.length z
    rw [List.length_take, List.length_nil] at this
    omega
  have hb : r.drop k ≠ [] := fun z => by
    have := congrArg List.length z
    rw [List.length_drop, List.length_nil] at this
    omega
  rw [K1_last ha, Jc_tail hb, List.tail_drop, List.dropLast_take (by omega)] at e
  exact e.symm
/-- how great it is -/
theorem kf_size {B : Nat} : ∀ (ns : List Int) (a b : Int) (m : Nat), (∀ x ∈ ns, x.natAbs < 2 ^ B) → a.natAbs < 2 ^ m → b.natAbs < 2 ^ m → (kf (a, b) ns).1.natAbs < 2 ^ (m + (B + 1) * ns.length) ∧ (kf (a, b) ns).2.natAbs < 2 ^ (m + (B + 1) * ns.length)
  | [], a, b, m, _, h1, h2 => ⟨h1, h2⟩
  | x :: r, a, b, m, hx, h1, h2 => by
    have hb := hx x (List.mem_cons_self ..)
    have h3 : (x * b + a).natAbs < 2 ^ (m + (B + 1)) := by
      have h4 : (x * b).natAbs < 2 ^ (B + m) := by
        rw [Int.natAbs_mul, Nat.pow_add]
        exact Nat.mul_lt_mul'' hb h2
      have h5 := Int.natAbs_add_le (x * b) a
      have h6 : 2 ^ m ≤ 2 ^ (B + m) := Nat.pow_le_pow_right (by decide) (by omega)
      rw [show m + (B + 1) = B + m + 1 by omega, Nat.pow_succ]
      omega
    have h7 : b.natAbs < 2 ^ (m + (B + 1)) := sz_le h2 (by omega)
    have := kf_size r b (x * b + a) (m + (B + 1)) (fun y hy => hx y (List.mem_cons_of_mem _ hy)) h7 h3
    rw [show m + (B + 1) + (B + 1) * r.length = m + (B + 1) * (x :: r).length by rw [List.length_cons, Nat.mul_succ]; omega] at this
    exact this
end Pv
namespace Pv
open PySem
/-! ### terms by dividing, in plain numbers -/
/-- the terms of t over b, with that many steps at the most -/
def te : Nat → Int → Int → List Int
  | 0, _, _ => []
  | n + 1, t, b => if 0 < b then t / b :: te n b (t % b) else []
def Tm (t b : Int) : List Int := te (b.toNat + 1) t b
theorem te_zero (n : Nat) (t : Int) {b : Int} (h : ¬ 0 < b) : te n t b = [] := by
  cases n with
  | zero => rfl
  | succ n => unfold te; rw [if_neg h]
theorem te_fuel : ∀ (n m : Nat) (t b : Int), b.toNat < n → b.toNat < m → te n t b = te m t b
  | n + 1, m + 1, t, b, h1, h2 => by
    unfold te
    split
    · rename_i h
      have h3 := mod_lt (x := t) h
      rw [te_fuel n m b (t % b) (by omega) (by omega)]
    · rfl
theorem Tm_pos {t b : Int} (h : 0 < b) : Tm t b = t / b :: Tm b (t % b) := by
  have h3 := mod_lt (x := t) h
  unfold Tm
  rw [show b.toNat + 1 = b.toNat + 1 from rfl]
  conv => lhs; unfold te
  rw [if_pos h, te_fuel b.toNat ((t % b).toNat + 1) b (t % b) (by omega) (by omega)]
theorem Tm_no {t b : Int} (h : ¬ 0 < b) : Tm t b = [] := te_zero _ _ h
theorem gcd_step (t b : Int) : Int.gcd b (t % b) = Int.gcd t b := by
  rw [Int.emod_def, Int.gcd_sub_mul_left_right, Int.gcd_comm]
/-- what stands behind the first of terms: all above 0, the last above 1 -/
def Vt : List Int → Prop
  | [] => True
  | [x] => 1 < x
  | x :: y :: r => 0 < x ∧ Vt (y :: r)
theorem Vt.tail {x : Int} {r : List Int} (h : Vt (x :: r)) : Vt r := by
  cases r with
  | nil => trivial
  | cons y r => exact h.2
theorem Vt.pos {x : Int} {r : List Int} (h : Vt (x :: r)) : 0 < x := by
  cases r with
  | nil => have h : 1 < x := h; omega
  | cons y r => exact h.1
theorem Vt.all : ∀ {r : List Int}, Vt r → ∀ x ∈ r, 0 < x
  | y :: r, h, x, hx => by
    rcases List.mem_cons.mp hx with rfl | hx
    · exact h.pos
    · exact Vt.all h.tail x hx
theorem Vt.less : ∀ {r : List Int}, Vt r → r ≠ [] → 0 < Jc r ∧ Jc r < Kc r
  | [x], h, _ => by
    have h : 1 < x := h
    rw [Jc_cons, Kc_cons]
    have e1 : Kc [] = 1 := rfl
    have e2 : Jc [] = 0 := rfl
    rw [e1, e2]
    omega
  | x :: y :: r, h, _ => by
    obtain ⟨h1, h2⟩ := Vt.less h.2 (by simp)
    rw [Jc_cons, Kc_cons x]
    have h3 : Kc (y :: r) ≤ x * Kc (y :: r) := by
      have := Int.mul_le_mul_of_nonneg_right (show (1 : Int) ≤ x from h.1) (show 0 ≤ Kc (y :: r) by omega)
      omega
    omega
theorem Vt.kpos {r : List Int} (h : Vt r) : 0 < Kc r := by
  cases r with
  | nil => exact (by decide : (0 : Int) < 1)
  | cons x r =>
    have := h.less (by simp)
    omega
theorem Tm_come : ∀ (n : Nat) (t b : Int), b.toNat ≤ n → 0 < b → Int.gcd t b = 1 → Kc (Tm t b) = t ∧ Jc (Tm t b) = b
  | n, t, b, hn, hb, hg => by
    have h3 := mod_lt (x := t) hb
    rw [Tm_pos hb, Jc_cons, Kc_cons]
    by_cases hr : 0 < t % b
    · match n, hn with
      | n + 1, hn =>
        obtain ⟨h1, h2⟩ := Tm_come n b (t % b) (by omega) hr (by rw [gcd_step]; exact hg)
        rw [h1, h2]
        refine ⟨?_, rfl⟩
        have := Int.mul_ediv_add_emod t b
        rw [Int.mul_comm b] at this
        exact this
      | 0, hn => omega
    · have hz : t % b = 0 := by omega
      rw [Tm_no hr]
      have e1 : Kc [] = 1 := rfl
      have e2 : Jc [] = 0 := rfl
      have e3 := gcd_step t b
      rw [hz, hg, Int.gcd_zero_right] at e3
      have hb1 : b = 1 := by omega
      subst hb1
      rw [e1, e2]
      refine ⟨?_, rfl⟩
      rw [Int.ediv_one]
      omega
theorem Tm_valid : ∀ (n : Nat) (b r : Int), r.toNat ≤ n → 0 ≤ r → r < b → Vt (Tm b r)
  | n, b, r, hn, h0, h1 => by
    by_cases hr : 0 < r
    · have h3 := mod_lt (x := b) hr
      have hq := Int.mul_ediv_add_emod b r
      rw [Tm_pos hr]
      by_cases hm : 0 < b % r
      · match n, hn with
        | n + 1, hn =>
          have ih := Tm_valid n r (b % r) (by omega) (by omega) h3.2
          have qp : 0 < b / r := by
            refine Int.lt_of_not_ge fun z => ?_
            have : r * (b / r) ≤ 0 := by
              have := Int.mul_le_mul_of_nonneg_left z (show 0 ≤ r by omega)
              omega
            omega
          rw [Tm_pos hm] at ih ⊢
          exact ⟨qp, ih⟩
        | 0, hn => omega
      · rw [Tm_no hm]
        show 1 < b / r
        have hz : b % r = 0 := by omega
        refine Int.lt_of_not_ge fun z => ?_
        have : r * (b / r) ≤ r * 1 := Int.mul_le_mul_of_nonneg_left z (by omega)
        omega
    · rw [Tm_no hr]
      trivial
theorem Tm_tail {t b : Int} (h : 0 < b) : (Tm t b).tail = Tm b (t % b) := by rw [Tm_pos h]; rfl
theorem Tm_tail_valid {t b : Int} (h : 0 < b) : Vt (Tm t b).tail := by
  rw [Tm_tail h]
  have h3 := mod_lt (x := t) h
  exact Tm_valid _ _ _ (Nat.le_refl _) h3.1 h3.2
theorem Tm_only : ∀ (r : List Int) (a : Int), Vt r → Tm (Kc (a :: r)) (Jc (a :: r)) = a :: r
  | [], a, _ => by
    have e1 : Kc [a] = a := by
      rw [Kc_cons]
      show a * 1 + 0 = a
      omega
    have e2 : Jc [a] = 1 := by rw [Jc_cons]; rfl
    rw [e1, e2, Tm_pos (by decide), Int.ediv_one, Int.emod_one, Tm_no (by decide)]
  | b :: r, a, h => by
    obtain ⟨h1, h2⟩ := h.less (by simp)
    have hk : 0 < Kc (b :: r) := by omega
    have ih := Tm_only r b h.tail
    rw [Jc_cons, Kc_cons a, Tm_pos hk]
    have e1 : (a * Kc (b :: r) + Jc (b :: r)) / Kc (b :: r) = a := by
      rw [Int.add_comm, Int.add_mul_ediv_right _ _ (by omega), Int.ediv_eq_zero_of_lt (by omega) h2]
      omega
    have e2 : (a * Kc (b :: r) + Jc (b :: r)) % Kc (b :: r) = Jc (b :: r) := by
      rw [Int.add_comm, Int.add_mul_emod_self_right, Int.emod_eq_of_lt (by omega) h2]
    rw [e1, e2, ih]
theorem Tm_len : ∀ (k : Nat) (t b : Int), b < 2 ^ k → (Tm t b).length ≤ 2 * k
  | 0, t, b, h => by
    rw [Tm_no (by have : b < 1 := h; omega)]
    exact Nat.le_refl _
  | k + 1, t, b, h => by
    by_cases hb : 0 < b
    · have h3 := mod_lt (x := t) hb
      rw [Tm_pos hb]
      by_cases hr : 0 < t % b
      · have h4 := mod_lt (x := b) hr
        have hq := Int.mul_ediv_add_emod b (t % b)
        have qp : 1 ≤ b / (t % b) := by
          refine Int.le_of_not_gt fun z => ?_
          have : (t % b) * (b / (t % b)) ≤ 0 := by
            have := Int.mul_le_mul_of_nonneg_left (show b / (t % b) ≤ 0 by omega) (show 0 ≤ t % b by omega)
            omega
          omega
        have h5 : (t % b) * 1 ≤ (t % b) * (b / (t % b)) := Int.mul_le_mul_of_nonneg_left qp (by omega)
        rw [Tm_pos hr]
        have ih := Tm_len k (t % b) (b % (t % b)) (by rw [Int.pow_succ] at h; omega)
        rw [List.length_cons, List.length_cons]
        omega
      · rw [Tm_no hr]
        simp
        omega
    · rw [Tm_no hb]
      exact Nat.zero_le _
/-- tops and bottoms have nothing in common; neighbours are apart by 1 -/
theorem KJ_gcd : ∀ ts : List Int, Int.gcd (Kc ts) (Jc ts) = 1
  | [] => rfl
  | a :: r => by
    rw [Jc_cons, Kc_cons, Int.add_comm, Int.gcd_add_mul_right_left, Int.gcd_comm]
    exact KJ_gcd r
/-- the second of a fold, begun with 1, 0: what stands ahead of the last -/
def J1 (ns : List Int) : Int := (kf (1, 0) ns).1
theorem Jc_snoc (a : List Int) (x : Int) : Jc (a ++ [x]) = x * Jc a + J1 a := by
  unfold Jc
  rw [kf_snoc]
  rfl
theorem J1_snoc (a : List Int) (x : Int) : J1 (a ++ [x]) = Jc a := by
  unfold J1
  rw [kf_snoc]
  rfl
/-- 1 or -1 in turn -/
def alt : Nat → Int
  | 0 => 1
  | n + 1 => -alt n
theorem det_snoc : ∀ (n : Nat) (a : List Int), a.length = n → J1 a * Kc a - K1 a * Jc a = alt n
  | 0, a, h => by
    rw [List.length_eq_zero_iff.mp h]
    rfl
  | n + 1, a, h => by
    have hne : a ≠ [] := fun z => by rw [z] at h; cases h
    have e := List.dropLast_concat_getLast hne
    have hl : a.dropLast.length = n := by rw [List.length_dropLast]; omega
    generalize a.dropLast = b at *
    generalize a.getLast hne = x at *
    have ih := det_snoc n b hl
    rw [← e, J1_snoc, Kc_snoc, K1_snoc, Jc_snoc]
    show _ = -alt n
    rw [← ih]
    grind
end Pv

namespace Pv
open PySem
/-! ### terms, walked -/
abbrev noT : Nat → Bool := fun _ => false
abbrev td (ns : List Int) : D := .tuple (ns.map .int)
abbrev q2 (ts : List Int) : D := .tuple [.int (Kc ts), .int (Jc ts)]
def fAreTerms (ja g : Nat) : Fn := ⟨1, 2, (.cons (.ite (.or (.not (.e (.call ja (.cons (.v 0) (.cons (.k (.int 1)) (.cons (.g g) .nil)))))) (.not (.e (.b1 .all (.lc (.cmp .gt (.v 1) (.k (.int 0))) (.n 1) (.of (.slv 0 (.k (.int 1)) .nop)) .yes)))))
 (.cons (.ret (.k (.bool false)))
 .nil)
 .nil)
 (.cons (.ret (.or (.cmp .eq (.b1 .len (.v 0)) (.k (.int 1))) (.cmp .gt (.ixv 0 (.neg (.k (.int 1)))) (.k (.int 1)))))
 .nil))⟩
def sumsB : Ss := (.cons (.par [3, 4] (.cons (.v 4) (.cons (.tup (.cons (.bin .add (.bin .mul (.v 1) (.ixv 4 (.k (.int 0)))) (.ixv 3 (.k (.int 0)))) (.cons (.bin .add (.bin .mul (.v 1) (.ixv 4 (.k (.int 1)))) (.ixv 3 (.k (.int 1)))) .nil))) .nil)))
 (.cons (.app 2 (.v 4))
 .nil))
def sumsL : S := (.for_ (.n 1) (.of (.v 0)) sumsB)
def fSumsIn : Fn := ⟨1, 5, (.cons (.par [2, 3, 4] (.cons (.lst .nil) (.cons (.tup (.cons (.k (.int 0)) (.cons (.k (.int 1)) .nil))) (.cons (.tup (.cons (.k (.int 1)) (.cons (.k (.int 0)) .nil))) .nil))))
 (.cons sumsL
 (.cons (.retv 2)
 .nil)))⟩
def fRatioOf (jc js : Nat) : Fn := ⟨1, 1, (.cons (.expr (.call jc (.cons (.v 0) .nil)))
 (.cons (.ret (.ix (.call js (.cons (.v 0) .nil)) (.neg (.k (.int 1)))))
 .nil))⟩
def toldB : Ss := (.cons (.asg (.n 4) (.bin .fdiv (.v 2) (.v 3)))
 (.cons (.app 1 (.v 4))
 (.cons (.par [2, 3] (.cons (.v 3) (.cons (.bin .sub (.v 2) (.bin .mul (.v 4) (.v 3))) .nil)))
 .nil)))
def toldL : S := (.whl (.e (.cmp .gt (.v 3) (.k (.int 0)))) toldB)
def fTold : Fn := ⟨1, 5, (.cons (.asg (.t [2, 3]) (.v 0))
 (.cons (.asg (.n 1) (.lst .nil))
 (.cons toldL
 (.cons (.ret (.b1 .tuple (.v 1)))
 .nil))))⟩
def lterB : Ss := (.cons (.app 2 (.bin .fdiv (.v 0) (.v 1)))
 (.cons (.par [0, 1] (.cons (.v 1) (.cons (.bin .sub (.v 0) (.bin .mul (.bin .fdiv (.v 0) (.v 1)) (.v 1))) .nil)))
 .nil))
def lterL : S := (.whl (.e (.cmp .gt (.v 1) (.k (.int 0)))) lterB)
def fLter : Fn := ⟨2, 3, (.cons (.asg (.n 2) (.lst .nil))
 (.cons lterL
 (.cons (.ret (.b1 .tuple (.v 2)))
 .nil)))⟩
/-- sizes that every operator lets -/
def Ok (i : Int) : Prop := i.natAbs < 2 ^ 8000
theorem Ok.mul {i j : Int} (h : Ok i) (h2 : Ok j) : binD .mul (.int i) (.int j) = some (.int (i * j)) := b_mul (BIG_of h (by decide)) (BIG_of h2 (by decide))
theorem Ok.div {i j : Int} (h : 0 < j) (h2 : Ok j) : binD .fdiv (.int i) (.int j) = some (.int (i / j)) := b_fdiv h (DIVB_of h2 (by decide))
theorem Ok.le {i j : Int} (h : Ok j) (hi : i.natAbs ≤ j.natAbs) : Ok i := Nat.lt_of_le_of_lt hi h
section
variable {P : List Fn} {gl : Gls} {n j ja ji js jt jc x g : Nat}
theorem Vt.last : ∀ {b : List Int} {x : Int}, Vt (b ++ [x]) → 1 < x
  | [], x, h => h
  | y :: b, x, h => Vt.last (Vt.tail h)
theorem areTerms_ok {a : Int} {r : List Int} (hP : P[j]? = some (fAreTerms ja g)) (ha : P[ja]? = some (fAreInts ji js)) (hi : P[ji]? = some fIsInt) (hs : P[js]? = some fSized) (hg : gl g = some (.int 400)) (hl : r.length < 400) (hv : Vt r) : run P gl (n + 3) j [.v (td (a :: r))] = .ret (.pv (.bool true)) none := by
  have hlen : (a :: r).length ≤ 400 := by rw [List.length_cons]; omega
  have hlen0 : 0 < (a :: r).length := by rw [List.length_cons]; omega
  have hpos : ∀ y ∈ (a :: r).tail, 0 < y := hv.all
  have hat : r ≠ [] → ∃ x : Int, 1 < x ∧ L2.atI ((a :: r).map PyData.int) (-1) = some (.int x) := fun hr => by
    obtain ⟨b, x, rfl⟩ : ∃ b x, r = b ++ [x] := ⟨_, _, (List.dropLast_concat_getLast hr).symm⟩
    refine ⟨x, Vt.last hv, ?_⟩
    have := last_at (xs := (a :: b).map PyData.int) (d := .int x)
    rw [← List.map_singleton, ← List.map_append] at this
    exact this
  have hone : (a :: r).length = 1 → r = [] := fun h => List.length_eq_zero_iff.mp (by rw [List.length_cons] at h; omega)
  have hone2 : r = [] → (a :: r).length = 1 := fun h => by rw [h]; rfl
  have a0 := areInts_ok (P := P) (gl := gl) (n := n) ha hi hs (ns := a :: r) (lo := 1) (hi := 400) (by omega) (by omega) (Nat.le_trans hlen (by decide))
  rw [run_succ hP, if_pos ⟨rfl, rfl⟩]
  generalize a :: r = row at *
  have cu : cut (row.map PyData.int) (some 1) none = row.tail.map PyData.int := by
    rw [cut_drop (by decide), ← List.map_drop]
    exact congrArg _ List.drop_one
  have lc : evE (cf P gl (n + 2)) (.lc (.cmp .gt (.v 1) (.k (.int 0))) (.n 1) (.of (.slv 0 (.k (.int 1)) .nop)) .yes) [some (.v (td row)), none] = .ok (.fr ((row.tail.map PyData.int).map fun _ => .bool true)) [some (.v (td row)), none] := by
    rw [e_lc]
    have e1 : evI (cf P gl (n + 2)) (.of (.slv 0 (.k (.int 1)) .nop)) [some (.v (td row)), none] = .ok (row.tail.map .int) [some (.v (td row)), none] := by simp [Pv.lim_n, Pv.addX, Pv.extX, Pv.jx0, Pv.jx1, -List.map_map, -List.map_reverse, -List.map_tail, -List.map_take, -List.map_drop, cu]
    rw [e1, R.bind_ok, lcGo_n (g := fun _ => .bool true) (by simp) rfl ?_]
    · have : row.length - 1 ≤ 1000000 := by omega
      simp [lim_n, this]
    · intro y hy
      obtain ⟨i, hi, rfl⟩ := List.mem_map.mp hy
      simp [hpos i hi]
  have bo := all_true (row.tail.map PyData.int)
  simp only [fAreTerms]
  by_cases h1 : row.length = 1
  · simp [Pv.lim_n, Pv.addX, Pv.extX, Pv.jx0, Pv.jx1, -List.map_map, -List.map_reverse, -List.map_tail, -List.map_take, -List.map_drop, a0, hg, lc, bo, all_tt, h1]
  · have h2 : ¬ (row.length : Int) = 1 := by omega
    obtain ⟨x, hx, hx2⟩ := hat fun z => h1 (hone2 z)
    simp [Pv.lim_n, Pv.addX, Pv.extX, Pv.jx0, Pv.jx1, -List.map_map, -List.map_reverse, -List.map_tail, -List.map_take, -List.map_drop, a0, hg, lc, bo, hx, hx2, all_tt, h2]
/-- the pair of places of the sums, with the row found -/
structure Smt where
  q : (Int × Int) × (Int × Int)
  f : List D
def stq (q : (Int × Int) × (Int × Int)) (x : Int) : (Int × Int) × (Int × Int) := (kst q.1 x, kst q.2 x)
def smf (s : Smt) (x : Int) : Smt := ⟨stq s.q x, s.f ++ [.tuple [.int (stq s.q x).1.2, .int (stq s.q x).2.2]]⟩
theorem smf_q : ∀ (ns : List Int) (s : Smt), (ns.foldl smf s).q = (kf s.q.1 ns, kf s.q.2 ns)
  | [], _ => rfl
  | x :: r, s => by rw [List.foldl_cons, smf_q r]; rfl
/-- what the first ones, one more each, come to -/
def sumsV (ts : List Int) : List D := (List.range ts.length).map fun k => q2 (ts.take (k + 1))
theorem smf_f (ts : List Int) : (ts.foldl smf ⟨((0, 1), (1, 0)), []⟩).f = sumsV ts := by
  have key : ∀ (n : Nat) (ts : List Int), ts.length = n → (ts.foldl smf ⟨((0, 1), (1, 0)), []⟩).f = sumsV ts := fun n => by
    induction n with
    | zero => intro ts h; rw [List.length_eq_zero_iff.mp h]; rfl
    | succ n ih =>
      intro ts h
      have hne : ts ≠ [] := fun z => by rw [z] at h; cases h
      have e := List.dropLast_concat_getLast hne
      have hl : ts.dropLast.length = n := by rw [List.length_dropLast]; omega
      generalize ts.dropLast = b at *
      generalize ts.getLast hne = x at *
      subst e
      have h1 : ((b ++ [x]).foldl smf ⟨((0, 1), (1, 0)), []⟩).f = (b.foldl smf ⟨((0, 1), (1, 0)), []⟩).f ++ [q2 (b ++ [x])] := by
        rw [List.foldl_append]
        show (b.foldl smf _).f ++ [.tuple [.int (stq (b.foldl smf _).q x).1.2, .int (stq (b.foldl smf _).q x).2.2]] = _
        rw [smf_q]
        show _ ++ [PyData.tuple [.int (kst (kf (0, 1) b) x).2, .int (kst (kf (1, 0) b) x).2]] = _
        rw [← kf_snoc, ← kf_snoc]
        rfl
      rw [h1, ih b hl]
      unfold sumsV
      rw [List.length_append, List.length_singleton, List.range_succ, List.map_append]
      congr 1
      · refine List.map_congr_left fun k hk => ?_
        rw [List.mem_range] at hk
        rw [List.take_append_of_le_length (by omega)]
      · simp only [List.map_cons, List.map_nil]
        rw [List.take_of_length_le (by rw [List.length_append, List.length_singleton]; exact Nat.le_refl _)]
  exact key _ ts rfl
theorem sumsIn_ok {ts : List Int} (hP : P[j]? = some fSumsIn) (hl : ts.length ≤ 400) (hs : ∀ y ∈ ts, y.natAbs < 2 ^ 8000) (hq : ∀ k, (Kc (ts.take k)).natAbs < BIG ∧ (Jc (ts.take k)).natAbs < BIG) : run P gl (n + 1) j [.v (td ts)] = .ret (.fr (sumsV ts)) none := by
  rw [run_succ hP, if_pos ⟨rfl, rfl⟩]
  obtain ⟨ρ', e, h, _⟩ := for_fold (T := noT) (C := cf P gl n) (b := sumsB) (fun s : Smt => [some (.v (td ts)), none, some (.own s.f), some (.v (.tuple [.int s.q.1.1, .int s.q.2.1])), some (.v (.tuple [.int s.q.1.2, .int s.q.2.2]))]) smf (fun k s => s.f.length = k ∧ s.q.1.2 = Kc (ts.take k) ∧ s.q.2.2 = Jc (ts.take k) ∧ s.q = (kf (0, 1) (ts.take k), kf (1, 0) (ts.take k))) (i := 1) (it := .of (.v 0)) (ns := ts) (σ := ⟨((0, 1), (1, 0)), []⟩)
    (ρ := [some (.v (td ts)), none, some (.own []), some (.v (.tuple [.int 0, .int 1])), some (.v (.tuple [.int 1, .int 0]))]) (ρ1 := [some (.v (td ts)), none, some (.own []), some (.v (.tuple [.int 0, .int 1])), some (.v (.tuple [.int 1, .int 0]))]) rfl (by simp) (Le.refl _ _) ⟨rfl, rfl, rfl, rfl⟩ fun k y s hy ⟨hk, j1, j2, j3⟩ => by
    have hb := hs y (List.mem_of_getElem? hy)
    have m1 := b_mul (BIG_of hb (by decide)) (show s.q.1.2.natAbs < BIG by rw [j1]; exact (hq k).1)
    have m2 := b_mul (BIG_of hb (by decide)) (show s.q.2.2.natAbs < BIG by rw [j2]; exact (hq k).2)
    have hk2 : k < ts.length := (List.getElem?_eq_some_iff.mp hy).1
    have h4 : s.f.length < 1000000 := by omega
    have e3 : (smf s y).q = (kf (0, 1) (ts.take (k + 1)), kf (1, 0) (ts.take (k + 1))) := by
      rw [List.take_add_one, hy]
      show stq s.q y = _
      rw [j3]
      show _ = (kf (0, 1) (ts.take k ++ [y]), kf (1, 0) (ts.take k ++ [y]))
      rw [kf_snoc, kf_snoc]
      rfl
    refine ⟨⟨by unfold smf; dsimp only; rw [List.length_append, hk]; rfl, by rw [e3]; rfl, by rw [e3]; rfl, e3⟩, ?_⟩
    refine ⟨_, by simp [Pv.lim_n, Pv.addX, Pv.extX, Pv.jx0, Pv.jx1, -List.map_map, -List.map_reverse, -List.map_tail, -List.map_take, -List.map_drop, sumsB, m1, m2, h4]; rfl, le_of (by simp [smf, stq, kst])⟩
  have h2 := h.get (i := 2) rfl
  rw [smf_f] at h2
  have e' : evS (cf P gl n) sumsL [some (.v (td ts)), none, some (.own []), some (.v (.tuple [.int 0, .int 1])), some (.v (.tuple [.int 1, .int 0]))] = .nx ρ' := e
  simp [Pv.lim_n, Pv.addX, Pv.extX, Pv.jx0, Pv.jx1, -List.map_map, -List.map_reverse, -List.map_tail, -List.map_take, -List.map_drop, fSumsIn, e', h2]
end
end Pv

namespace Pv
open PySem
/-! ### dividing, walked -/
def comeB : Ss := (.cons (.par [2, 3] (.cons (.bin .add (.bin .mul (.v 1) (.v 2)) (.v 3)) (.cons (.v 2) .nil)))
 .nil)
def comeL : S := (.for_ (.n 1) (.of (.rev (.v 0))) comeB)
def fCome (jl : Nat) : Fn := ⟨1, 4, (.cons (.asg (.t [2, 3]) (.tup (.cons (.k (.int 1)) (.cons (.k (.int 0)) .nil))))
 (.cons comeL
 (.cons (.ret (.call jl (.cons (.v 2) (.cons (.v 3) .nil))))
 .nil)))⟩
def lowSB : Ss := (.cons (.par [3, 4] (.cons (.v 4) (.cons (.bin .mod (.b1 .int (.v 3)) (.v 4)) .nil)))
 .nil)
def lowSL : S := (.whl (.e (.cmp .gt (.v 4) (.k (.int 0)))) lowSB)
/-- lowest terms, by a sign -/
def fLowS : Fn := ⟨2, 5, (.cons (.par [3, 4] (.cons (.b1 .abs (.v 0)) (.cons (.b1 .abs (.v 1)) .nil)))
 (.cons lowSL
 (.cons (.asg (.n 2) (.ife (.e (.cmp .gt (.v 1) (.k (.int 0)))) (.k (.int 1)) (.bin .sub (.k (.int 0)) (.k (.int 1)))))
 (.cons (.ret (.tup (.cons (.bin .fdiv (.bin .mul (.v 2) (.v 0)) (.v 3)) (.cons (.bin .fdiv (.bin .mul (.v 2) (.v 1)) (.v 3)) .nil))))
 .nil))))⟩
theorem td_step {t b : Int} : t - t / b * b = t % b := by
  have := Int.mul_ediv_add_emod t b
  rw [Int.mul_comm b] at this
  omega
/-- the state of the dividing: what is found, top, bottom -/
structure Dv where
  f : List Int
  t : Int
  b : Int
section
variable {T0 B0 : Int}
def DvI (T0 B0 : Int) (s : Dv) : Prop := s.f ++ Tm s.t s.b = Tm T0 B0 ∧ 0 ≤ s.b ∧ s.b ≤ B0 ∧ Ok s.t
theorem DvI.next {s : Dv} (h : DvI T0 B0 s) (hB : Ok B0) (hp : 0 < s.b) : DvI T0 B0 ⟨s.f ++ [s.t / s.b], s.b, s.t % s.b⟩ ∧ (s.t % s.b).toNat < s.b.toNat ∧ Ok s.b ∧ Ok (s.t / s.b) := by
  obtain ⟨h1, h2, h3, h4⟩ := h
  have h5 := mod_lt (x := s.t) hp
  have ob : Ok s.b := hB.le (by omega)
  refine ⟨⟨?_, h5.1, by show s.t % s.b ≤ B0; omega, ob⟩, by omega, ob, h4.le (Int.natAbs_ediv_le_natAbs _ _)⟩
  rw [List.append_assoc]
  rw [Tm_pos hp] at h1
  exact h1
theorem told_loop {C : Cfg} {p : Int × Int} (h0 : 0 ≤ B0) (hB : Ok B0) (hT : Ok T0) (hl : (Tm T0 B0).length < 1000000) :
    ∃ ρ', evS C toldL [some (.v (pr p)), some (.own []), some (.v (.int T0)), some (.v (.int B0)), none] = .nx ρ' ∧ ρ'[1]? = some (some (.own ((Tm T0 B0).map .int))) := by
  obtain ⟨σ, ρ', e, h, i1, i2⟩ := whl_st (T := noT) (C := C) (c := (.e (.cmp .gt (.v 3) (.k (.int 0))))) (b := toldB) (fun s : Dv => [some (.v (pr p)), some (.own (s.f.map .int)), some (.v (.int s.t)), some (.v (.int s.b)), none]) (DvI T0 B0) (fun s => ¬ 0 < s.b) (fun s => s.b.toNat) rfl rfl (fun s hs => by
    by_cases hp : 0 < s.b
    · obtain ⟨n1, n2, n3, n4⟩ := hs.next hB hp
      have hf : s.f.length < 1000000 := by
        have := congrArg List.length hs.1
        rw [List.length_append] at this
        omega
      refine .inr ⟨[some (.v (pr p)), some (.own (s.f.map .int)), some (.v (.int s.t)), some (.v (.int s.b)), none], [some (.v (pr p)), some (.own ((s.f ++ [s.t / s.b]).map .int)), some (.v (.int s.b)), some (.v (.int (s.t % s.b))), some (.v (.int (s.t / s.b)))], ⟨s.f ++ [s.t / s.b], s.b, s.t % s.b⟩, by simp [hp], ?_, le_of (by simp), n1, n2⟩
      simp [Pv.lim_n, Pv.addX, Pv.extX, Pv.jx0, Pv.jx1, -List.map_map, -List.map_reverse, -List.map_tail, -List.map_take, -List.map_drop, toldB, Ok.div hp n3, hf, n4.mul n3, td_step]
    · exact .inl ⟨[some (.v (pr p)), some (.own (s.f.map .int)), some (.v (.int s.t)), some (.v (.int s.b)), none], by simp; omega, Le.refl _ _, hp⟩) (B0.toNat) ⟨[], T0, B0⟩ [some (.v (pr p)), some (.own []), some (.v (.int T0)), some (.v (.int B0)), none] (Nat.le_refl _) ⟨rfl, h0, Int.le_refl _, hT⟩ (Le.refl _ _)
  refine ⟨ρ', e, ?_⟩
  have := h.get (i := 1) rfl
  have k := i1.1
  rw [Tm_no i2, List.append_nil] at k
  rw [this, k]
theorem lter_loop {C : Cfg} (h0 : 0 ≤ B0) (hB : Ok B0) (hT : Ok T0) (hl : (Tm T0 B0).length < 1000000) :
    ∃ ρ', evS C lterL [some (.v (.int T0)), some (.v (.int B0)), some (.own [])] = .nx ρ' ∧ ρ'[2]? = some (some (.own ((Tm T0 B0).map .int))) := by
  obtain ⟨σ, ρ', e, h, i1, i2⟩ := whl_st (T := noT) (C := C) (c := (.e (.cmp .gt (.v 1) (.k (.int 0))))) (b := lterB) (fun s : Dv => [some (.v (.int s.t)), some (.v (.int s.b)), some (.own (s.f.map .int))]) (DvI T0 B0) (fun s => ¬ 0 < s.b) (fun s => s.b.toNat) rfl rfl (fun s hs => by
    by_cases hp : 0 < s.b
    · obtain ⟨n1, n2, n3, n4⟩ := hs.next hB hp
      have hf : s.f.length < 1000000 := by
        have := congrArg List.length hs.1
        rw [List.length_append] at this
        omega
      refine .inr ⟨[some (.v (.int s.t)), some (.v (.int s.b)), some (.own (s.f.map .int))], [some (.v (.int s.b)), some (.v (.int (s.t % s.b))), some (.own ((s.f ++ [s.t / s.b]).map .int))], ⟨s.f ++ [s.t / s.b], s.b, s.t % s.b⟩, by simp [hp], ?_, le_of (by simp), n1, n2⟩
      simp [Pv.lim_n, Pv.addX, Pv.extX, Pv.jx0, Pv.jx1, -List.map_map, -List.map_reverse, -List.map_tail, -List.map_take, -List.map_drop, lterB, Ok.div hp n3, hf, n4.mul n3, td_step]
    · exact .inl ⟨[some (.v (.int s.t)), some (.v (.int s.b)), some (.own (s.f.map .int))], by simp; omega, Le.refl _ _, hp⟩) (B0.toNat) ⟨[], T0, B0⟩ [some (.v (.int T0)), some (.v (.int B0)), some (.own [])] (Nat.le_refl _) ⟨rfl, h0, Int.le_refl _, hT⟩ (Le.refl _ _)
  refine ⟨ρ', e, ?_⟩
  have := h.get (i := 2) rfl
  have k := i1.1
  rw [Tm_no i2, List.append_nil] at k
  rw [this, k]
end
section
variable {P : List Fn} {gl : Gls} {n j ja ji js jt jc jl x g : Nat}
theorem told_ok {t b : Int} (hP : P[j]? = some fTold) (h0 : 0 ≤ b) (hB : Ok b) (hT : Ok t) (hl : (Tm t b).length < 1000000) : run P gl (n + 1) j [.v (pr (t, b))] = .ret (.pv (td (Tm t b))) none := by
  rw [run_succ hP, if_pos ⟨rfl, rfl⟩]
  obtain ⟨ρ', e, h⟩ := told_loop (C := cf P gl n) (p := (t, b)) h0 hB hT hl
  have e' : evS (cf P gl n) toldL [some (.v (.tuple [.int t, .int b])), some (.own []), some (.v (.int t)), some (.v (.int b)), none] = .nx ρ' := e
  simp [Pv.lim_n, Pv.addX, Pv.extX, Pv.jx0, Pv.jx1, -List.map_map, -List.map_reverse, -List.map_tail, -List.map_take, -List.map_drop, fTold, pr, e', h]
theorem lter_ok {t b : Int} (hP : P[j]? = some fLter) (h0 : 0 ≤ b) (hB : Ok b) (hT : Ok t) (hl : (Tm t b).length < 1000000) : run P gl (n + 1) j [.v (.int t), .v (.int b)] = .ret (.pv (td (Tm t b))) none := by
  rw [run_succ hP, if_pos ⟨rfl, rfl⟩]
  obtain ⟨ρ', e, h⟩ := lter_loop (C := cf P gl n) h0 hB hT hl
  simp [Pv.lim_n, Pv.addX, Pv.extX, Pv.jx0, Pv.jx1, -List.map_map, -List.map_reverse, -List.map_tail, -List.map_take, -List.map_drop, fLter, e, h]
theorem lowS_loop {C : Cfg} {t u z : Option Slot} : ∀ (m a b : Nat), a ≤ m → evS C lowSL [t, u, z, some (.v (.int b)), some (.v (.int a))] = .nx [t, u, z, some (.v (.int (Nat.gcd a b))), some (.v (.int 0))]
  | 0, a, b, h => by
    have e : a = 0 := by omega
    subst e
    rw [Nat.gcd_zero_left]
    exact whl_f (by simp)
  | m + 1, a, b, h => by
    by_cases h0 : a = 0
    · subst h0
      rw [Nat.gcd_zero_left]
      exact whl_f (by simp)
    · have hp : (0 : Int) < a := by omega
      have ih := lowS_loop (C := C) (t := t) (u := u) (z := z) m (b % a) a (by have := Nat.mod_lt b (show 0 < a by omega); omega)
      rw [Nat.gcd_rec a b, ← ih]
      exact whl_t (ρ1 := [t, u, z, some (.v (.int b)), some (.v (.int a))]) (by simp; omega) (by simp [lowSB, b_mod hp])
/-- what has nothing in common stays -/
theorem lowS_one {t b : Int} (hP : P[j]? = some fLowS) (hb : 0 < b) (hg : Int.gcd t b = 1) : run P gl (n + 1) j [.v (.int t), .v (.int b)] = .ret (.pv (pr (t, b))) none := by
  rw [run_succ hP, if_pos ⟨rfl, rfl⟩]
  have e := lowS_loop (C := (cf P gl n)) (t := some (.v (.int t))) (u := some (.v (.int b))) (z := none) b.natAbs b.natAbs t.natAbs (Nat.le_refl _)
  have e2 : ((b.natAbs.gcd t.natAbs : Nat) : Int) = 1 := by
    rw [Nat.gcd_comm]
    exact congrArg _ hg
  rw [e2] at e
  have m1 : ∀ i : Int, binD .mul (.int 1) (.int i) = some (.int (1 * i)) := fun i => b_mulL (by decide)
  have d1 : ∀ i : Int, binD .fdiv (.int i) (.int 1) = some (.int (i / 1)) := fun i => divS (by decide) (by decide)
  simp [Pv.lim_n, Pv.addX, Pv.extX, Pv.jx0, Pv.jx1, -List.map_map, -List.map_reverse, -List.map_tail, -List.map_take, -List.map_drop, fLowS, abs_nat, e, hb, m1, d1, pr]
theorem lowS_ok {t b : Int} (hP : P[j]? = some fLowS) (hb : 0 < b) (hz : Ok b) : run P gl (n + 1) j [.v (.int t), .v (.int b)] = .ret (.pv (pr (redP t b))) none := by
  rw [run_succ hP, if_pos ⟨rfl, rfl⟩]
  have e := lowS_loop (C := (cf P gl n)) (t := some (.v (.int t))) (u := some (.v (.int b))) (z := none) b.natAbs b.natAbs t.natAbs (Nat.le_refl _)
  have e2 : ((b.natAbs.gcd t.natAbs : Nat) : Int) = (Int.gcd t b : Int) := by
    rw [Nat.gcd_comm]
    rfl
  rw [e2] at e
  have hg : 0 < Int.gcd t b := Int.gcd_pos_of_ne_zero_right _ (by omega)
  have hle := gcd_le (t := t) (b := b) (by omega)
  have m1 : ∀ i : Int, binD .mul (.int 1) (.int i) = some (.int (1 * i)) := fun i => b_mulL (by decide)
  have d1 : ∀ i : Int, binD .fdiv (.int i) (.int (Int.gcd t b : Int)) = some (.int (i / (Int.gcd t b : Int))) := fun i => Ok.div (by omega) (hz.le (by omega))
  simp [Pv.lim_n, Pv.addX, Pv.extX, Pv.jx0, Pv.jx1, -List.map_map, -List.map_reverse, -List.map_tail, -List.map_take, -List.map_drop, fLowS, abs_nat, e, hb, m1, d1, pr, redP]
end
end Pv

namespace Pv
open PySem
/-! ### small rows -/
def Sml (ts : List Int) : Prop := ts.length ≤ 300 ∧ ∀ x ∈ ts, x.natAbs < 2 ^ 200
theorem Sml.take {ts : List Int} (h : Sml ts) (k : Nat) : Sml (ts.take k) := ⟨Nat.le_trans (by rw [List.length_take]; omega) h.1, fun x hx => h.2 x (List.mem_of_mem_take hx)⟩
theorem Sml.drop {ts : List Int} (h : Sml ts) (k : Nat) : Sml (ts.drop k) := ⟨Nat.le_trans (by rw [List.length_drop]; omega) h.1, fun x hx => h.2 x (List.mem_of_mem_drop hx)⟩
theorem Sml.tail {a : Int} {ts : List Int} (h : Sml (a :: ts)) : Sml ts := ⟨by have := h.1; rw [List.length_cons] at this; omega, fun x hx => h.2 x (List.mem_cons_of_mem _ hx)⟩
theorem Sml.rev {ts : List Int} (h : Sml ts) : Sml ts.reverse := ⟨by rw [List.length_reverse]; exact h.1, fun x hx => h.2 x (List.mem_reverse.mp hx)⟩
theorem Sml.K {ts : List Int} (h : Sml ts) : (Kc ts).natAbs < BIG := by
  have e := (kf_size (B := 200) ts 0 1 1 h.2 (by decide) (by decide)).2
  exact BIG_of e (by have := h.1; omega)
theorem Sml.J {ts : List Int} (h : Sml ts) : (Jc ts).natAbs < BIG := by
  have e := (kf_size (B := 200) ts 1 0 1 h.2 (by decide) (by decide)).2
  exact BIG_of e (by have := h.1; omega)
theorem Sml.x {ts : List Int} (h : Sml ts) {x : Int} (hx : x ∈ ts) : x.natAbs < BIG := BIG_of (h.2 x hx) (by decide)
theorem Sml.mul {a : Int} {ts : List Int} (h : Sml (a :: ts)) : binD .mul (.int a) (.int (Kc ts)) = some (.int (a * Kc ts)) := b_mul (h.x (List.mem_cons_self ..)) h.tail.K
/-- what the terms come to, from the last on -/
def cst (p : Int × Int) (x : Int) : Int × Int := (x * p.1 + p.2, p.1)
theorem cst_fold : ∀ ts : List Int, ts.reverse.foldl cst (1, 0) = (Kc ts, Jc ts)
  | [] => rfl
  | a :: r => by
    rw [List.reverse_cons, List.foldl_append, cst_fold r]
    show (a * Kc r + Jc r, Kc r) = _
    rw [Kc_cons, Jc_cons]
theorem cst_at (ts : List Int) (k : Nat) (hk : k ≤ ts.length) : foldAt cst (1, 0) ts.reverse k = (Kc (ts.drop (ts.length - k)), Jc (ts.drop (ts.length - k))) := by
  unfold foldAt
  rw [← cst_fold]
  congr 1
  rw [List.reverse_drop]
  congr 1
  omega
theorem rev_at {ts : List Int} {k : Nat} {x : Int} (h : ts.reverse[k]? = some x) : k < ts.length ∧ ts.drop (ts.length - (k + 1)) = x :: ts.drop (ts.length - k) := by
  have hk : k < ts.length := by have := (List.getElem?_eq_some_iff.mp h).1; rwa [List.length_reverse] at this
  refine ⟨hk, ?_⟩
  rw [List.getElem?_reverse hk] at h
  have e := List.getElem_cons_drop (as := ts) (i := ts.length - (k + 1)) (by omega)
  have e2 : ts.length - (k + 1) = ts.length - 1 - k := by omega
  have e3 : ts.length - (k + 1) + 1 = ts.length - k := by omega
  rw [← e, e3]
  congr 1
  rw [← e2] at h
  exact Option.some.inj ((List.getElem?_eq_getElem (by omega)).symm.trans h)
section
variable {P : List Fn} {gl : Gls} {n j ja ji js jt jc jl jm x g : Nat}
theorem come_ok {ts : List Int} (hP : P[j]? = some (fCome jl)) (hL : P[jl]? = some fLowS) (h : Sml ts) (hb : 0 < Jc ts) : run P gl (n + 2) j [.v (td ts)] = .ret (.pv (q2 ts)) none := by
  rw [run_succ hP, if_pos ⟨rfl, rfl⟩]
  have hit : evI (cf P gl (n + 1)) (.of (.rev (.v 0))) [some (.v (td ts)), none, some (.v (.int 1)), some (.v (.int 0))] = .ok (ts.reverse.map PyData.int) [some (.v (td ts)), none, some (.v (.int 1)), some (.v (.int 0))] := by
    rw [List.map_reverse]
    simp
  obtain ⟨ρ', e, l, _⟩ := for_fold (T := noT) (C := cf P gl (n + 1)) (b := comeB) (fun p : Int × Int => [some (.v (td ts)), none, some (.v (.int p.1)), some (.v (.int p.2))]) cst (fun k p => p = (Kc (ts.drop (ts.length - k)), Jc (ts.drop (ts.length - k)))) (i := 1) (ns := ts.reverse) (σ := (1, 0)) rfl hit (Le.refl _ _) (by rw [Nat.sub_zero, List.drop_length]; rfl) fun k x p hx hp => by
    obtain ⟨hk, e⟩ := rev_at hx
    have hs : Sml (x :: ts.drop (ts.length - k)) := by rw [← e]; exact h.drop _
    have m := hs.mul
    subst hp
    refine ⟨by rw [e, Kc_cons, Jc_cons]; rfl, ?_⟩
    exact ⟨_, by simp [Pv.lim_n, Pv.addX, Pv.extX, Pv.jx0, Pv.jx1, -List.map_map, -List.map_reverse, -List.map_tail, -List.map_take, -List.map_drop, comeB, m]; rfl, le_of (by simp [cst])⟩
  rw [cst_fold] at l
  have lo := lowS_one (P := P) (gl := gl) (n := n) (t := Kc ts) (b := Jc ts) hL hb (KJ_gcd ts)
  have g2 := l.get (i := 2) rfl
  have g3 := l.get (i := 3) rfl
  have e' : evS (cf P gl (n + 1)) comeL [some (.v (td ts)), none, some (.v (.int 1)), some (.v (.int 0))] = .nx ρ' := e
  obtain ⟨ρ2, e2, _⟩ := rest_ret (T := noT) (C := cf P gl (n + 1)) (s := .cons (.ret (.call jl (.cons (.v 2) (.cons (.v 3) .nil)))) .nil) (x := .pv (q2 ts)) (ρ1 := [some (.v (td ts)), none, some (.v (.int (Kc ts))), some (.v (.int (Jc ts)))]) rfl l (by simp [lo, pr])
  have go : evSs (cf P gl (n + 1)) (fCome jl).body ([Slot.v (td ts)].map some ++ List.replicate ((fCome jl).nl - (fCome jl).ar) none) = .ret (.pv (q2 ts)) ρ2 := by
    show evSs (cf P gl (n + 1)) (.cons (.asg (.t [2, 3]) (.tup (.cons (.k (.int 1)) (.cons (.k (.int 0)) .nil)))) (.cons comeL _)) [some (.v (td ts)), none, none, none] = _
    rw [ss_cons, show evS (cf P gl (n + 1)) (.asg (.t [2, 3]) (.tup (.cons (.k (.int 1)) (.cons (.k (.int 0)) .nil)))) [some (.v (td ts)), none, none, none] = .nx [some (.v (td ts)), none, some (.v (.int 1)), some (.v (.int 0))] by simp [lim_n], SR.bind_nx, ss_cons, e', SR.bind_nx]
    exact e2
  rw [go]
  rfl
theorem made_one {t b : Int} (hP : P[j]? = some (fMade jc)) (hc : P[jc]? = some fCommon) (hb : 0 < b) (hg : Int.gcd t b = 1) : run P gl (n + 2) j [.v (.int t), .v (.int b)] = .ret (.pv (pr (t, b))) none := by
  rw [run_succ hP, if_pos ⟨rfl, rfl⟩]
  have cm := common_ok (gl := gl) (n := n) (a := t) (b := b) hc
  rw [hg] at cm
  have d1 : ∀ i : Int, binD .fdiv (.int i) (.int 1) = some (.int (i / 1)) := fun i => divS (by decide) (by decide)
  simp [Pv.lim_n, Pv.addX, Pv.extX, Pv.jx0, Pv.jx1, -List.map_map, -List.map_reverse, -List.map_tail, -List.map_take, -List.map_drop, fMade, cm, hb, d1, pr]
theorem sumsV_last {ts : List Int} (h : ts ≠ []) : L2.atI (sumsV ts) (-1) = some (q2 ts) := by
  unfold sumsV
  obtain ⟨m, hm⟩ : ∃ m, ts.length = m + 1 := ⟨ts.length - 1, by have := List.length_pos_iff.mpr h; omega⟩
  rw [hm, List.range_succ, List.map_append]
  show L2.atI (_ ++ [q2 (ts.take (m + 1))]) (-1) = _
  rw [last_at, List.take_of_length_le (by omega)]
theorem ratioOf_ok {a : Int} {r : List Int} (hP : P[j]? = some (fRatioOf jc js)) (hc : P[jc]? = some (fCheck1 jt x)) (ht : P[jt]? = some (fAreTerms ja g)) (ha : P[ja]? = some (fAreInts ji jm)) (hi : P[ji]? = some fIsInt) (hm : P[jm]? = some fSized) (hg : gl g = some (.int 400)) (hs : P[js]? = some fSumsIn) (h : Sml (a :: r)) (hv : Vt r) : run P gl (n + 5) j [.v (td (a :: r))] = .ret (.pv (q2 (a :: r))) none := by
  have hl : r.length < 400 := by have := h.1; rw [List.length_cons] at this; omega
  have c := check1_ok (P := P) (gl := gl) (n := n + 3) (d := td (a :: r)) hc (areTerms_ok (n := n) ht ha hi hm hg hl hv)
  have s := sumsIn_ok (P := P) (gl := gl) (n := n + 3) (ts := a :: r) hs (Nat.le_trans h.1 (by decide)) (fun y hy => sz_le (h.2 y hy) (by decide)) fun k => ⟨(h.take k).K, (h.take k).J⟩
  have la := sumsV_last (ts := a :: r) (by simp)
  rw [run_succ hP, if_pos ⟨rfl, rfl⟩]
  generalize a :: r = ts at *
  generalize sumsV ts = sv at *
  simp [Pv.lim_n, Pv.addX, Pv.extX, Pv.jx0, Pv.jx1, -List.map_map, -List.map_reverse, -List.map_tail, -List.map_take, -List.map_drop, fRatioOf, c, s, la]
end
end Pv

namespace Pv
open PySem
/-! ### comparing plain data -/
/-- ints, None, and rows of such, that deep at the most -/
def dk : Nat → D → Bool
  | _, .int _ => true
  | _, .none => true
  | _, .str s => PyData.canLay0 (.str s)
  | k + 1, .tuple xs => xs.all (dk k)
  | k + 1, .list xs => xs.all (dk k)
  | _, _ => false
theorem dk_lay : ∀ (k : Nat) (d : D), dk k d = true → PyData.canLay0 d = true ∧ PyData.depth d ≤ k ∧ noDic d = true := by
  have all : ∀ (k : Nat), (∀ d : D, dk k d = true → PyData.canLay0 d = true ∧ PyData.depth d ≤ k ∧ noDic d = true) → ∀ xs : List D, xs.all (dk k) = true → PyData.canLayAll0 xs = true ∧ PyData.depthAll xs ≤ k ∧ noDics xs = true := fun k ih xs => by
    induction xs with
    | nil => exact fun _ => ⟨rfl, Nat.zero_le _, rfl⟩
    | cons x r ihr =>
      intro h
      obtain ⟨h1, h2⟩ := band (by simpa [List.all_cons] using h : (dk k x && r.all (dk k)) = true)
      obtain ⟨a1, a2, a3⟩ := ih x h1
      obtain ⟨b1, b2, b3⟩ := ihr h2
      refine ⟨?_, ?_, ?_⟩
      · unfold PyData.canLayAll0; rw [a1, b1]; rfl
      · unfold PyData.depthAll; omega
      · unfold noDics; rw [a3, b3]; rfl
  intro k
  induction k with
  | zero =>
    intro d h
    cases d with
    | int i => exact ⟨rfl, Nat.le_refl _, rfl⟩
    | none => exact ⟨rfl, Nat.le_refl _, rfl⟩
    | str i => exact ⟨h, Nat.le_refl _, rfl⟩
    | _ => cases h
  | succ k ih =>
    intro d h
    cases d with
    | int i => exact ⟨rfl, Nat.zero_le _, rfl⟩
    | none => exact ⟨rfl, Nat.zero_le _, rfl⟩
    | str i => exact ⟨h, Nat.zero_le _, rfl⟩
    | tuple xs =>
      obtain ⟨a1, a2, a3⟩ := all k ih xs h
      exact ⟨by unfold PyData.canLay0; exact a1, by unfold PyData.depth; omega, by unfold noDic; exact a3⟩
    | list xs =>
      obtain ⟨a1, a2, a3⟩ := all k ih xs h
      exact ⟨by unfold PyData.canLay0; exact a1, by unfold PyData.depth; omega, by unfold noDic; exact a3⟩
    | _ => cases h
theorem dk_shp {k : Nat} {d : D} (h : dk k d = true) (hk : k ≤ 64) : shp d = true := by
  obtain ⟨h1, h2, h3⟩ := dk_lay k d h
  unfold shp SeqAt.shaped
  rw [h1, h3, decide_eq_true (by omega)]
  rfl
theorem dk_eqv : ∀ (k : Nat) (a b : D), dk k a = true → dk k b = true → (PyData.eqv a b = true ↔ a = b) := by
  have all : ∀ (k : Nat), (∀ a b : D, dk k a = true → dk k b = true → (PyData.eqv a b = true ↔ a = b)) → ∀ xs ys : List D, xs.all (dk k) = true → ys.all (dk k) = true → (PyData.eqvAll xs ys = true ↔ xs = ys) := fun k ih xs => by
    induction xs with
    | nil =>
      intro ys _ _
      cases ys with
      | nil => exact ⟨fun _ => rfl, fun _ => rfl⟩
      | cons y r => exact ⟨fun h => (by cases h), fun h => (by cases h)⟩
    | cons x r ihr =>
      intro ys hx hy
      cases ys with
      | nil => exact ⟨fun h => (by cases h), fun h => (by cases h)⟩
      | cons y s =>
        obtain ⟨h1, h2⟩ := band (by simpa [List.all_cons] using hx : (dk k x && r.all (dk k)) = true)
        obtain ⟨h3, h4⟩ := band (by simpa [List.all_cons] using hy : (dk k y && s.all (dk k)) = true)
        unfold PyData.eqvAll
        rw [Bool.and_eq_true, ih x y h1 h3, ihr s h2 h4]
        constructor
        · rintro ⟨rfl, rfl⟩; rfl
        · intro h; cases h; exact ⟨rfl, rfl⟩
  intro k
  induction k with
  | zero =>
    intro a b ha hb
    cases a <;> cases b <;> first | (cases ha; done) | (cases hb; done) | (exact ⟨fun _ => rfl, fun _ => rfl⟩) | (exact ⟨fun h => (by cases h), fun h => (by cases h)⟩) | skip
    · rename_i i j
      show (i == j) = true ↔ _
      rw [beq_iff_eq]
      exact ⟨fun h => by rw [h], fun h => by cases h; rfl⟩
    · rename_i i j
      show (i == j) = true ↔ _
      rw [beq_iff_eq]
      exact ⟨fun h => by rw [h], fun h => by cases h; rfl⟩
  | succ k ih =>
    intro a b ha hb
    cases a <;> cases b <;> first | (cases ha; done) | (cases hb; done) | (exact ⟨fun _ => rfl, fun _ => rfl⟩) | (exact ⟨fun h => (by cases h), fun h => (by cases h)⟩) | skip
    · rename_i i j
      show (i == j) = true ↔ _
      rw [beq_iff_eq]
      exact ⟨fun h => by rw [h], fun h => by cases h; rfl⟩
    · rename_i i j
      show (i == j) = true ↔ _
      rw [beq_iff_eq]
      exact ⟨fun h => by rw [h], fun h => by cases h; rfl⟩
    · rename_i xs ys
      have := all k ih xs ys ha hb
      unfold PyData.eqv
      rw [this]
      exact ⟨fun h => by rw [h], fun h => by cases h; rfl⟩
    · rename_i xs ys
      have := all k ih xs ys ha hb
      unfold PyData.eqv
      rw [this]
      exact ⟨fun h => by rw [h], fun h => by cases h; rfl⟩
theorem d_eq {k : Nat} {a b : D} (ha : dk k a = true) (hb : dk k b = true) (hk : k ≤ 64) (h : a = b) : cmpD .eq a b = some true := by
  rw [cmp_eq (dk_shp ha hk) (dk_shp hb hk), (dk_eqv k a b ha hb).mpr h]
theorem d_eq' {k : Nat} {a b : D} (ha : dk k a = true) (hb : dk k b = true) (hk : k ≤ 64) (h : a ≠ b) : cmpD .eq a b = some false := by
  rw [cmp_eq (dk_shp ha hk) (dk_shp hb hk)]
  cases e : PyData.eqv a b with
  | false => rfl
  | true => exact absurd ((dk_eqv k a b ha hb).mp e) h
theorem d_ne {k : Nat} {a b : D} (ha : dk k a = true) (hb : dk k b = true) (hk : k ≤ 64) (h : a = b) : cmpD .ne a b = some false := by
  rw [cmp_ne (dk_shp ha hk) (dk_shp hb hk), (dk_eqv k a b ha hb).mpr h]
  rfl
theorem d_ne' {k : Nat} {a b : D} (ha : dk k a = true) (hb : dk k b = true) (hk : k ≤ 64) (h : a ≠ b) : cmpD .ne a b = some true := by
  rw [cmp_ne (dk_shp ha hk) (dk_shp hb hk)]
  cases e : PyData.eqv a b with
  | false => rfl
  | true => exact absurd ((dk_eqv k a b ha hb).mp e) h
theorem dk_td (ns : List Int) : dk 1 (td ns) = true := List.all_eq_true.mpr fun d hd => by
  obtain ⟨i, _, rfl⟩ := List.mem_map.mp hd
  rfl
theorem td_inj {a b : List Int} (h : td a = td b) : a = b := by
  have h : a.map PyData.int = b.map PyData.int := by injection h
  exact (List.map_inj_right fun x y h => by injection h).mp h
end Pv

namespace Pv
open PySem
/-! ### great numbers, ratios of either sign -/
def fGreat (jd : Nat) : Fn := ⟨1, 2, (.cons (.asg (.n 1) (.cio jd 0 (.cons (.k (.int 4)) .nil)))
 (.cons (.ite (.e (.cmp .lt (.v 1) (.k (.int 2))))
 (.cons (.ret (.bin .add (.k (.int 1)) (.cio jd 0 (.cons (.k (.int 40)) .nil))))
 .nil)
 .nil)
 (.cons (.ite (.e (.cmp .eq (.v 1) (.k (.int 2))))
 (.cons (.ret (.bin .add (.k (.int 1)) (.cio jd 0 (.cons (.bin .pow (.k (.int 10)) (.k (.int 6))) .nil))))
 .nil)
 .nil)
 (.cons (.ret (.bin .add (.bin .add (.bin .add (.k (.int 1)) (.bin .mul (.cio jd 0 (.cons (.bin .pow (.k (.int 10)) (.k (.int 9))) .nil)) (.bin .pow (.k (.int 10)) (.k (.int 21))))) (.bin .mul (.cio jd 0 (.cons (.bin .pow (.k (.int 10)) (.k (.int 9))) .nil)) (.bin .pow (.k (.int 10)) (.k (.int 12))))) (.cio jd 0 (.cons (.bin .pow (.k (.int 10)) (.k (.int 9))) .nil))))
 .nil))))⟩
def fRatioB (jl jg ja jd : Nat) : Fn := ⟨1, 1, (.cons (.ret (.call jl (.cons (.bin .mul (.bin .mul (.cio jg 0 .nil) (.cio ja 0 (.cons (.lst (.cons (.k (.int 1)) (.cons (.k (.int 1)) (.cons (.bin .sub (.k (.int 0)) (.k (.int 1))) .nil)))) .nil))) (.b1 .int (.cmp .gt (.cio jd 0 (.cons (.k (.int 9)) .nil)) (.k (.int 0))))) (.cons (.cio jg 0 .nil) .nil))))
 .nil)⟩
theorem pw6 : binD .pow (.int 10) (.int 6) = some (.int 1000000) := by simp [binD]
theorem pw9 : binD .pow (.int 10) (.int 9) = some (.int 1000000000) := by simp [binD]
theorem pw12 : binD .pow (.int 10) (.int 12) = some (.int 1000000000000) := by simp [binD]
theorem pw21 : binD .pow (.int 10) (.int 21) = some (.int 1000000000000000000000) := by simp [binD]
section
variable {P : List Fn} {gl : Gls} {j jd jl jg ja n : Nat} {H : List D → Prop}
theorem great_ok (hP : P[j]? = some (fGreat jd)) (dl : Deal P gl jd H) {xs : List D} (h : H xs) : ∃ (i : Int) (ys : List D), run P gl (n + 3) j [.io xs] = .ret (.pv (.int i)) (some (.io ys)) ∧ H ys ∧ 0 < i ∧ i < 10 ^ 31 := by
  obtain ⟨k, y1, e1, h1, k0, k1⟩ := dl.draw n (many := 4) h (by decide) (by decide)
  have c1 : evE (cf P gl (n + 2)) (.cio jd 0 (.cons (.k (.int 4)) .nil)) [some (.io xs), none] = .ok (.pv (.int k)) [some (.io y1), none] := cio_k0 e1
  rw [run_succ hP, if_pos ⟨rfl, rfl⟩]
  by_cases h2 : k < 2
  · obtain ⟨i, y2, e2, h3, i0, i1⟩ := dl.draw n (many := 40) h1 (by decide) (by decide)
    have c2 : evE (cf P gl (n + 2)) (.cio jd 0 (.cons (.k (.int 40)) .nil)) [some (.io y1), some (.v (.int k))] = .ok (.pv (.int i)) [some (.io y2), some (.v (.int k))] := cio_k0 e2
    refine ⟨1 + i, y2, ?_, h3, by omega, by omega⟩
    simp [Pv.lim_n, Pv.addX, Pv.extX, Pv.jx0, Pv.jx1, -List.map_map, -List.map_reverse, -List.map_tail, -List.map_take, -List.map_drop, fGreat, c1, h2, c2]
  · by_cases h3 : k = 2
    · obtain ⟨i, y2, e2, h4, i0, i1⟩ := dl.draw n (many := 1000000) h1 (by decide) (by decide)
      have c2 : evE (cf P gl (n + 2)) (.cio jd 0 (.cons (.bin .pow (.k (.int 10)) (.k (.int 6))) .nil)) [some (.io y1), some (.v (.int k))] = .ok (.pv (.int i)) [some (.io y2), some (.v (.int k))] := ecio_io (xs := y1) (xs' := y1) (ds := [.int 1000000]) (ρ' := [some (.io y1), some (.v (.int k))]) rfl (by simp [pw6]) rfl e2
      refine ⟨1 + i, y2, ?_, h4, by omega, by omega⟩
      subst h3
      simp [Pv.lim_n, Pv.addX, Pv.extX, Pv.jx0, Pv.jx1, -List.map_map, -List.map_reverse, -List.map_tail, -List.map_take, -List.map_drop, fGreat, c1, c2]
    · have cc : ∀ {y : List D}, H y → ∃ (i : Int) (z : List D), evE (cf P gl (n + 2)) (.cio jd 0 (.cons (.bin .pow (.k (.int 10)) (.k (.int 9))) .nil)) [some (.io y), some (.v (.int k))] = .ok (.pv (.int i)) [some (.io z), some (.v (.int k))] ∧ H z ∧ 0 ≤ i ∧ i < 1000000000 := fun {y} hy => by
        obtain ⟨i, z, e, hz, i0, i1⟩ := dl.draw n (many := 1000000000) hy (by decide) (by decide)
        exact ⟨i, z, ecio_io (xs := y) (xs' := y) (ds := [.int 1000000000]) (ρ' := [some (.io y), some (.v (.int k))]) rfl (by simp [pw9]) rfl e, hz, i0, i1⟩
      obtain ⟨a, z1, f1, hz1, a0, a1⟩ := cc h1
      obtain ⟨b, z2, f2, hz2, b0, b1⟩ := cc hz1
      obtain ⟨c, z3, f3, hz3, d0, d1⟩ := cc hz2
      have m1 : binD .mul (.int a) (.int 1000000000000000000000) = some (.int (a * 1000000000000000000000)) := b_mulL (by omega)
      have m2 : binD .mul (.int b) (.int 1000000000000) = some (.int (b * 1000000000000)) := b_mulL (by omega)
      refine ⟨1 + a * 1000000000000000000000 + b * 1000000000000 + c, z3, ?_, hz3, by omega, by omega⟩
      simp [Pv.lim_n, Pv.addX, Pv.extX, Pv.jx0, Pv.jx1, -List.map_map, -List.map_reverse, -List.map_tail, -List.map_take, -List.map_drop, fGreat, c1, h2, h3, f1, f2, f3, pw12, pw21, m1, m2]
theorem redP_gcd {t b : Int} (hb : 0 < b) : Int.gcd (redP t b).1 (redP t b).2 = 1 ∧ 0 < (redP t b).2 ∧ (redP t b).2 ≤ b ∧ (redP t b).1.natAbs ≤ t.natAbs := by
  unfold redP
  rw [if_pos hb]
  have hg : 0 < Int.gcd t b := Int.gcd_pos_of_ne_zero_right _ (by omega)
  have hd : (Int.gcd t b : Int) ∣ b := Int.gcd_dvd_right ..
  refine ⟨Int.gcd_ediv_gcd_ediv_gcd hg, Int.ediv_pos_of_pos_of_dvd hb (by omega) hd, Int.ediv_le_self _ (by omega), Int.natAbs_ediv_le_natAbs _ _⟩
theorem ratioB_ok (hP : P[j]? = some (fRatioB jl jg ja jd)) (hl : P[jl]? = some fLowS) (hg : P[jg]? = some (fGreat jd)) (ha : P[ja]? = some (fAny jd)) (dl : Deal P gl jd H) {xs : List D} (h : H xs) : ∃ (t b : Int) (ys : List D), run P gl (n + 4) j [.io xs] = .ret (.pv (pr (t, b))) (some (.io ys)) ∧ H ys ∧ Int.gcd t b = 1 ∧ 0 < b ∧ b < 10 ^ 31 ∧ t.natAbs < 10 ^ 31 := by
  obtain ⟨i, y1, e1, h1, i0, i1⟩ := great_ok (n := n) hg dl h
  obtain ⟨k, d, y2, e2, h2, hk⟩ := any_l ha dl n (ds := [.int 1, .int 1, .int (-1)]) h1 (by decide) (by decide)
  have hd : ∃ s : Int, d = .int s ∧ (s = 1 ∨ s = -1) := by
    have := List.mem_of_getElem? hk
    rcases (by simpa using this : d = .int 1 ∨ d = .int (-1)) with rfl | rfl
    · exact ⟨1, rfl, .inl rfl⟩
    · exact ⟨-1, rfl, .inr rfl⟩
  obtain ⟨s, rfl, hs⟩ := hd
  obtain ⟨q, y3, e3, h3, q0, q1⟩ := dl.draw (n + 1) (many := 9) h2 (by decide) (by decide)
  obtain ⟨b, y4, e4, h4, b0, b1⟩ := great_ok (n := n) hg dl h3
  have hv : ∃ v : Int, (v = 0 ∨ v = 1) ∧ bltD .int [.bool (decide (0 < q))] = some (.int v) := by
    by_cases hq : 0 < q
    · exact ⟨1, .inr rfl, by rw [decide_eq_true hq]; rfl⟩
    · exact ⟨0, .inl rfl, by rw [decide_eq_false hq]; rfl⟩
  obtain ⟨v, hv0, hv1⟩ := hv
  have c1 : evE (cf P gl (n + 3)) (.cio jg 0 .nil) [some (.io xs)] = .ok (.pv (.int i)) [some (.io y1)] := ecio_io (xs := xs) (xs' := xs) (ds := []) (ρ' := [some (.io xs)]) rfl rfl rfl e1
  have c2 : evE (cf P gl (n + 3)) (.cio ja 0 (.cons (.lst (.cons (.k (.int 1)) (.cons (.k (.int 1)) (.cons (.bin .sub (.k (.int 0)) (.k (.int 1))) .nil)))) .nil)) [some (.io y1)] = .ok (.pv (.int s)) [some (.io y2)] := ecio_io (xs := y1) (xs' := y1) (ds := [.list [.int 1, .int 1, .int (-1)]]) (ρ' := [some (.io y1)]) rfl (by simp [lim_n]) rfl e2
  have c3 : evE (cf P gl (n + 3)) (.cio jd 0 (.cons (.k (.int 9)) .nil)) [some (.io y2)] = .ok (.pv (.int q)) [some (.io y3)] := cio_k0 e3
  have c4 : evE (cf P gl (n + 3)) (.cio jg 0 .nil) [some (.io y3)] = .ok (.pv (.int b)) [some (.io y4)] := ecio_io (xs := y3) (xs' := y3) (ds := []) (ρ' := [some (.io y3)]) rfl rfl rfl e4
  have m1 : binD .mul (.int i) (.int s) = some (.int (i * s)) := b_mulR (by omega)
  have m2 : binD .mul (.int (i * s)) (.int v) = some (.int (i * s * v)) := b_mulR (by omega)
  have lo := lowS_ok (P := P) (gl := gl) (n := n + 2) (t := i * s * v) (b := b) hl b0 (Nat.lt_of_lt_of_le (show b.natAbs < 2 ^ 110 by omega) (Nat.pow_le_pow_right (by decide) (by decide)))
  obtain ⟨g1, g2, g3, g4⟩ := redP_gcd (t := i * s * v) b0
  have hb : (i * s * v).natAbs < 10 ^ 31 := by
    rcases hs with rfl | rfl <;> rcases hv0 with rfl | rfl <;> omega
  refine ⟨(redP (i * s * v) b).1, (redP (i * s * v) b).2, y4, ?_, h4, g1, g2, by omega, by omega⟩
  rw [run_succ hP, if_pos ⟨rfl, rfl⟩]
  simp [Pv.lim_n, Pv.addX, Pv.extX, Pv.jx0, Pv.jx1, -List.map_map, -List.map_reverse, -List.map_tail, -List.map_take, -List.map_drop, fRatioB, c1, c2, c3, c4, m1, m2, hv1, lo]
end
end Pv

namespace Pv
open PySem
/-! ### counted rows, neighbours -/
theorem enum_range' (f : Nat → D) : ∀ (n s : Nat), enumD s ((List.range' s n).map f) = (List.range' s n).map fun (k : Nat) => .tuple [.int (k : Int), f k]
  | 0, _ => rfl
  | n + 1, s => by
    rw [List.range'_succ, List.map_cons, List.map_cons]
    show PyData.tuple [.int (s : Int), f s] :: enumD (s + 1) _ = _
    rw [enum_range' f n (s + 1)]
theorem enum_range (f : Nat → D) (n : Nat) : enumD 0 ((List.range n).map f) = (List.range n).map fun (k : Nat) => .tuple [.int (k : Int), f k] := by
  rw [List.range_eq_range']
  exact enum_range' f n 0
theorem zip_range' (f : Nat → D) : ∀ (n s : Nat), zipD ((List.range' s (n + 1)).map f) ((List.range' (s + 1) n).map f) = (List.range' s n).map fun (k : Nat) => .tuple [f k, f (k + 1)]
  | 0, _ => rfl
  | n + 1, s => by
    rw [List.range'_succ (s := s) (n := n + 1), List.map_cons]
    conv => lhs; rw [List.range'_succ (s := s + 1) (n := n), List.map_cons]
    show PyData.tuple [f s, f (s + 1)] :: zipD ((List.range' (s + 1) (n + 1)).map f) ((List.range' (s + 1 + 1) n).map f) = _
    rw [zip_range' f n (s + 1), List.range'_succ, List.map_cons]
/-- a row and what is behind its first -/
theorem zip_next (f : Nat → D) (n : Nat) : zipD ((List.range n).map f) (((List.range n).map f).drop 1) = (List.range (n - 1)).map fun (k : Nat) => .tuple [f k, f (k + 1)] := by
  cases n with
  | zero => rfl
  | succ n =>
    rw [List.range_eq_range', List.range_eq_range', ← List.map_drop]
    have e : (List.range' 0 (n + 1)).drop 1 = List.range' 1 n := by rw [List.range'_succ]; rfl
    rw [e]
    exact zip_range' f n 0
end Pv

namespace Pv
open PySem
/-! ### hands that deal, a value and the next hand -/
structure Hn (H : List D → Prop) where
  xs : List D
  h : H xs
/-- a def that draws: from each hand a value and the next hand -/
structure Dr (P : List Fn) (gl : Gls) (k j : Nat) (H : List D → Prop) (args : List Slot) {α : Type} (emb : α → D) (Q : α → Prop) : Prop where
  ex : ∀ h : Hn H, ∃ (v : α) (y : Hn H), run P gl k j (.io h.xs :: args) = .ret (.pv (emb v)) (some (.io y.xs)) ∧ Q v
section
variable {P : List Fn} {gl : Gls} {k j jd : Nat} {H : List D → Prop} {args : List Slot} {α : Type} {emb : α → D} {Q : α → Prop}
/-- at any level from k on -/
theorem Dr.at (d : Dr P gl k j H args emb Q) (m : Nat) (hm : k ≤ m) (h : Hn H) : ∃ (v : α) (y : Hn H), run P gl m j (.io h.xs :: args) = .ret (.pv (emb v)) (some (.io y.xs)) ∧ Q v := by
  obtain ⟨v, y, e, q⟩ := d.ex h
  exact ⟨v, y, run_ge e (by simp) hm, q⟩
theorem Deal.dr (dl : Deal P gl jd H) {many : Int} (h0 : 0 < many) (h1 : many < 2 ^ 200) : Dr P gl 2 jd H [.v (.int many)] PyData.int (fun r => 0 ≤ r ∧ r < many) := ⟨fun h => by
  obtain ⟨r, ys, e, h2, r0, r1⟩ := dl.draw 0 h.h h0 h1
  exact ⟨r, ⟨ys, h2⟩, e, r0, r1⟩⟩
theorem any_dr (hP : P[j]? = some (fAny jd)) (dl : Deal P gl jd H) {ds : List D} (hl : 0 < ds.length) (hl2 : ds.length < 1000000) : Dr P gl 3 j H [.v (.list ds)] id (fun d => d ∈ ds) := ⟨fun h => by
  obtain ⟨k, d, ys, e, h2, hk⟩ := any_l hP dl 0 h.h hl hl2
  exact ⟨d, ⟨ys, h2⟩, e, List.mem_of_getElem? hk⟩⟩
theorem any_drt (hP : P[j]? = some (fAny jd)) (dl : Deal P gl jd H) {ds : List D} (hl : 0 < ds.length) (hl2 : ds.length < 1000000) : Dr P gl 3 j H [.v (.tuple ds)] id (fun d => d ∈ ds) := ⟨fun h => by
  obtain ⟨k, d, ys, e, h2, hk⟩ := any_t hP dl 0 h.h hl hl2
  exact ⟨d, ⟨ys, h2⟩, e, List.mem_of_getElem? hk⟩⟩
end
/-! ### many closed calls at once -/
def isExc (c : Nat) : FR → Bool
  | .exc c' none none => c == c'
  | _ => false
theorem isExc_ok {c : Nat} {r : FR} (h : isExc c r = true) : r = .exc c none none := by
  unfold isExc at h
  split at h
  · rw [beq_iff_eq] at h
    rw [h]
  · cases h
theorem runs_exc {P : List Fn} {gl : Gls} {K n m j c : Nat} {ds : List D} {f : D → List Slot} (h : (ds.all fun d => isExc c (runF K (fun _ _ => .bad) P gl.g n j (f d))) = true) (hm : n + 2 ≤ m) {d : D} (hd : d ∈ ds) : run P gl m j (f d) = .exc c none none :=
  run_ofF (wt0 gl) (isExc_ok (List.all_eq_true.mp h d hd)) (by simp) hm
theorem cmp_ne_none {d : D} (h : cmpD .isnot d .none = some true) : d ≠ .none := fun e => by rw [e] at h; cases h
end Pv
namespace Pv
open PySem
/-! ### comprehensions that draw -/
theorem ints_of {Q : Int → Prop} : ∀ {ys : List D}, (∀ y ∈ ys, ∃ d : Int, y = .int d ∧ Q d) → ∃ ds : List Int, ys = ds.map .int ∧ ∀ d ∈ ds, Q d
  | [], _ => ⟨[], rfl, fun _ h => by cases h⟩
  | y :: r, h => by
    obtain ⟨d, rfl, q⟩ := h y (List.mem_cons_self ..)
    obtain ⟨ds, rfl, qs⟩ := ints_of fun z hz => h z (List.mem_cons_of_mem _ hz)
    refine ⟨d :: ds, rfl, fun z hz => ?_⟩
    rcases List.mem_cons.mp hz with rfl | hz
    · exact q
    · exact qs z hz
theorem lcGo_io {H : List D → Prop} {ev : Env → R (Option D)} {i : Nat} {α : Type} {emb : α → D} (mk : List D → Env) {Q : α → Prop} (hp : ∀ a, plainAt (mk a) [i] = true) (hb : ∀ a b x, ((mk b).set i (some (.v x))).set i ((mk a).getD i none) = mk b)
    (body : ∀ (x : D) (h : Hn H), ∃ (d : α) (h' : Hn H), ev ((mk h.xs).set i (some (.v x))) = .ok (some (emb d)) ((mk h'.xs).set i (some (.v x))) ∧ Q d) : ∀ (xs : List D) (h : Hn H), ∃ (ds : List α) (h' : Hn H), lcGo (lcTurn (.n i) ev) xs (mk h.xs) = .ok (ds.map emb) (mk h'.xs) ∧ ds.length = xs.length ∧ ∀ d ∈ ds, Q d
  | [], h => ⟨[], h, rfl, rfl, fun _ h => by cases h⟩
  | x :: xs, h => by
    obtain ⟨d, h1, e1, q1⟩ := body x h
    obtain ⟨ds, h2, e2, l2, q2⟩ := lcGo_io mk hp hb body xs h1
    refine ⟨d :: ds, h2, ?_, by rw [List.length_cons, List.length_cons, l2], fun z hz => ?_⟩
    · unfold lcGo
      rw [lcTurn_on (hp _) e1, hb]
      show (lcGo _ xs (mk h1.xs)).bind _ = _
      rw [e2]
      rfl
    · rcases List.mem_cons.mp hz with rfl | hz
      · exact q1
      · exact q2 z hz
/-- what is behind a call of a hand that a def holds, or that the law holds -/
theorem set_last' {xs : List D} {y d : D} : setAt? (xs ++ [y]) (-1) d = some (xs ++ [d]) := by
  unfold setAt? L2.ixN
  have e : (-1 + ((xs.length : Int) + 1)).toNat = xs.length := by omega
  have e2 : (1 : Int) ≤ (xs.length : Int) + 1 := by omega
  simp [e, e2]
theorem low_eq (P : List Fn) (gl : Gls) (n : Nat) : (cf P gl n).low = ⟨run P gl (n - 2), fun _ _ => .bad, fun _ _ => .bad, none, gl⟩ := rfl
end Pv
namespace Pv
open PySem
def isRetB (b : Bool) : FR → Bool
  | .ret (.pv (.bool b')) none => b == b'
  | _ => false
theorem isRetB_ok {b : Bool} {r : FR} (h : isRetB b r = true) : r = .ret (.pv (.bool b)) none := by
  unfold isRetB at h
  split at h
  · rw [beq_iff_eq] at h
    rw [h]
  · cases h
theorem runs_bool {P : List Fn} {gl : Gls} {K n m j : Nat} {b : Bool} {ds : List D} {f : D → List Slot} (h : (ds.all fun d => isRetB b (runF K (fun _ _ => .bad) P gl.g n j (f d))) = true) (hm : n + 2 ≤ m) {d : D} (hd : d ∈ ds) : run P gl m j (f d) = .ret (.pv (.bool b)) none :=
  run_ofF (wt0 gl) (isRetB_ok (List.all_eq_true.mp h d hd)) (by simp) hm
end Pv

namespace Pv
open PySem
/-! ### terms by their ratio's size; which of two is less -/
theorem Tm_size : ∀ (n : Nat) (t b : Int) (M : Nat), b.toNat ≤ n → t.natAbs ≤ M → b.natAbs ≤ M → ∀ x ∈ Tm t b, x.natAbs ≤ M
  | n, t, b, M, hn, ht, hb, x, hx => by
    by_cases h : 0 < b
    · have h3 := mod_lt (x := t) h
      rw [Tm_pos h] at hx
      rcases List.mem_cons.mp hx with rfl | hx
      · exact Nat.le_trans (Int.natAbs_ediv_le_natAbs _ _) ht
      · match n, hn with
        | n + 1, hn => exact Tm_size n b (t % b) M (by omega) hb (by omega) x hx
        | 0, hn => omega
    · rw [Tm_no h] at hx
      cases hx
/-- terms whose ratio is within B bits -/
structure Rz (B : Nat) (ts : List Int) : Prop where
  ne : ∃ a r, ts = a :: r ∧ Vt r
  k : (Kc ts).natAbs < 2 ^ B
  j : Jc ts < 2 ^ B
section
variable {B : Nat} {ts us : List Int}
theorem Rz.j0 (h : Rz B ts) : 0 < Jc ts := by
  obtain ⟨a, r, rfl, v⟩ := h.ne
  rw [Jc_cons]
  exact v.kpos
theorem Rz.only (h : Rz B ts) : Tm (Kc ts) (Jc ts) = ts := by
  obtain ⟨a, r, rfl, v⟩ := h.ne
  exact Tm_only r a v
theorem Rz.mono (h : Rz B ts) {C : Nat} (hc : B ≤ C) : Rz C ts := by
  have := h.j0
  have h2 := h.j
  have h3 : (Jc ts).natAbs < 2 ^ C := sz_le (n := B) (by have e : ((2 ^ B : Nat) : Int) = (2 : Int) ^ B := by simp
                                                         omega) hc
  have e : ((2 ^ C : Nat) : Int) = (2 : Int) ^ C := by simp
  exact ⟨h.ne, sz_le h.k hc, by omega⟩
theorem Rz.len (h : Rz B ts) : ts.length ≤ 2 * B := by
  rw [← h.only]
  exact Tm_len B _ _ h.j
theorem Rz.sz (h : Rz B ts) : ∀ x ∈ ts, x.natAbs < 2 ^ B := by
  have h0 := h.j0
  have h1 := h.j
  have e : ((2 ^ B : Nat) : Int) = (2 : Int) ^ B := by simp
  have hp : 0 < 2 ^ B := Nat.two_pow_pos B
  intro x hx
  rw [← h.only] at hx
  have := Tm_size _ _ _ (2 ^ B - 1) (Nat.le_refl _) (by have := h.k; omega) (by omega) x hx
  omega
theorem Rz.sm (h : Rz B ts) (hB : B ≤ 150) : Sml ts := ⟨by have := h.len; omega, fun x hx => sz_le (h.sz x hx) (by omega)⟩
theorem Rz.okk (h : Rz B ts) (hB : B ≤ 150) : Ok (Kc ts) := sz_le h.k (by omega)
theorem Rz.okj (h : Rz B ts) (hB : B ≤ 150) : Ok (Jc ts) := by
  have h0 := h.j0
  have h1 := h.j
  have e : ((2 ^ B : Nat) : Int) = (2 : Int) ^ B := by simp
  exact sz_le (n := B) (by omega) (by omega)
/-- the terms of any ratio in lowest terms -/
theorem Rz.of {t b : Int} (hb : 0 < b) (hg : Int.gcd t b = 1) (h1 : t.natAbs < 2 ^ B) (h2 : b < 2 ^ B) : Rz B (Tm t b) ∧ Kc (Tm t b) = t ∧ Jc (Tm t b) = b := by
  obtain ⟨e1, e2⟩ := Tm_come b.toNat t b (Nat.le_refl _) hb hg
  have h3 := mod_lt (x := t) hb
  exact ⟨⟨⟨t / b, Tm b (t % b), Tm_pos hb, Tm_valid _ _ _ (Nat.le_refl _) h3.1 h3.2⟩, by rw [e1]; exact h1, by rw [e2]; exact h2⟩, e1, e2⟩
/-- with the other sign -/
theorem Rz.neg (h : Rz B ts) : Rz B (Tm (-Kc ts) (Jc ts)) ∧ Kc (Tm (-Kc ts) (Jc ts)) = -Kc ts ∧ Jc (Tm (-Kc ts) (Jc ts)) = Jc ts :=
  Rz.of h.j0 (by rw [Int.neg_gcd]; exact KJ_gcd ts) (by rw [Int.natAbs_neg]; exact h.k) h.j
end
/-- a whole number more -/
def moreT (m : Int) : List Int → List Int
  | [] => []
  | a :: r => (a + m) :: r
theorem moreT_kj (m a : Int) (r : List Int) : Kc (moreT m (a :: r)) = Kc (a :: r) + m * Jc (a :: r) ∧ Jc (moreT m (a :: r)) = Jc (a :: r) := by
  show Kc ((a + m) :: r) = _ ∧ Jc ((a + m) :: r) = _
  rw [Kc_cons, Jc_cons, Kc_cons, Jc_cons]
  refine ⟨?_, rfl⟩
  grind
theorem Rz.more {ts : List Int} (h : Rz 140 ts) {m : Int} (hm : m.natAbs ≤ 100) : Rz 150 (moreT m ts) ∧ Kc (moreT m ts) = Kc ts + m * Jc ts ∧ Jc (moreT m ts) = Jc ts := by
  obtain ⟨a, r, rfl, v⟩ := h.ne
  obtain ⟨e1, e2⟩ := moreT_kj m a r
  have h0 := h.j0
  have h1 := h.j
  have h2 := h.k
  have h3 : (m * Jc (a :: r)).natAbs ≤ 100 * (Jc (a :: r)).natAbs := by rw [Int.natAbs_mul]; exact Nat.mul_le_mul_right _ hm
  exact ⟨⟨⟨a + m, r, rfl, v⟩, by rw [e1]; omega, by rw [e2]; omega⟩, e1, e2⟩
/-! ### which is less -/
def pre : List Int → List Int → Nat
  | a :: r, b :: s => if a = b then pre r s + 1 else 0
  | _, _ => 0
/-- at the place p: whether the one is lower there -/
def lowAt (ts us : List Int) (p : Nat) : Bool := if p < ts.length ∧ p < us.length then decide (ts.getD p 0 < us.getD p 0) else decide (p = us.length)
def flag (ts us : List Int) : Bool := lowAt ts us (pre ts us) == decide (pre ts us % 2 = 0)
def Wt (ts : List Int) : Prop := Vt ts.tail
theorem Vt.jk : ∀ {r : List Int}, Vt r → 0 ≤ Jc r ∧ Jc r < Kc r
  | [], _ => ⟨(by decide : (0 : Int) ≤ 0), (by decide : (0 : Int) < 1)⟩
  | x :: r, h => by have := h.less (by simp); omega
theorem Wt.j {a : Int} {r : List Int} (h : Wt (a :: r)) : 0 < Jc (a :: r) := by rw [Jc_cons]; exact Vt.kpos h
theorem head_lt {a b : Int} {r s : List Int} (h : a < b) (hr : Wt (a :: r)) (hs : Wt (b :: s)) : Kc (a :: r) * Jc (b :: s) < Kc (b :: s) * Jc (a :: r) := by
  have r1 := Vt.jk (r := r) hr
  have s1 := Vt.jk (r := s) hs
  rw [Kc_cons, Jc_cons, Kc_cons, Jc_cons]
  generalize Kc r = kr at *
  generalize Jc r = jr at *
  generalize Kc s = ks at *
  generalize Jc s = js at *
  have h1 : jr * ks < kr * ks := Int.mul_lt_mul_of_pos_right r1.2 (by omega)
  have h2 : 0 ≤ js * kr := Int.mul_nonneg s1.1 (by omega)
  have h3 : (a + 1) * (kr * ks) ≤ b * (kr * ks) := Int.mul_le_mul_of_nonneg_right (by omega) (Int.mul_nonneg (by omega) (by omega))
  have e1 : (a * kr + jr) * ks = (a + 1) * (kr * ks) - kr * ks + jr * ks := by grind
  have e2 : (b * ks + js) * kr = b * (kr * ks) + js * kr := by grind
  omega
theorem same_head (a : Int) (r s : List Int) : Kc (a :: r) * Jc (a :: s) - Kc (a :: s) * Jc (a :: r) = Kc s * Jc r - Kc r * Jc s := by
  rw [Kc_cons, Jc_cons, Kc_cons, Jc_cons]
  grind
theorem flag_cons (a : Int) (r s : List Int) : flag (a :: r) (a :: s) = !flag r s := by
  unfold flag
  have e1 : pre (a :: r) (a :: s) = pre r s + 1 := by show (if a = a then _ else _) = _; rw [if_pos rfl]
  have e2 : lowAt (a :: r) (a :: s) (pre r s + 1) = lowAt r s (pre r s) := by
    unfold lowAt
    simp
  rw [e1, e2]
  generalize lowAt r s (pre r s) = x
  rcases Nat.mod_two_eq_zero_or_one (pre r s) with h | h
  · have h2 : (pre r s + 1) % 2 = 1 := by omega
    rw [h, h2]
    cases x <;> rfl
  · have h2 : (pre r s + 1) % 2 = 0 := by omega
    rw [h, h2]
    cases x <;> rfl
theorem flag_ok : ∀ (ts us : List Int), Wt ts → Wt us → ts ≠ us → (flag ts us = true → Kc ts * Jc us < Kc us * Jc ts) ∧ (flag ts us = false → Kc us * Jc ts < Kc ts * Jc us)
  | [], [], _, _, h => absurd rfl h
  | [], b :: s, _, hs, _ => by
    have := hs.j
    have e1 : Kc [] = 1 := rfl
    have e2 : Jc [] = 0 := rfl
    rw [e1, e2]
    refine ⟨fun h => ?_, fun _ => by omega⟩
    have : flag [] (b :: s) = false := rfl
    rw [this] at h
    cases h
  | a :: r, [], hr, _, _ => by
    have := hr.j
    have e1 : Kc [] = 1 := rfl
    have e2 : Jc [] = 0 := rfl
    rw [e1, e2]
    refine ⟨fun _ => by omega, fun h => ?_⟩
    have : flag (a :: r) [] = true := rfl
    rw [this] at h
    cases h
  | a :: r, b :: s, hr, hs, h => by
    by_cases hab : a = b
    · subst hab
      have hr : Vt r := hr
      have hs : Vt s := hs
      have wr : Wt r := by cases r with
        | nil => trivial
        | cons x r => exact hr.tail
      have ws : Wt s := by cases s with
        | nil => trivial
        | cons x r => exact hs.tail
      obtain ⟨i1, i2⟩ := flag_ok r s wr ws (fun e => h (by rw [e]))
      have d := same_head a r s
      rw [flag_cons]
      refine ⟨fun e => ?_, fun e => ?_⟩
      · have := i2 (by simpa using e)
        omega
      · have := i1 (by simpa using e)
        omega
    · have e0 : pre (a :: r) (b :: s) = 0 := by show (if a = b then _ else _) = _; rw [if_neg hab]
      have e1 : flag (a :: r) (b :: s) = decide (a < b) := by
        unfold flag
        rw [e0]
        simp [lowAt]
      rw [e1]
      refine ⟨fun e => head_lt (of_decide_eq_true e) hr hs, fun e => ?_⟩
      have : ¬ a < b := of_decide_eq_false e
      exact head_lt (by omega) hs hr
theorem Rz.wt {B : Nat} {ts : List Int} (h : Rz B ts) : Wt ts := by
  obtain ⟨a, r, rfl, v⟩ := h.ne
  exact v
/-- less, in plain numbers -/
def lsB (ts us : List Int) : Bool := decide (Kc ts * Jc us < Kc us * Jc ts)
theorem flag_ls {B C : Nat} {ts us : List Int} (h : Rz B ts) (g : Rz C us) (hne : ts ≠ us) : flag ts us = lsB ts us ∧ lsB us ts = !lsB ts us := by
  obtain ⟨f1, f2⟩ := flag_ok ts us h.wt g.wt hne
  unfold lsB
  cases e : flag ts us with
  | true =>
    have := f1 e
    rw [decide_eq_true this, decide_eq_false (by omega)]
    exact ⟨rfl, rfl⟩
  | false =>
    have := f2 e
    rw [decide_eq_false (by omega), decide_eq_true this]
    exact ⟨rfl, rfl⟩
theorem pre_sym : ∀ (ts us : List Int), pre us ts = pre ts us
  | [], [] => rfl
  | [], _ :: _ => rfl
  | _ :: _, [] => rfl
  | a :: r, b :: s => by
    show (if b = a then pre s r + 1 else 0) = if a = b then pre r s + 1 else 0
    rw [pre_sym r s]
    by_cases h : a = b
    · rw [if_pos h, if_pos h.symm]
    · rw [if_neg h, if_neg fun e => h e.symm]
theorem pre_more {ts us : List Int} (m : Int) : pre (moreT m ts) (moreT m us) = pre ts us := by
  cases ts with
  | nil => cases us <;> rfl
  | cons a r => cases us with
    | nil => rfl
    | cons b s =>
      show (if a + m = b + m then pre r s + 1 else 0) = if a = b then pre r s + 1 else 0
      by_cases h : a = b
      · rw [if_pos h, if_pos (by omega)]
      · rw [if_neg h, if_neg (by omega)]
theorem pre_lt : ∀ {ts us : List Int} {p : Nat}, p < pre ts us → p < ts.length ∧ p < us.length ∧ ts[p]? = us[p]?
  | a :: r, b :: s, p, h => by
    by_cases hab : a = b
    · have e : pre (a :: r) (b :: s) = pre r s + 1 := by show (if a = b then _ else _) = _; rw [if_pos hab]
      rw [e] at h
      cases p with
      | zero => simp [hab]
      | succ p =>
        obtain ⟨h1, h2, h3⟩ := pre_lt (ts := r) (us := s) (p := p) (by omega)
        refine ⟨by simp [h1], by simp [h2], ?_⟩
        rw [List.getElem?_cons_succ, List.getElem?_cons_succ]
        exact h3
    · have e : pre (a :: r) (b :: s) = 0 := by show (if a = b then _ else _) = _; rw [if_neg hab]
      omega
  | [], _, p, h => by simp [pre] at h
  | _ :: _, [], p, h => by simp [pre] at h
theorem pre_at : ∀ {ts us : List Int}, pre ts us < ts.length → pre ts us < us.length → ts[pre ts us]? ≠ us[pre ts us]?
  | a :: r, b :: s, h1, h2 => by
    by_cases hab : a = b
    · have e : pre (a :: r) (b :: s) = pre r s + 1 := by show (if a = b then _ else _) = _; rw [if_pos hab]
      rw [e] at h1 h2 ⊢
      have := pre_at (ts := r) (us := s) (by simpa using h1) (by simpa using h2)
      simpa using this
    · have e : pre (a :: r) (b :: s) = 0 := by show (if a = b then _ else _) = _; rw [if_neg hab]
      rw [e]
      simp [hab]
  | [], _, h1, _ => by simp at h1
  | _ :: _, [], _, h2 => by simp at h2
theorem pre_le : ∀ (ts us : List Int), pre ts us ≤ ts.length ∧ pre ts us ≤ us.length
  | a :: r, b :: s => by
    have := pre_le r s
    show (if a = b then pre r s + 1 else 0) ≤ _ ∧ (if a = b then pre r s + 1 else 0) ≤ _
    simp only [List.length_cons]
    split <;> omega
  | [], _ => ⟨Nat.le_refl _, Nat.zero_le _⟩
  | _ :: _, [] => ⟨Nat.zero_le _, Nat.le_refl _⟩
theorem ls_more {ts us : List Int} (m : Int) (h : Rz 140 ts) (g : Rz 140 us) (hm : m.natAbs ≤ 100) : lsB (moreT m ts) (moreT m us) = lsB ts us := by
  obtain ⟨_, e1, e2⟩ := h.more hm
  obtain ⟨_, e3, e4⟩ := g.more hm
  unfold lsB
  rw [e1, e2, e3, e4]
  have : (Kc ts + m * Jc ts) * Jc us - (Kc us + m * Jc us) * Jc ts = Kc ts * Jc us - Kc us * Jc ts := by grind
  congr 1
  refine propext ⟨fun h => by omega, fun h => by omega⟩
theorem ls_neg {B C : Nat} {ts us : List Int} (h : Rz B ts) (g : Rz C us) : lsB (Tm (-Kc ts) (Jc ts)) (Tm (-Kc us) (Jc us)) = lsB us ts := by
  obtain ⟨_, e1, e2⟩ := h.neg
  obtain ⟨_, e3, e4⟩ := g.neg
  unfold lsB
  rw [e1, e2, e3, e4]
  have e5 : -Kc ts * Jc us = -(Kc ts * Jc us) := by grind
  have e6 : -Kc us * Jc ts = -(Kc us * Jc ts) := by grind
  rw [e5, e6]
  congr 1
  refine propext ⟨fun h => by omega, fun h => by omega⟩
theorem moreT_ne {ts us : List Int} (m : Int) (h : ts ≠ us) (h1 : ts ≠ []) (h2 : us ≠ []) : moreT m ts ≠ moreT m us := by
  cases ts with
  | nil => exact absurd rfl h1
  | cons a r => cases us with
    | nil => exact absurd rfl h2
    | cons b s =>
      intro e
      injection e with e1 e2
      exact h (by rw [e2, show a = b by omega])
theorem neg_ne {B C : Nat} {ts us : List Int} (h : Rz B ts) (g : Rz C us) (hne : ts ≠ us) : Tm (-Kc ts) (Jc ts) ≠ Tm (-Kc us) (Jc us) := by
  obtain ⟨_, e1, e2⟩ := h.neg
  obtain ⟨_, e3, e4⟩ := g.neg
  intro e
  rw [e] at e1 e2
  rw [e3] at e1
  rw [e4] at e2
  apply hne
  rw [← h.only, ← g.only, e2, show Kc ts = Kc us by omega]
end Pv
namespace Pv
open PySem
/-! ### lesser_by, walked -/
def lesserB : Ss := (.cons (.aug 2 .add (.k (.int 1)))
 .nil)
def dueB : Ss := (.cons (.asg (.n 2) (.bin .add (.v 2) (.k (.int 1))))
 .nil)
def lesserC : T := (.and (.e (.cmp .lt (.v 2) (.b2 .min (.b1 .len (.v 0)) (.b1 .len (.v 1))))) (.e (.cmp .eq (.ixv 0 (.v 2)) (.ixv 1 (.v 2)))))
def fLesser (jc : Nat) : Fn := ⟨2, 4, (.cons (.expr (.call jc (.cons (.v 0) .nil)))
 (.cons (.expr (.call jc (.cons (.v 1) .nil)))
 (.cons (.ite (.e (.cmp .eq (.v 0) (.v 1)))
 (.cons (.ret (.k .none))
 .nil)
 .nil)
 (.cons (.asg (.n 2) (.k (.int 0)))
 (.cons (.whl lesserC lesserB)
 (.cons (.ite (.and (.e (.cmp .lt (.v 2) (.b1 .len (.v 0)))) (.e (.cmp .lt (.v 2) (.b1 .len (.v 1)))))
 (.cons (.asg (.n 3) (.cmp .lt (.ixv 0 (.v 2)) (.ixv 1 (.v 2))))
 .nil)
 (.cons (.asg (.n 3) (.cmp .eq (.v 2) (.b1 .len (.v 1))))
 .nil))
 (.cons (.ret (.tup (.cons (.v 2) (.cons (.cmp .eq (.v 3) (.cmp .eq (.bin .mod (.v 2) (.k (.int 2))) (.k (.int 0)))) .nil))))
 .nil)))))))⟩
theorem at_td {ts : List Int} {p : Nat} {x : Int} (h : ts[p]? = some x) : L2.atI (ts.map PyData.int) (p : Int) = some (.int x) := by
  have hp := (List.getElem?_eq_some_iff.mp h).1
  rw [at_nat (by omega) (by simpa using hp), List.getElem?_map, Int.toNat_natCast, h]
  rfl
theorem cond_at {C : Cfg} {ts us : List Int} {rest : Env} {p : Nat} (hp : p ≤ pre ts us) (hl : ts.length < 1000) (hl2 : us.length < 1000) : evT C lesserC (some (.v (td ts)) :: some (.v (td us)) :: some (.v (.int p)) :: rest) = .ok (decide (p < pre ts us)) (some (.v (td ts)) :: some (.v (td us)) :: some (.v (.int p)) :: rest) := by
  have mn : bltD .min [.int (ts.length : Int), .int (us.length : Int)] = some (.int (min ts.length us.length : Nat)) := by
    show some (PyData.int (if (us.length : Int) < ts.length then (us.length : Int) else ts.length)) = _
    congr 2
    split <;> omega
  by_cases h : p < pre ts us
  · obtain ⟨h1, h2, h3⟩ := pre_lt h
    have e1 := at_td (ts := ts) (p := p) (x := ts[p]) (List.getElem?_eq_getElem h1)
    have e2 := at_td (ts := us) (p := p) (x := ts[p]) (by rw [← h3]; exact List.getElem?_eq_getElem h1)
    have h4 : (p : Int) < (min ts.length us.length : Nat) := by omega
    generalize ts[p] = x at e1 e2
    generalize (min ts.length us.length : Nat) = mm at *
    simp only [lesserC]
    simp [Pv.lim_n, Pv.addX, Pv.extX, Pv.jx0, Pv.jx1, -List.map_map, -List.map_reverse, -List.map_tail, -List.map_take, -List.map_drop, mn, h, h4, e1, e2]
  · have e : p = pre ts us := by omega
    by_cases h4 : p < ts.length ∧ p < us.length
    · obtain ⟨h1, h2⟩ := h4
      have h3 := pre_at (ts := ts) (us := us) (by omega) (by omega)
      rw [← e, List.getElem?_eq_getElem h1, List.getElem?_eq_getElem h2] at h3
      have h3 : ts[p] ≠ us[p] := fun z => h3 (by rw [z])
      have e1 := at_td (ts := ts) (p := p) (x := ts[p]) (List.getElem?_eq_getElem h1)
      have e2 := at_td (ts := us) (p := p) (x := us[p]) (List.getElem?_eq_getElem h2)
      have h4 : (p : Int) < (min ts.length us.length : Nat) := by omega
      generalize ts[p] = x at *
      generalize us[p] = y at *
      generalize (min ts.length us.length : Nat) = mm at *
      simp only [lesserC]
      simp [Pv.lim_n, Pv.addX, Pv.extX, Pv.jx0, Pv.jx1, -List.map_map, -List.map_reverse, -List.map_tail, -List.map_take, -List.map_drop, mn, h, h4, e1, e2, h3]
    · have h5 : ¬ (p : Int) < (min ts.length us.length : Nat) := by omega
      generalize (min ts.length us.length : Nat) = mm at *
      simp only [lesserC]
      simp [Pv.lim_n, Pv.addX, Pv.extX, Pv.jx0, Pv.jx1, -List.map_map, -List.map_reverse, -List.map_tail, -List.map_take, -List.map_drop, mn, h, h5]
theorem lesser_loop {C : Cfg} {ts us : List Int} {rest : Env} (hl : ts.length < 1000) (hl2 : us.length < 1000) {b : Ss} (hb : b = lesserB ∨ b = dueB) : ∀ (k p : Nat), pre ts us - p ≤ k → p ≤ pre ts us → evS C (.whl lesserC b) (some (.v (td ts)) :: some (.v (td us)) :: some (.v (.int p)) :: rest) = .nx (some (.v (td ts)) :: some (.v (td us)) :: some (.v (.int (pre ts us : Nat))) :: rest)
  | 0, p, h1, h2 => by
    have e : p = pre ts us := by omega
    rw [← e]
    exact whl_f (by rw [cond_at (by omega) hl hl2, decide_eq_false (by omega)])
  | k + 1, p, h1, h2 => by
    by_cases h : p < pre ts us
    · have ih := lesser_loop (C := C) (rest := rest) hl hl2 hb k (p + 1) (by omega) (by omega)
      have c := cond_at (C := C) (rest := rest) h2 hl hl2
      rw [decide_eq_true h] at c
      rw [← ih]
      refine whl_t c ?_
      rcases hb with rfl | rfl
      · simp [lesserB, augD]
      · simp [dueB]
    · have e : p = pre ts us := by omega
      rw [← e]
      exact whl_f (by rw [cond_at (by omega) hl hl2, decide_eq_false (by omega)])
theorem td_eq (a b : List Int) : cmpD .eq (td a) (td b) = some (decide (a = b)) := by
  by_cases h : a = b
  · rw [decide_eq_true h, h]
    exact d_eq (dk_td _) (dk_td _) (by decide) rfl
  · rw [decide_eq_false h]
    exact d_eq' (dk_td _) (dk_td _) (by decide) fun e => h (td_inj e)
theorem td_nee (a b : List Int) : cmpD .ne (td a) (td b) = some (!decide (a = b)) := by
  by_cases h : a = b
  · rw [decide_eq_true h, h]
    exact d_ne (dk_td _) (dk_td _) (by decide) rfl
  · rw [decide_eq_false h]
    exact d_ne' (dk_td _) (dk_td _) (by decide) fun e => h (td_inj e)
section
variable {P : List Fn} {gl : Gls} {n j jc : Nat}
/-- what lesser_by tells -/
def lesserD (ts us : List Int) : D := if ts = us then .none else .tuple [.int (pre ts us : Nat), .bool (flag ts us)]
theorem lesser_ok {ts us : List Int} (hP : P[j]? = some (fLesser jc)) (hl : ts.length < 1000) (hl2 : us.length < 1000) (h1 : run P gl n jc [.v (td ts)] = .ret (.pv .none) none) (h2 : run P gl n jc [.v (td us)] = .ret (.pv .none) none) : run P gl (n + 1) j [.v (td ts), .v (td us)] = .ret (.pv (lesserD ts us)) none := by
  have te := td_eq ts us
  rw [run_succ hP, if_pos ⟨rfl, rfl⟩]
  unfold lesserD
  by_cases h : ts = us
  · rw [decide_eq_true h] at te
    rw [if_pos h]
    simp [Pv.lim_n, Pv.addX, Pv.extX, Pv.jx0, Pv.jx1, -List.map_map, -List.map_reverse, -List.map_tail, -List.map_take, -List.map_drop, fLesser, h1, h2, te]
  · rw [decide_eq_false h] at te
    rw [if_neg h]
    have lp := lesser_loop (C := cf P gl n) (rest := [none]) hl hl2 (b := lesserB) (.inl rfl) _ 0 (Nat.le_refl _) (Nat.zero_le _)
    have lp : evS (cf P gl n) (.whl lesserC lesserB) [some (.v (td ts)), some (.v (td us)), some (.v (.int 0)), none] = .nx [some (.v (td ts)), some (.v (td us)), some (.v (.int (pre ts us : Nat))), none] := lp
    have mo : binD .mod (.int (pre ts us : Nat)) (.int 2) = some (.int ((pre ts us : Nat) % 2 : Int)) := b_mod (by decide)
    have e0 : decide (((pre ts us : Nat) % 2 : Int) = 0) = decide (pre ts us % 2 = 0) := by
      congr 1
      exact propext ⟨fun h => by omega, fun h => by omega⟩
    unfold flag
    unfold lowAt
    by_cases h4 : pre ts us < ts.length ∧ pre ts us < us.length
    · obtain ⟨k1, k2⟩ := h4
      have e1 := at_td (ts := ts) (List.getElem?_eq_getElem k1)
      have e2 := at_td (ts := us) (List.getElem?_eq_getElem k2)
      have e3 : ts.getD (pre ts us) 0 = ts[pre ts us] := by rw [List.getD_eq_getElem?_getD, List.getElem?_eq_getElem k1]; rfl
      have e4 : us.getD (pre ts us) 0 = us[pre ts us] := by rw [List.getD_eq_getElem?_getD, List.getElem?_eq_getElem k2]; rfl
      rw [if_pos ⟨k1, k2⟩, e3, e4]
      generalize ts[pre ts us] = x at *
      generalize us[pre ts us] = y at *
      generalize pre ts us = p at *
      simp [Pv.lim_n, Pv.addX, Pv.extX, Pv.jx0, Pv.jx1, -List.map_map, -List.map_reverse, -List.map_tail, -List.map_take, -List.map_drop, fLesser, h1, h2, te, lp, k1, k2, e1, e2, mo, e0]
    · have e5 : decide (((pre ts us : Nat) : Int) = (us.length : Int)) = decide (pre ts us = us.length) := by
        congr 1
        exact propext ⟨fun h => by omega, fun h => by omega⟩
      rw [if_neg h4]
      generalize pre ts us = p at *
      by_cases k1 : p < ts.length
      · have k2 : ¬ p < us.length := fun z => h4 ⟨k1, z⟩
        simp [Pv.lim_n, Pv.addX, Pv.extX, Pv.jx0, Pv.jx1, -List.map_map, -List.map_reverse, -List.map_tail, -List.map_take, -List.map_drop, fLesser, h1, h2, te, lp, k1, k2, mo, e0, e5]
      · simp [Pv.lim_n, Pv.addX, Pv.extX, Pv.jx0, Pv.jx1, -List.map_map, -List.map_reverse, -List.map_tail, -List.map_take, -List.map_drop, fLesser, h1, h2, te, lp, k1, mo, e0, e5]
end
end Pv

namespace Pv
open PySem
/-! ### ratios, great ones too -/
theorem big_of {i : Int} {m : Nat} (h : i.natAbs < 2 ^ m) (hm : m ≤ 1000000) : i.natAbs < BIG := BIG_of h hm
section
variable {P : List Fn} {gl : Gls} {n j jc jm : Nat}
theorem made_okG {t b : Int} (hP : P[j]? = some (fMade jc)) (hc : P[jc]? = some fCommon) (hb : 0 < b) (hz : Ok (Int.gcd t b : Int)) : run P gl (n + 2) j [.v (.int t), .v (.int b)] = .ret (.pv (pr (redP t b))) none := by
  rw [run_succ hP, if_pos ⟨rfl, rfl⟩]
  have cm := common_ok (gl := gl) (n := n) (a := t) (b := b) hc
  have hg : 0 < Int.gcd t b := Int.gcd_pos_of_ne_zero_right _ (by omega)
  have d1 : ∀ i : Int, binD .fdiv (.int i) (.int (Int.gcd t b : Int)) = some (.int (i / (Int.gcd t b : Int))) := fun i => Ok.div (by omega) hz
  simp [Pv.lim_n, Pv.addX, Pv.extX, Pv.jx0, Pv.jx1, -List.map_map, -List.map_reverse, -List.map_tail, -List.map_take, -List.map_drop, fMade, cm, hb, d1, pr, redP]
theorem lowS_okG {t b : Int} (hP : P[j]? = some fLowS) (hb : 0 < b) (hz : Ok (Int.gcd t b : Int)) : run P gl (n + 1) j [.v (.int t), .v (.int b)] = .ret (.pv (pr (redP t b))) none := by
  rw [run_succ hP, if_pos ⟨rfl, rfl⟩]
  have e := lowS_loop (C := (cf P gl n)) (t := some (.v (.int t))) (u := some (.v (.int b))) (z := none) b.natAbs b.natAbs t.natAbs (Nat.le_refl _)
  have e2 : ((b.natAbs.gcd t.natAbs : Nat) : Int) = (Int.gcd t b : Int) := by
    rw [Nat.gcd_comm]
    rfl
  rw [e2] at e
  have hg : 0 < Int.gcd t b := Int.gcd_pos_of_ne_zero_right _ (by omega)
  have m1 : ∀ i : Int, binD .mul (.int 1) (.int i) = some (.int (1 * i)) := fun i => b_mulL (by decide)
  have d1 : ∀ i : Int, binD .fdiv (.int i) (.int (Int.gcd t b : Int)) = some (.int (i / (Int.gcd t b : Int))) := fun i => Ok.div (by omega) hz
  simp [Pv.lim_n, Pv.addX, Pv.extX, Pv.jx0, Pv.jx1, -List.map_map, -List.map_reverse, -List.map_tail, -List.map_take, -List.map_drop, fLowS, abs_nat, e, hb, m1, d1, pr, redP]
theorem gcd_ok {t b : Int} (hb : 0 < b) (h : Ok b) : Ok (Int.gcd t b : Int) := h.le (by have := gcd_le (t := t) (b := b) (by omega); omega)
theorem plus_okG {p q : Int × Int} (hP : P[j]? = some (fPlus jm)) (hm : P[jm]? = some (fMade jc)) (hc : P[jc]? = some fCommon) (h1 : p.1.natAbs < BIG) (h2 : p.2.natAbs < BIG) (h3 : q.1.natAbs < BIG) (h4 : q.2.natAbs < BIG) (hp : 0 < p.2) (hq : 0 < q.2) (hz : Ok (Int.gcd (p.1 * q.2 + q.1 * p.2) (p.2 * q.2) : Int)) : run P gl (n + 3) j [.v (pr p), .v (pr q)] = .ret (.pv (pr (redP (p.1 * q.2 + q.1 * p.2) (p.2 * q.2)))) none := by
  rw [run_succ hP, if_pos ⟨rfl, rfl⟩]
  have md := made_okG (gl := gl) (n := n) hm hc (Int.mul_pos hp hq) hz
  simp [fPlus, prx0, prx1, b_mul h1 h4, b_mul h3 h2, b_mul h2 h4, md]
theorem minus_okG {p q : Int × Int} (hP : P[j]? = some (fMinus jm)) (hm : P[jm]? = some (fMade jc)) (hc : P[jc]? = some fCommon) (h1 : p.1.natAbs < BIG) (h2 : p.2.natAbs < BIG) (h3 : q.1.natAbs < BIG) (h4 : q.2.natAbs < BIG) (hp : 0 < p.2) (hq : 0 < q.2) (hz : Ok (Int.gcd (p.1 * q.2 - q.1 * p.2) (p.2 * q.2) : Int)) : run P gl (n + 3) j [.v (pr p), .v (pr q)] = .ret (.pv (pr (redP (p.1 * q.2 - q.1 * p.2) (p.2 * q.2)))) none := by
  rw [run_succ hP, if_pos ⟨rfl, rfl⟩]
  have md := made_okG (gl := gl) (n := n) hm hc (Int.mul_pos hp hq) hz
  simp [fMinus, prx0, prx1, b_mul h1 h4, b_mul h3 h2, b_mul h2 h4, md]
end
/-- in lowest terms, bottom above 0 -/
def Lo (p : Int × Int) : Prop := 0 < p.2 ∧ Int.gcd p.1 p.2 = 1
theorem redP_lo {t b : Int} (hb : 0 < b) : Lo (redP t b) := ⟨(redP_gcd hb).2.1, (redP_gcd hb).1⟩
/-- crosswise the same -/
theorem redP_cross {t b : Int} (hb : 0 < b) : (redP t b).1 * b = t * (redP t b).2 := by
  unfold redP
  rw [if_pos hb]
  obtain ⟨u, hu⟩ : (Int.gcd t b : Int) ∣ t := Int.gcd_dvd_left ..
  obtain ⟨v, hv⟩ : (Int.gcd t b : Int) ∣ b := Int.gcd_dvd_right ..
  have hg : (Int.gcd t b : Int) ≠ 0 := by
    have : 0 < Int.gcd t b := Int.gcd_pos_of_ne_zero_right _ (by omega)
    omega
  have e1 : t / (Int.gcd t b : Int) = u := by conv => lhs; lhs; rw [hu]
                                              exact Int.mul_ediv_cancel_left _ hg
  have e2 : b / (Int.gcd t b : Int) = v := by conv => lhs; lhs; rw [hv]
                                              exact Int.mul_ediv_cancel_left _ hg
  show t / (Int.gcd t b : Int) * b = t * (b / (Int.gcd t b : Int))
  rw [e1, e2]
  generalize (Int.gcd t b : Int) = g at *
  subst hu hv
  grind
theorem lo_red {p : Int × Int} (h : Lo p) : redP p.1 p.2 = p := redP_one h.2 h.1
theorem lo_same {p q : Int × Int} (hp : Lo p) (hq : Lo q) (h : p.1 * q.2 = q.1 * p.2) : p = q := by
  have e1 := redP_scale (t := p.1) (b := p.2) (g := q.2) hq.1 (by have := hp.1; omega)
  have e2 := redP_scale (t := q.1) (b := q.2) (g := p.2) hp.1 (by have := hq.1; omega)
  rw [lo_red hp] at e1
  rw [lo_red hq] at e2
  refine e1.symm.trans (Eq.trans ?_ e2)
  rw [show q.2 * p.1 = p.2 * q.1 by rw [Int.mul_comm, h, Int.mul_comm], Int.mul_comm q.2 p.2]
/-! ### unit ratios, plain -/
def up (s : Int × Int) (p : Int) : Int × Int := redP (s.1 * p + s.2) (s.2 * p)
def sumP (ps : List Int) : Int × Int := ps.foldl up (0, 1)
/-- within B bits, above 0 -/
def Ps (B : Nat) (ps : List Int) : Prop := ∀ p ∈ ps, 0 < p ∧ p.natAbs < 2 ^ B
structure Sz2 (m : Nat) (s : Int × Int) : Prop where
  lo : Lo s
  a : s.1.natAbs < 2 ^ m
  b : s.2.natAbs < 2 ^ m
theorem up_sz {B m : Nat} {s : Int × Int} {p : Int} (h : Sz2 m s) (h0 : 0 < p) (hp : p.natAbs < 2 ^ B) : Sz2 (m + B + 1) (up s p) ∧ 0 < s.2 * p ∧ (s.2 * p).natAbs < 2 ^ (m + B) := by
  have hb := Int.mul_pos h.lo.1 h0
  have g := redP_gcd (t := s.1 * p + s.2) hb
  have e1 : (s.2 * p).natAbs < 2 ^ (m + B) := by
    rw [Int.natAbs_mul, Nat.pow_add]
    exact Nat.mul_lt_mul'' h.b hp
  have e2 : (s.1 * p).natAbs < 2 ^ (m + B) := by
    rw [Int.natAbs_mul, Nat.pow_add]
    exact Nat.mul_lt_mul'' h.a hp
  have e3 : 2 ^ m ≤ 2 ^ (m + B) := Nat.pow_le_pow_right (by decide) (by omega)
  have e4 := h.b
  have e5 : 2 ^ (m + B + 1) = 2 ^ (m + B) + 2 ^ (m + B) := by rw [Nat.pow_succ]; omega
  exact ⟨⟨redP_lo hb, by show (redP _ _).1.natAbs < _; omega, by show (redP _ _).2.natAbs < _; omega⟩, hb, e1⟩
theorem sumP_sz {B : Nat} : ∀ (ps : List Int) (s : Int × Int) (m : Nat), Ps B ps → Sz2 m s → Sz2 (m + (B + 1) * ps.length) (ps.foldl up s)
  | [], s, m, _, h => h
  | p :: r, s, m, hp, h => by
    obtain ⟨h0, h1⟩ := hp p (List.mem_cons_self ..)
    have := sumP_sz r (up s p) (m + B + 1) (fun q hq => hp q (List.mem_cons_of_mem _ hq)) (up_sz h h0 h1).1
    rw [show m + (B + 1) * (p :: r).length = m + B + 1 + (B + 1) * r.length by rw [List.length_cons, Nat.mul_succ]; omega]
    exact this
theorem sz2_01 : Sz2 1 (0, 1) := ⟨⟨by decide, by decide⟩, by decide, by decide⟩
/-! ### greedy parts, plain -/
/-- rounded up -/
def cdv (b t : Int) : Int := -((-b) / t)
theorem cdv_ok {b t : Int} (ht : 0 < t) : b ≤ t * cdv b t ∧ t * (cdv b t - 1) < b := by
  have h := Int.mul_ediv_add_emod (-b) t
  have h2 := mod_lt (x := -b) ht
  unfold cdv
  generalize (-b) / t = q at *
  have e1 : t * -q = -(t * q) := by grind
  have e2 : t * (-q - 1) = -(t * q) - t := by grind
  omega
/-- what is left -/
def lft (t b p : Int) : Int × Int := redP (t * p - b) (b * p)
def gr : Nat → Int × Int → List Int × Bool
  | 0, _ => ([], false)
  | n + 1, x => if 0 < x.1 then if 10 ^ 40 ≤ cdv x.2 x.1 then ([], true) else (cdv x.2 x.1 :: (gr n (lft x.1 x.2 (cdv x.2 x.1))).1, (gr n (lft x.1 x.2 (cdv x.2 x.1))).2) else ([], false)
/-- one step -/
theorem step {x : Int × Int} (hx : Lo x) (h0 : 0 < x.1) (h1 : x.1 < x.2) : let p := cdv x.2 x.1
    2 ≤ p ∧ Lo (lft x.1 x.2 p) ∧ 0 ≤ (lft x.1 x.2 p).1 ∧ (lft x.1 x.2 p).1 < x.1 ∧ (lft x.1 x.2 p).1 < (lft x.1 x.2 p).2 ∧ (lft x.1 x.2 p).1 * (x.2 * p) = (x.1 * p - x.2) * (lft x.1 x.2 p).2 ∧ (0 < (lft x.1 x.2 p).1 → (p - 1) * p < cdv (lft x.1 x.2 p).2 (lft x.1 x.2 p).1) := by
  intro p
  obtain ⟨t, b⟩ := x
  dsimp only at *
  obtain ⟨c1, c2⟩ := cdv_ok (b := b) (t := t) h0
  have hp : p = cdv b t := rfl
  rw [← hp] at c1 c2
  have p2 : 2 ≤ p := by
    refine Int.le_of_not_gt fun z => ?_
    have : t * p ≤ t * 1 := Int.mul_le_mul_of_nonneg_left (by omega) (by omega)
    omega
  have hb : 0 < b * p := Int.mul_pos (by omega) (by omega)
  have hl : Lo (lft t b p) := redP_lo hb
  have cr : (lft t b p).1 * (b * p) = (t * p - b) * (lft t b p).2 := redP_cross hb
  have gg := redP_gcd (t := t * p - b) hb
  generalize hq : lft t b p = q at *
  obtain ⟨t', b'⟩ := q
  have hq : redP (t * p - b) (b * p) = (t', b') := hq
  rw [hq] at gg
  obtain ⟨l1, l2⟩ := hl
  dsimp only at *
  have n0 : 0 ≤ t * p - b := by omega
  have n1 : t * p - b < t := by
    have : t * (p - 1) = t * p - t := by grind
    omega
  have t0 : 0 ≤ t' := by
    refine Int.le_of_not_gt fun z => ?_
    have h1 : 0 < -t' * (b * p) := Int.mul_pos (by omega) hb
    have h2 : 0 ≤ (t * p - b) * b' := Int.mul_nonneg n0 (by omega)
    have h3 : -t' * (b * p) = -(t' * (b * p)) := by grind
    omega
  have t1 : t' < t := by omega
  have key : t' * ((p - 1) * p) < b' := by
    have e1 : (t * p - b) * (p - 1) < b := by
      have e : (t * p - b) * (p - 1) = p * (t * (p - 1)) - b * (p - 1) := by grind
      have h : p * (t * (p - 1)) ≤ p * (b - 1) := Int.mul_le_mul_of_nonneg_left (by omega) (by omega)
      have e2 : p * (b - 1) = p * b - p := by grind
      have e3 : b * (p - 1) = p * b - b := by grind
      omega
    have e2 : t' * (b * p) * (p - 1) = (t * p - b) * b' * (p - 1) := by rw [cr]
    have e3 : (t * p - b) * (p - 1) * b' < b * b' := Int.mul_lt_mul_of_pos_right e1 l1
    refine Int.lt_of_not_ge fun z => ?_
    have e4 : b * b' ≤ b * (t' * ((p - 1) * p)) := Int.mul_le_mul_of_nonneg_left z (by omega)
    have e5 : b * (t' * ((p - 1) * p)) = t' * (b * p) * (p - 1) := by grind
    have e6 : (t * p - b) * b' * (p - 1) = (t * p - b) * (p - 1) * b' := by grind
    omega
  have pp : 2 ≤ (p - 1) * p := by
    have := Int.mul_le_mul_of_nonneg_right (show (1 : Int) ≤ p - 1 by omega) (show 0 ≤ p by omega)
    omega
  have t2 : t' < b' := by
    by_cases z : t' = 0
    · omega
    · have := Int.mul_le_mul_of_nonneg_left pp t0
      omega
  refine ⟨p2, ⟨l1, l2⟩, t0, t1, t2, cr, fun z => ?_⟩
  obtain ⟨d1, d2⟩ := cdv_ok (b := b') (t := t') z
  refine Int.lt_of_not_ge fun y => ?_
  have := Int.mul_le_mul_of_nonneg_left y t0
  omega
/-- each one far above the one ahead -/
def Chn : List Int → Prop
  | p :: q :: r => (p - 1) * p < q ∧ Chn (q :: r)
  | _ => True
theorem gr_head {n : Nat} {x : Int × Int} {p : Int} {r : List Int} (h : (gr n x).1 = p :: r) : 0 < x.1 ∧ p = cdv x.2 x.1 := by
  cases n with
  | zero => cases h
  | succ n =>
    unfold gr at h
    by_cases h0 : 0 < x.1
    · rw [if_pos h0] at h
      by_cases h1 : 10 ^ 40 ≤ cdv x.2 x.1
      · rw [if_pos h1] at h; cases h
      · rw [if_neg h1] at h
        injection h with h _
        exact ⟨h0, h.symm⟩
    · rw [if_neg h0] at h; cases h
theorem gr_ok : ∀ (n : Nat) (x : Int × Int), Lo x → 0 ≤ x.1 → x.1 < x.2 → x.1.toNat ≤ n → Chn (gr n x).1 ∧ (gr n x).1.length ≤ x.1.toNat ∧ (∀ p ∈ (gr n x).1, 2 ≤ p ∧ p < 10 ^ 40)
  | 0, x, _, _, _, _ => ⟨trivial, Nat.zero_le _, fun _ h => by cases h⟩
  | n + 1, x, hx, h0, h1, hn => by
    unfold gr
    by_cases z : 0 < x.1
    · rw [if_pos z]
      by_cases y : 10 ^ 40 ≤ cdv x.2 x.1
      · rw [if_pos y]; exact ⟨trivial, Nat.zero_le _, fun _ h => by cases h⟩
      · rw [if_neg y]
        obtain ⟨s1, s2, s3, s4, s5, _, s7⟩ := step hx z h1
        obtain ⟨i1, i2, i3⟩ := gr_ok n _ s2 s3 s5 (by omega)
        refine ⟨?_, by rw [List.length_cons]; omega, fun p hp => ?_⟩
        · generalize hg : (gr n (lft x.1 x.2 (cdv x.2 x.1))).1 = g at *
          cases g with
          | nil => trivial
          | cons q r =>
            obtain ⟨k1, k2⟩ := gr_head hg
            exact ⟨by rw [k2]; exact s7 k1, i1⟩
        · rcases List.mem_cons.mp hp with rfl | hp
          · exact ⟨s1, by omega⟩
          · exact i3 p hp
    · rw [if_neg z]; exact ⟨trivial, Nat.zero_le _, fun _ h => by cases h⟩
theorem chn_step {p q c : Int} (h : c ≤ p) (hc : 1 ≤ c) (h2 : (p - 1) * p < q) : (c - 1) * c + 1 ≤ q := by
  have h3 : (c - 1) * c ≤ (p - 1) * p := Int.mul_le_mul (by omega) h (by omega) (by omega)
  omega
theorem chn_len : ∀ {ps : List Int}, Chn ps → (∀ p ∈ ps, 2 ≤ p ∧ p < 10 ^ 40) → ps.length ≤ 8
  | [], _, _ => by simp
  | [_], _, _ => by simp
  | [_, _], _, _ => by simp
  | [_, _, _], _, _ => by simp
  | [_, _, _, _], _, _ => by simp
  | [_, _, _, _, _], _, _ => by simp
  | [_, _, _, _, _, _], _, _ => by simp
  | [_, _, _, _, _, _, _], _, _ => by simp
  | [_, _, _, _, _, _, _, _], _, _ => by simp
  | a :: b :: c :: d :: e :: f :: g :: h :: i :: r, hc, hs => by
    obtain ⟨h1, h2, h3, h4, h5, h6, h7, h8, _⟩ := hc
    have k0 := (hs a (by simp)).1
    have k1 := chn_step k0 (by decide) h1
    have k2 := chn_step k1 (by decide) h2
    have k3 := chn_step k2 (by decide) h3
    have k4 := chn_step k3 (by decide) h4
    have k5 := chn_step k4 (by decide) h5
    have k6 := chn_step k5 (by decide) h6
    have k7 := chn_step k6 (by decide) h7
    have k8 := chn_step k7 (by decide) h8
    have := (hs i (by simp)).2
    omega
theorem chn_asc : ∀ {ps : List Int}, Chn ps → (∀ p ∈ ps, 2 ≤ p) → ∀ k x y, ps[k]? = some x → ps[k + 1]? = some y → x < y ∧ (x - 1) * x < y
  | p :: q :: r, hc, hs, 0, x, y, hx, hy => by
    cases hx; cases hy
    have h2 := hs p (by simp)
    have := Int.mul_le_mul_of_nonneg_right (show (1 : Int) ≤ p - 1 by omega) (show 0 ≤ p by omega)
    have h3 := hc.1
    exact ⟨by omega, h3⟩
  | p :: q :: r, hc, hs, k + 1, x, y, hx, hy => chn_asc (ps := q :: r) hc.2 (fun p hp => hs p (List.mem_cons_of_mem _ hp)) k x y hx hy
  | [p], _, _, k, x, y, _, hy => by simp at hy
  | [], _, _, k, x, y, hx, _ => by simp at hx
theorem gr_sum : ∀ (n : Nat) (x s R : Int × Int), Lo x → 0 ≤ x.1 → x.1 < x.2 → x.1.toNat ≤ n → Lo s → Lo R → (gr n x).2 = false → (s.1 * x.2 + x.1 * s.2) * R.2 = R.1 * (s.2 * x.2) → (gr n x).1.foldl up s = R
  | n, x, s, R, hx, h0, h1, hn, hs, hR, hg, he => by
    by_cases z : 0 < x.1
    · match n, hn with
      | 0, hn => omega
      | n + 1, hn =>
        unfold gr at hg ⊢
        rw [if_pos z] at hg ⊢
        by_cases y : 10 ^ 40 ≤ cdv x.2 x.1
        · rw [if_pos y] at hg; cases hg
        · rw [if_neg y] at hg ⊢
          obtain ⟨s1, s2, s3, s4, s5, s6, s7⟩ := step hx z h1
          rw [List.foldl_cons]
          have hb : 0 < s.2 * cdv x.2 x.1 := Int.mul_pos hs.1 (by omega)
          have cu : (up s (cdv x.2 x.1)).1 * (s.2 * cdv x.2 x.1) = (s.1 * cdv x.2 x.1 + s.2) * (up s (cdv x.2 x.1)).2 := redP_cross hb
          have lu : Lo (up s (cdv x.2 x.1)) := redP_lo hb
          refine gr_sum n _ _ R s2 s3 s5 (by omega) lu hR hg ?_
          generalize lft x.1 x.2 (cdv x.2 x.1) = l at *
          generalize up s (cdv x.2 x.1) = u at *
          generalize cdv x.2 x.1 = p at *
          obtain ⟨t, b⟩ := x
          obtain ⟨sa, sb⟩ := s
          obtain ⟨la, lb⟩ := l
          obtain ⟨ua, ub⟩ := u
          obtain ⟨ra, rb⟩ := R
          dsimp only at *
          have hm : (sb * p) * (b * p) ≠ 0 := by
            have := Int.mul_pos hb (Int.mul_pos (show 0 < b by omega) (show 0 < p by omega))
            omega
          refine Int.eq_of_mul_eq_mul_right hm ?_
          have e1 : (ua * lb + la * ub) * rb * (sb * p * (b * p)) = (ua * (sb * p)) * lb * rb * (b * p) + (la * (b * p)) * ub * rb * (sb * p) := by grind
          rw [e1, cu, s6]
          have e2 : (sa * p + sb) * ub * lb * rb * (b * p) + (t * p - b) * lb * ub * rb * (sb * p) = ub * lb * p * p * ((sa * b + t * sb) * rb) := by grind
          rw [e2, he]
          grind
    · have e0 : x.1 = 0 := by omega
      have eg : gr n x = ([], false) := by
        cases n with
        | zero => rfl
        | succ n => unfold gr; rw [if_neg z]
      rw [eg]
      show s = R
      refine lo_same hs hR ?_
      rw [e0, Int.zero_mul, Int.add_zero] at he
      have hm : x.2 ≠ 0 := by have := hx.1; omega
      refine Int.eq_of_mul_eq_mul_right hm ?_
      have : s.1 * R.2 * x.2 = s.1 * x.2 * R.2 := by grind
      rw [this, he]
      grind
end Pv
namespace Pv
open PySem
/-! ### neighbours in a row -/
theorem zip_tail : ∀ xs : List Int, zipD (xs.map PyData.int) ((xs.map PyData.int).drop 1) = (xs.zip xs.tail).map fun p => .tuple [.int p.1, .int p.2]
  | [] => rfl
  | [_] => rfl
  | x :: y :: r => by
    have := zip_tail (y :: r)
    show PyData.tuple [.int x, .int y] :: zipD ((y :: r).map PyData.int) (((y :: r).map PyData.int).drop 1) = _
    rw [this]
    rfl
theorem zip_mem : ∀ {xs : List Int} {p : Int × Int}, p ∈ xs.zip xs.tail → ∃ k : Nat, xs[k]? = some p.1 ∧ xs[k + 1]? = some p.2
  | x :: y :: r, p, h => by
    rcases List.mem_cons.mp h with rfl | h
    · exact ⟨0, rfl, rfl⟩
    · obtain ⟨k, h1, h2⟩ := zip_mem (xs := y :: r) h
      exact ⟨k + 1, h1, h2⟩
  | [_], p, h => by cases h
  | [], p, h => by cases h
theorem zip_len (xs : List Int) : (xs.zip xs.tail).length ≤ xs.length := by
  rw [List.length_zip]
  omega
/-- all true -/
theorem all_bt {α : Type} (xs : List α) : bltD .all [.list (xs.map fun _ => PyData.bool true)] = some (.bool true) := by
  have := bools_map (xs.map fun _ => true)
  rw [List.map_map] at this
  rw [bl_all, show (xs.map fun _ => PyData.bool true) = xs.map (PyData.bool ∘ fun _ => true) from rfl, this]
  show some (PyData.bool ((xs.map fun _ => true).all id)) = _
  congr 2
  exact List.all_eq_true.mpr fun x hx => by
    obtain ⟨_, _, rfl⟩ := List.mem_map.mp hx
    rfl
/-- a comprehension over ints, looked at by pairs -/
theorem lc_all1 {C : Cfg} {i : Nat} {elt : E} {it : It} {ρ : Env} {ns : List Int} {g : Int → D} (hi : i < ρ.length) (hp : plainAt ρ [i] = true) (hl : ns.length ≤ 1000000) (hit : evI C it ρ = .ok (ns.map PyData.int) ρ)
    (he : ∀ x ∈ ns, evE C elt (ρ.set i (some (.v (.int x)))) = .ok (.pv (g x)) (ρ.set i (some (.v (.int x))))) : evE C (.lc elt (.n i) it .yes) ρ = .ok (.fr (ns.map g)) ρ := by
  rw [e_lc, hit, R.bind_ok, lcGo_1 (g := g) hi hp fun x hx => by simp [he x hx]]
  simp [lim_n, hl]
theorem lc_all2 {C : Cfg} {i j : Nat} {elt : E} {it : It} {ρ : Env} {α : Type} {ns : List α} {f1 f2 g : α → D} (hi : i < ρ.length) (hj : j < ρ.length) (hij : i ≠ j) (hp : plainAt ρ [i, j] = true) (hl : ns.length ≤ 1000000) (hit : evI C it ρ = .ok (ns.map fun p => .tuple [f1 p, f2 p]) ρ)
    (he : ∀ p ∈ ns, evE C elt ((ρ.set i (some (.v (f1 p)))).set j (some (.v (f2 p)))) = .ok (.pv (g p)) ((ρ.set i (some (.v (f1 p)))).set j (some (.v (f2 p))))) : evE C (.lc elt (.t [i, j]) it .yes) ρ = .ok (.fr (ns.map g)) ρ := by
  rw [e_lc, hit, R.bind_ok, lcGo_2 (g := g) hi hj hij hp fun x hx => by simp [he x hx]]
  simp [lim_n, hl]
end Pv
namespace Pv
open PySem
/-! ### a while loop's turn that ends the def -/
theorem whl_x {C : Cfg} {c : T} {b : Ss} {ρ ρ1 ρ2 : Env} {k : Nat} {x : Option D} (hc : evT C c ρ = .ok true ρ1) (hb : evSs C b ρ1 = .exc k x ρ2) : evS C (.whl c b) ρ = .exc k x ρ2 := by
  rw [s_whl_step, hc]
  simp only [hb]
theorem whl_r {C : Cfg} {c : T} {b : Ss} {ρ ρ1 ρ2 : Env} {x : Val} (hc : evT C c ρ = .ok true ρ1) (hb : evSs C b ρ1 = .ret x ρ2) : evS C (.whl c b) ρ = .ret x ρ2 := by
  rw [s_whl_step, hc]
  simp only [hb]
/-- only sizes -/
theorem gz_gcd {t b p : Int} (hl : Int.gcd t b = 1) (h0 : 0 < t) (h1 : t < b) (h2 : t ≤ 1000) (hp0 : 0 < p) (hp : p < 10 ^ 40) (h3 : 0 ≤ t * p - b) (h4 : t * p - b < t) : Ok (Int.gcd (t * p - b) (b * p) : Int) := by
  by_cases z : t * p - b = 0
  · rw [z, Int.gcd_zero_left]
    have hd : t ∣ b := ⟨p, by omega⟩
    have e1 : Int.gcd t b = t.natAbs := Int.gcd_eq_natAbs_left_iff_dvd.mpr hd
    have e2 : t = 1 := by omega
    subst e2
    have e3 : b = p := by omega
    subst e3
    have : (b * b).natAbs < 2 ^ (133 + 133) := by
      rw [Int.natAbs_mul, Nat.pow_add]
      exact Nat.mul_lt_mul'' (by omega) (by omega)
    show ((b * b).natAbs : Int).natAbs < 2 ^ 8000
    rw [Int.natAbs_natCast]
    exact sz_le this (by decide)
  · have : Int.gcd (t * p - b) (b * p) ≤ (t * p - b).natAbs := by rw [Int.gcd_comm]; exact gcd_le z
    exact sz_le (n := 10) (by omega) (by decide)
end Pv

namespace Pv
open PySem
/-! ### unit ratios: any order, one step of any part -/
theorem sum_step {x s R : Int × Int} {p : Int} (hx : 0 < x.2) (hs : 0 < s.2) (hp : 0 < p) (he : (s.1 * x.2 + x.1 * s.2) * R.2 = R.1 * (s.2 * x.2)) : ((up s p).1 * (lft x.1 x.2 p).2 + (lft x.1 x.2 p).1 * (up s p).2) * R.2 = R.1 * ((up s p).2 * (lft x.1 x.2 p).2) := by
  have hb : 0 < s.2 * p := Int.mul_pos hs hp
  have hb2 : 0 < x.2 * p := Int.mul_pos hx hp
  have cu : (up s p).1 * (s.2 * p) = (s.1 * p + s.2) * (up s p).2 := redP_cross hb
  have cl : (lft x.1 x.2 p).1 * (x.2 * p) = (x.1 * p - x.2) * (lft x.1 x.2 p).2 := redP_cross hb2
  generalize lft x.1 x.2 p = l at *
  generalize up s p = u at *
  obtain ⟨t, b⟩ := x
  obtain ⟨sa, sb⟩ := s
  obtain ⟨la, lb⟩ := l
  obtain ⟨ua, ub⟩ := u
  obtain ⟨ra, rb⟩ := R
  dsimp only at *
  have hm : (sb * p) * (b * p) ≠ 0 := by
    have := Int.mul_pos hb hb2
    omega
  refine Int.eq_of_mul_eq_mul_right hm ?_
  have e1 : (ua * lb + la * ub) * rb * (sb * p * (b * p)) = (ua * (sb * p)) * lb * rb * (b * p) + (la * (b * p)) * ub * rb * (sb * p) := by grind
  rw [e1, cu, cl]
  have e2 : (sa * p + sb) * ub * lb * rb * (b * p) + (t * p - b) * lb * ub * rb * (sb * p) = ub * lb * p * p * ((sa * b + t * sb) * rb) := by grind
  rw [e2, he]
  grind
/-- top and bottom, not made less -/
def fr (s : Int × Int) (p : Int) : Int × Int := (s.1 * p + s.2, s.2 * p)
def frS (ps : List Int) : Int × Int := ps.foldl fr (0, 1)
theorem redP_up {t b p : Int} (hb : 0 < b) (hp : 0 < p) : up (redP t b) p = redP (t * p + b) (b * p) := by
  obtain ⟨l1, l2⟩ := redP_lo (t := t) hb
  have c := redP_cross (t := t) hb
  unfold up
  generalize redP t b = x at *
  obtain ⟨x, y⟩ := x
  dsimp only at *
  have e1 := redP_scale (t := x * p + y) (b := y * p) (g := b) hb (by have := Int.mul_pos l1 hp; omega)
  have e2 := redP_scale (t := t * p + b) (b := b * p) (g := y) l1 (by have := Int.mul_pos hb hp; omega)
  rw [← e1, ← e2]
  have h1 : b * (x * p + y) = y * (t * p + b) := by
    have : b * (x * p + y) = (x * b) * p + b * y := by grind
    rw [this, c]
    grind
  have h2 : b * (y * p) = y * (b * p) := by grind
  rw [h1, h2]
theorem up_frS : ∀ (ps : List Int) (t b : Int), 0 < b → (∀ p ∈ ps, 0 < p) → ps.foldl up (redP t b) = redP (ps.foldl fr (t, b)).1 (ps.foldl fr (t, b)).2 ∧ 0 < (ps.foldl fr (t, b)).2
  | [], t, b, hb, _ => ⟨rfl, hb⟩
  | p :: r, t, b, hb, h => by
    have hp := h p (List.mem_cons_self ..)
    rw [List.foldl_cons, redP_up hb hp]
    exact up_frS r _ _ (Int.mul_pos hb hp) fun q hq => h q (List.mem_cons_of_mem _ hq)
theorem sumP_frS {ps : List Int} (h : ∀ p ∈ ps, 0 < p) : sumP ps = redP (frS ps).1 (frS ps).2 ∧ 0 < (frS ps).2 := by
  have e : redP 0 1 = (0, 1) := by decide
  have := up_frS ps 0 1 (by decide) h
  rw [e] at this
  exact this
theorem fr_comm (s : Int × Int) (p q : Int) : fr (fr s p) q = fr (fr s q) p := by
  unfold fr
  refine Prod.ext ?_ ?_
  · show (s.1 * p + s.2) * q + s.2 * p = (s.1 * q + s.2) * p + s.2 * q
    grind
  · show s.2 * p * q = s.2 * q * p
    grind
theorem frS_perm {ps qs : List Int} (h : ps.Perm qs) : ∀ s, ps.foldl fr s = qs.foldl fr s := by
  induction h with
  | nil => exact fun _ => rfl
  | cons x _ ih => exact fun s => ih (fr s x)
  | swap x y l => exact fun s => by rw [List.foldl_cons, List.foldl_cons, List.foldl_cons, List.foldl_cons, fr_comm]
  | trans _ _ i1 i2 => exact fun s => (i1 s).trans (i2 s)
/-- a part split -/
theorem split_sum {rest qs ps : List Int} {n a b : Int} (hr : ∀ p ∈ rest, 0 < p) (hn : 0 < n) (ha : 0 < a) (hb : 0 < b) (hp : ps.Perm (rest ++ [n])) (hq : qs.Perm (rest ++ [a, b])) (h : n * (a + b) = a * b) : sumP qs = sumP ps := by
  have k1 : ∀ p ∈ ps, 0 < p := fun p h => by
    rcases List.mem_append.mp (hp.mem_iff.mp h) with h | h
    · exact hr p h
    · rw [List.mem_singleton.mp h]; exact hn
  have k2 : ∀ p ∈ qs, 0 < p := fun p h => by
    rcases List.mem_append.mp (hq.mem_iff.mp h) with h | h
    · exact hr p h
    · rcases List.mem_cons.mp h with rfl | h
      · exact ha
      · rw [List.mem_singleton.mp h]; exact hb
  obtain ⟨e1, p1⟩ := sumP_frS k1
  obtain ⟨e2, p2⟩ := sumP_frS k2
  have f1 : frS ps = fr (frS rest) n := by
    unfold frS
    rw [frS_perm hp, List.foldl_append]
    rfl
  have f2 : frS qs = fr (fr (frS rest) a) b := by
    unfold frS
    rw [frS_perm hq, List.foldl_append]
    rfl
  rw [e1, e2]
  have l1 := redP_lo (t := (frS ps).1) p1
  have l2 := redP_lo (t := (frS qs).1) p2
  have c1 := redP_scale (t := (frS ps).1) (b := (frS ps).2) (g := (frS qs).2) p2 (by omega)
  have c2 := redP_scale (t := (frS qs).1) (b := (frS qs).2) (g := (frS ps).2) p1 (by omega)
  rw [← c1, ← c2]
  have x1 : (frS ps).2 * (frS qs).1 = (frS qs).2 * (frS ps).1 := by
    rw [f1, f2]
    generalize frS rest = s
    unfold fr
    show s.2 * n * ((s.1 * a + s.2) * b + s.2 * a) = s.2 * a * b * (s.1 * n + s.2)
    have : s.2 * n * ((s.1 * a + s.2) * b + s.2 * a) = s.2 * n * s.1 * (a * b) + s.2 * s.2 * (n * (a + b)) := by grind
    rw [this, h]
    grind
  rw [x1, Int.mul_comm (frS ps).2 (frS qs).2]
/-! ### greedy by odd parts, plain -/
def mkodd (c : Int) : Int := c + (1 - c % 2)
def nxo (f : List Int) (x : Int × Int) : Int := mkodd (max (match f.getLast? with | none => 3 | some l => l + 2) (cdv x.2 x.1))
def og : Nat → Int × Int → List Int → Option (List Int)
  | 0, _, _ => none
  | k + 1, x, f => if 0 < x.1 then if f.length = 12 ∨ 10 ^ 40 ≤ nxo f x then none else og k (lft x.1 x.2 (nxo f x)) (f ++ [nxo f x]) else some f
/-- odd, ascending, within bounds -/
structure Of (f : List Int) : Prop where
  s : ∀ p ∈ f, 0 < p ∧ p < 10 ^ 40
  o : ∀ p ∈ f, p % 2 = 1
  a : ∀ k x y, f[k]? = some x → f[k + 1]? = some y → x < y
  m : ∀ p ∈ f, ∀ l, f.getLast? = some l → p ≤ l
theorem of_nil : Of [] := ⟨nofun, nofun, nofun, nofun⟩
theorem getLast_mem {f : List Int} {l : Int} (h : f.getLast? = some l) : l ∈ f := List.mem_of_getLast? h
theorem Of.next {f : List Int} (h : Of f) {x : Int × Int} (hp : nxo f x < 10 ^ 40) : Of (f ++ [nxo f x]) ∧ 3 ≤ nxo f x ∧ cdv x.2 x.1 ≤ nxo f x := by
  have big : 3 ≤ nxo f x ∧ cdv x.2 x.1 ≤ nxo f x ∧ nxo f x % 2 = 1 ∧ ∀ l, f.getLast? = some l → l < nxo f x := by
    unfold nxo mkodd
    cases hl : f.getLast? with
    | none => exact ⟨by dsimp only; omega, by dsimp only; omega, by dsimp only; omega, nofun⟩
    | some l =>
      have h0 := (h.s l (getLast_mem hl)).1
      refine ⟨by dsimp only; omega, by dsimp only; omega, by dsimp only; omega, fun l' e => ?_⟩
      cases e
      dsimp only
      omega
  obtain ⟨b1, b2, b3, b4⟩ := big
  generalize nxo f x = p at *
  refine ⟨⟨fun q hq => ?_, fun q hq => ?_, fun k y z hy hz => ?_, fun q hq l hl => ?_⟩, b1, b2⟩
  · rcases List.mem_append.mp hq with hq | hq
    · exact h.s q hq
    · rw [List.mem_singleton.mp hq]; omega
  · rcases List.mem_append.mp hq with hq | hq
    · exact h.o q hq
    · rw [List.mem_singleton.mp hq]; exact b3
  · by_cases w : k + 1 < f.length
    · rw [List.getElem?_append_left (by omega)] at hy hz
      exact h.a k y z hy hz
    · have hlt : k + 1 < (f ++ [p]).length := (List.getElem?_eq_some_iff.mp hz).1
      rw [List.length_append, List.length_singleton] at hlt
      have e : k + 1 = f.length := by omega
      rw [List.getElem?_append_left (by omega)] at hy
      rw [List.getElem?_append_right (by omega), e, Nat.sub_self] at hz
      simp only [List.getElem?_cons_zero, Option.some.injEq] at hz
      have hl : f.getLast? = some y := by
        rw [List.getLast?_eq_getElem?, ← e, Nat.add_sub_cancel]
        exact hy
      have := b4 y hl
      omega
  · have e : (f ++ [p]).getLast? = some p := by simp
    rw [e] at hl
    cases hl
    rcases List.mem_append.mp hq with hq | hq
    · cases hf : f.getLast? with
      | none =>
        rw [List.getLast?_eq_none_iff] at hf
        rw [hf] at hq
        cases hq
      | some y =>
        have := b4 y hf
        have := h.m q hq y hf
        omega
    · rw [List.mem_singleton.mp hq]; exact Int.le_refl _
/-- the law's own next one is the same -/
theorem nxo_law {f : List Int} (h : Of f) {x : Int × Int} (h2 : f ≠ [] ∨ 2 ≤ cdv x.2 x.1) : (if 0 < f.length ∧ mkodd (cdv x.2 x.1) ≤ f.getLast?.getD 0 then f.getLast?.getD 0 + 2 else mkodd (cdv x.2 x.1)) = nxo f x := by
  unfold nxo mkodd
  cases hl : f.getLast? with
  | none =>
    rw [List.getLast?_eq_none_iff] at hl
    subst hl
    rw [if_neg (by simp)]
    have := h2.resolve_left (fun z => z rfl)
    dsimp only
    omega
  | some l =>
    have ho := h.o l (getLast_mem hl)
    have hp : 0 < f.length := by
      refine List.length_pos_iff.mpr fun e => ?_
      rw [e] at hl
      cases hl
    simp only [Option.getD_some, hp, true_and]
    split <;> omega
theorem lft_lo {x : Int × Int} {p : Int} (hx : 0 < x.2) (hp : 0 < p) : Lo (lft x.1 x.2 p) := redP_lo (Int.mul_pos hx hp)
theorem lft_nonneg {x : Int × Int} {p : Int} (hx : 0 < x.2) (h0 : 0 < x.1) (hp : 0 < p) (hc : cdv x.2 x.1 ≤ p) : 0 ≤ (lft x.1 x.2 p).1 := by
  obtain ⟨c1, _⟩ := cdv_ok (b := x.2) (t := x.1) h0
  have h1 : x.1 * cdv x.2 x.1 ≤ x.1 * p := Int.mul_le_mul_of_nonneg_left hc (by omega)
  have hb := Int.mul_pos hx hp
  have c : (lft x.1 x.2 p).1 * (x.2 * p) = (x.1 * p - x.2) * (lft x.1 x.2 p).2 := redP_cross hb
  have l := (lft_lo (x := x) hx hp).1
  refine Int.le_of_not_gt fun z => ?_
  have h2 : 0 < -(lft x.1 x.2 p).1 * (x.2 * p) := Int.mul_pos (by omega) hb
  have h3 : 0 ≤ (x.1 * p - x.2) * (lft x.1 x.2 p).2 := Int.mul_nonneg (by omega) (by omega)
  have h4 : -(lft x.1 x.2 p).1 * (x.2 * p) = -((lft x.1 x.2 p).1 * (x.2 * p)) := by grind
  omega
/-- what comes of it -/
theorem og_ok : ∀ (k : Nat) (x R : Int × Int) (f r : List Int), Lo x → 0 ≤ x.1 → Lo R → Of f → f.length ≤ 12 → ((sumP f).1 * x.2 + x.1 * (sumP f).2) * R.2 = R.1 * ((sumP f).2 * x.2) → og k x f = some r → sumP r = R ∧ Of r ∧ r.length ≤ 12 ∧ (0 < x.1 → r ≠ [])
  | 0, x, R, f, r, _, _, _, _, _, _, h => by cases h
  | k + 1, x, R, f, r, hx, h0, hR, hf, hl, he, h => by
    unfold og at h
    by_cases z : 0 < x.1
    · rw [if_pos z] at h
      by_cases y : f.length = 12 ∨ 10 ^ 40 ≤ nxo f x
      · rw [if_pos y] at h; cases h
      · rw [if_neg y] at h
        obtain ⟨n1, n2, n3⟩ := hf.next (x := x) (by omega)
        have hs : Lo (sumP f) := by
          obtain ⟨e, p⟩ := sumP_frS fun p hp => (hf.s p hp).1
          rw [e]
          exact redP_lo p
        have es : sumP (f ++ [nxo f x]) = up (sumP f) (nxo f x) := by unfold sumP; rw [List.foldl_append]; rfl
        obtain ⟨a1, a2, a3, _⟩ := og_ok k _ R _ r (lft_lo hx.1 (by omega)) (lft_nonneg hx.1 z (by omega) n3) hR n1 (by rw [List.length_append, List.length_singleton]; omega) (by rw [es]; exact sum_step hx.1 hs.1 (by omega) he) h
        refine ⟨a1, a2, a3, fun _ e => ?_⟩
        have key : ∀ (k : Nat) (x : Int × Int) (f r : List Int), og k x f = some r → f.length ≤ r.length := fun k => by
          induction k with
          | zero => intro x f r h; cases h
          | succ k ih =>
            intro x f r h
            unfold og at h
            split at h
            · split at h
              · cases h
              · have := ih _ _ _ h
                rw [List.length_append] at this
                omega
            · cases h; exact Nat.le_refl _
        have := key _ _ _ _ h
        rw [e, List.length_append, List.length_singleton, List.length_nil] at this
        omega
    · rw [if_neg z] at h
      cases h
      have e0 : x.1 = 0 := by omega
      have hs : Lo (sumP f) := by
        obtain ⟨e, p⟩ := sumP_frS fun p hp => (hf.s p hp).1
        rw [e]
        exact redP_lo p
      refine ⟨lo_same hs hR ?_, hf, hl, fun h => absurd h z⟩
      rw [e0, Int.zero_mul, Int.add_zero] at he
      have hm : x.2 ≠ 0 := by have := hx.1; omega
      refine Int.eq_of_mul_eq_mul_right hm ?_
      have : (sumP f).1 * R.2 * x.2 = (sumP f).1 * x.2 * R.2 := by grind
      rw [this, he]
      grind
end Pv
namespace Pv
open PySem
/-! ### comprehensions that leave out -/
theorem lcGo_f {i : Nat} {ev : Env → R (Option D)} {ρ : Env} {α : Type} {f g : α → D} {c : α → Bool} (hi : i < ρ.length) (hp : plainAt ρ [i] = true) : ∀ {xs : List α}, (∀ p ∈ xs, ev (ρ.set i (some (.v (f p)))) = .ok (if c p = true then some (g p) else none) (ρ.set i (some (.v (f p))))) → lcGo (lcTurn (.n i) ev) (xs.map f) ρ = .ok ((xs.filter c).map g) ρ
  | [], _ => rfl
  | p :: r, h => by
    show (lcTurn (.n i) ev (f p) ρ).bind _ = _
    rw [lcTurn_n hi hp (h p (List.mem_cons_self ..)), R.bind_ok, lcGo_f hi hp fun q hq => h q (List.mem_cons_of_mem _ hq), List.filter_cons]
    by_cases z : c p = true
    · rw [if_pos z, if_pos z]; rfl
    · rw [if_neg z, if_neg z]; rfl
theorem lc_flt {C : Cfg} {i : Nat} {elt : E} {it : It} {cd : T} {ρ : Env} {α : Type} {ns : List α} {f g : α → D} {c : α → Bool} (hi : i < ρ.length) (hp : plainAt ρ [i] = true) (hl : ns.length ≤ 1000000) (hit : evI C it ρ = .ok (ns.map f) ρ)
    (hc : ∀ x ∈ ns, evT C cd (ρ.set i (some (.v (f x)))) = .ok (c x) (ρ.set i (some (.v (f x)))))
    (he : ∀ x ∈ ns, c x = true → evE C elt (ρ.set i (some (.v (f x)))) = .ok (.pv (g x)) (ρ.set i (some (.v (f x))))) : evE C (.lc elt (.n i) it cd) ρ = .ok (.fr ((ns.filter c).map g)) ρ := by
  rw [e_lc, hit, R.bind_ok, lcGo_f (g := g) (c := c) hi hp fun x hx => by
    rw [hc x hx, R.bind_ok]
    by_cases z : c x = true
    · rw [if_pos z, z, iteR_t, he x hx z]; rfl
    · have z' : c x = false := by simpa using z
      rw [if_neg z, z']; rfl]
  have : (ns.filter c).length ≤ 1000000 := Nat.le_trans (List.length_filter_le ..) hl
  simp [lim_n, this]
/-! ### is it among them -/
theorem any_int (a : Int) : ∀ ps : List Int, ((ps.map PyData.int).any fun y => PyData.eqv y (.int a)) = decide (a ∈ ps)
  | [] => rfl
  | p :: r => by
    rw [List.map_cons, List.any_cons, any_int a r]
    show ((p == a) || _) = _
    by_cases h : p = a
    · subst h; simp
    · have : ¬ a = p := fun e => h e.symm
      simp [h, this]
theorem in_t (a : Int) (ps : List Int) : cmpD .isin (.int a) (.tuple (ps.map .int)) = some (decide (a ∈ ps)) := by
  have h : shp (.tuple (ps.map PyData.int)) = true := dk_shp (dk_td ps) (by decide)
  show (if shp (.int a) = true ∧ shp (.tuple (ps.map PyData.int)) = true then some _ else none) = _
  rw [if_pos ⟨rfl, h⟩, any_int]
theorem notin_t (a : Int) (ps : List Int) : cmpD .notin (.int a) (.tuple (ps.map .int)) = some (!decide (a ∈ ps)) := by
  have h : shp (.tuple (ps.map PyData.int)) = true := dk_shp (dk_td ps) (by decide)
  show (if shp (.int a) = true ∧ shp (.tuple (ps.map PyData.int)) = true then some _ else none) = _
  rw [if_pos ⟨rfl, h⟩, any_int]
theorem dk_ld (ns : List Int) : dk 1 (.list (ns.map .int)) = true := List.all_eq_true.mpr fun d hd => by
  obtain ⟨i, _, rfl⟩ := List.mem_map.mp hd
  rfl
theorem in_l (a : Int) (ps : List Int) : cmpD .isin (.int a) (.list (ps.map .int)) = some (decide (a ∈ ps)) := by
  have h : shp (.list (ps.map PyData.int)) = true := dk_shp (dk_ld ps) (by decide)
  show (if shp (.int a) = true ∧ shp (.list (ps.map PyData.int)) = true then some _ else none) = _
  rw [if_pos ⟨rfl, h⟩, any_int]
theorem srt_l (ns : List Int) : bltD .sorted [.list (ns.map .int)] = some (.list ((sortI ns).map .int)) := by
  show sortD (ns.map PyData.int) = _
  unfold sortD
  rw [ints_map]
theorem srt_t (ns : List Int) : bltD .sorted [.tuple (ns.map .int)] = some (.list ((sortI ns).map .int)) := by
  show (intsOf (ns.map PyData.int)).map _ = _
  rw [ints_map]
  rfl
/-- a rising row, place by place -/
theorem rise_at {l : List Int} (h : l.Pairwise (· < ·)) (k : Nat) (x y : Int) (hx : l[k]? = some x) (hy : l[k + 1]? = some y) : x < y := by
  obtain ⟨h1, rfl⟩ := List.getElem?_eq_some_iff.mp hx
  obtain ⟨h2, rfl⟩ := List.getElem?_eq_some_iff.mp hy
  exact List.pairwise_iff_getElem.mp h k (k + 1) h1 h2 (by omega)
theorem sort_rise {l : List Int} (h : l.Nodup) : (sortI l).Pairwise (· < ·) := by
  have n : (sortI l).Nodup := (sortI_perm l).nodup_iff.mpr h
  exact ((sortI_sorted l).and n).imp fun {a b} h => by
    have : a ≠ b := h.2
    have := h.1
    omega
theorem rise_nodup {l : List Int} (h : l.Pairwise (· < ·)) : l.Nodup := h.imp fun {a b} h => by
  intro e
  omega
end Pv
namespace Pv
open PySem
/-- a law's end behind its loop -/
theorem law_fin {T : Nat → Bool} {C : Cfg} {s : Ss} {ρ ρ' : Env} {x : Val} {xs : List D} (ok : okSs T s = true) (hl : Le T ρ ρ') (h : ∃ ρ1, evSs C s ρ = .ret x ρ1) : finR [.raw xs] (evSs C s ρ') = .ret x none := by
  obtain ⟨ρ1, h⟩ := h
  obtain ⟨ρ2, e, _⟩ := rest_ret ok hl h
  rw [e]
  rfl
end Pv

namespace Pv
open PySem
/-! ### roads, plain -/
/-- one more at the end -/
def inc : List Int → List Int
  | [] => [1]
  | [x] => [x + 1]
  | x :: y :: r => x :: inc (y :: r)
theorem inc_cons {x : Int} {r : List Int} (h : r ≠ []) : inc (x :: r) = x :: inc r := by
  cases r with
  | nil => exact absurd rfl h
  | cons y r => rfl
/-- what steps behind the root come to, right first -/
def cv : List Int → Int × Int
  | [] => (1, 1)
  | w :: r => (w * (cv r).1 + (cv r).2, (cv r).1)
theorem cv_inc : ∀ ws : List Int, Kc (inc ws) = (cv ws).1 ∧ Jc (inc ws) = (cv ws).2
  | [] => by decide
  | [w] => by
    show Kc [w + 1] = w * 1 + 1 ∧ Jc [w + 1] = 1
    rw [Kc_cons, Jc_cons]
    have e1 : Kc [] = 1 := rfl
    have e2 : Jc [] = 0 := rfl
    rw [e1, e2]
    omega
  | w :: y :: r => by
    obtain ⟨h1, h2⟩ := cv_inc (y :: r)
    show Kc (w :: inc (y :: r)) = w * (cv (y :: r)).1 + (cv (y :: r)).2 ∧ Jc (w :: inc (y :: r)) = (cv (y :: r)).1
    rw [Kc_cons, Jc_cons, h1, h2]
    exact ⟨rfl, rfl⟩
theorem cv_pos : ∀ {ws : List Int}, (∀ w ∈ ws, 0 < w) → 0 < (cv ws).1 ∧ 0 < (cv ws).2
  | [], _ => by decide
  | w :: r, h => by
    obtain ⟨h1, h2⟩ := cv_pos fun z hz => h z (List.mem_cons_of_mem _ hz)
    have := Int.mul_pos (h w (List.mem_cons_self ..)) h1
    exact ⟨by show 0 < w * (cv r).1 + (cv r).2; omega, h1⟩
/-- signs in turn -/
def alts : Bool → List Int → List (Bool × Int)
  | _, [] => []
  | s, x :: r => (s, x) :: alts (!s) r
theorem alts_len : ∀ (s : Bool) (r : List Int), (alts s r).length = r.length
  | _, [] => rfl
  | s, x :: r => by show (alts (!s) r).length + 1 = _; rw [alts_len]; rfl
theorem alts_snd : ∀ (s : Bool) (r : List Int), (alts s r).map (·.2) = r
  | _, [] => rfl
  | s, x :: r => by show x :: (alts (!s) r).map (·.2) = _; rw [alts_snd]
theorem alts_mem {p : Bool × Int} : ∀ {s : Bool} {r : List Int}, p ∈ alts s r → p.2 ∈ r
  | s, x :: r, h => by
    rcases List.mem_cons.mp h with rfl | h
    · exact List.mem_cons_self ..
    · exact List.mem_cons_of_mem _ (alts_mem h)
  | _, [], h => by cases h
/-- the sign and the steps of a ratio's road -/
def rws : List Int → Bool × List Int
  | [] => (true, [])
  | [x] => (true, if 0 < x - 1 then [x - 1] else [])
  | x :: y :: r => if 0 < x then (true, x :: (y :: r).dropLast ++ [(y :: r).getLastD 0 - 1]) else (false, (y :: r).dropLast ++ [(y :: r).getLastD 0 - 1])
/-- terms of a ratio above 0, and its road -/
structure Rw (ts : List Int) (s : Bool) (ws : List Int) : Prop where
  t : ts = if s = true then inc ws else 0 :: inc ws
  p : ∀ w ∈ ws, 0 < w
  z : ws = [] → s = true
theorem inc_snoc : ∀ (b : List Int) (x : Int), inc (b ++ [x]) = b ++ [x + 1]
  | [], x => rfl
  | [a], x => rfl
  | a :: c :: b, x => by show a :: inc ((c :: b) ++ [x]) = _; rw [inc_snoc]; rfl
theorem rw_ex {a : Int} {r : List Int} (h0 : 0 ≤ a) (hv : Vt r) (hk : 0 < Kc (a :: r)) : ∃ s ws, Rw (a :: r) s ws := by
  rcases List.eq_nil_or_concat r with rfl | ⟨b, x, e⟩
  · have e : Kc [a] = a := by
      rw [Kc_cons]
      show a * 1 + 0 = a
      omega
    rw [e] at hk
    by_cases h1 : a = 1
    · subst h1
      exact ⟨true, [], rfl, nofun, fun _ => rfl⟩
    · refine ⟨true, [a - 1], by show [a] = [a - 1 + 1]; rw [show a - 1 + 1 = a by omega], fun w hw => ?_, nofun⟩
      rw [List.mem_singleton.mp hw]
      omega
  · rw [List.concat_eq_append] at e
    subst e
    have hx := Vt.last hv
    have hb : ∀ w ∈ b ++ [x - 1], 0 < w := fun w hw => by
      rcases List.mem_append.mp hw with hw | hw
      · exact hv.all w (List.mem_append_left _ hw)
      · rw [List.mem_singleton.mp hw]; omega
    have ei : inc (b ++ [x - 1]) = b ++ [x] := by rw [inc_snoc, show x - 1 + 1 = x by omega]
    by_cases h1 : a = 0
    · subst h1
      refine ⟨false, b ++ [x - 1], ?_, hb, fun e => by simp at e⟩
      rw [if_neg (by simp), ei]
    · refine ⟨true, a :: (b ++ [x - 1]), ?_, fun w hw => ?_, nofun⟩
      · rw [if_pos rfl, inc_cons (by simp), ei]
      · rcases List.mem_cons.mp hw with rfl | hw
        · omega
        · exact hb w hw
theorem sum_inc : ∀ ws : List Int, (inc ws).sum = ws.sum + 1
  | [] => rfl
  | [x] => by show x + 1 + 0 = x + 0 + 1; omega
  | x :: y :: r => by
    show x + (inc (y :: r)).sum = x + (y :: r).sum + 1
    rw [sum_inc]
    omega
theorem Rw.sum {ts : List Int} {s : Bool} {ws : List Int} (h : Rw ts s ws) : ts.sum = ws.sum + 1 := by
  rw [h.t]
  split
  · exact sum_inc ws
  · show 0 + (inc ws).sum = _
    rw [sum_inc]; omega
/-- the ratio, by the steps -/
theorem Rw.val {ts : List Int} {s : Bool} {ws : List Int} (h : Rw ts s ws) : Kc ts = (if s = true then (cv ws).1 else (cv ws).2) ∧ Jc ts = (if s = true then (cv ws).2 else (cv ws).1) := by
  obtain ⟨h1, h2⟩ := cv_inc ws
  rw [h.t]
  cases s with
  | true => exact ⟨h1, h2⟩
  | false =>
    show Kc (0 :: inc ws) = _ ∧ Jc (0 :: inc ws) = _
    rw [Kc_cons, Jc_cons, h1, h2]
    exact ⟨by simp, rfl⟩
/-! ### how deep -/
def Ss2 (t b : Int) : Int := (Tm t b).sum
theorem Ss_swap {t b : Int} (h : t < b) (h0 : 0 < t) : Ss2 t b = Ss2 b t := by
  unfold Ss2
  rw [Tm_pos (t := t) (by omega), Int.ediv_eq_zero_of_lt (by omega) h, Int.emod_eq_of_lt (by omega) h, List.sum_cons]
  omega
theorem Ss_sym {t b : Int} (h0 : 0 < t) (h1 : 0 < b) : Ss2 t b = Ss2 b t := by
  rcases Int.lt_trichotomy t b with h | h | h
  · exact Ss_swap h h0
  · rw [h]
  · exact (Ss_swap h h1).symm
theorem Ss_sub {t b m : Int} (hb : 0 < b) (hm : 0 ≤ m) : Ss2 t b = m + Ss2 (t - m * b) b := by
  unfold Ss2
  rw [Tm_pos (t := t) hb, Tm_pos (t := t - m * b) hb]
  have e1 : (t - m * b) / b = t / b - m := by
    rw [show t - m * b = t + (-m) * b by grind, Int.add_mul_ediv_right _ _ (by omega)]
    omega
  have e2 : (t - m * b) % b = t % b := by
    rw [show t - m * b = t + (-m) * b by grind, Int.add_mul_emod_self_right]
  rw [e1, e2]
  show t / b + _ = m + (t / b - m + _)
  omega
theorem Ss_pos {t b : Int} (h0 : 0 < t) (h1 : 0 < b) : 1 ≤ Ss2 t b := by
  have key : ∀ t b : Int, 0 < b → b ≤ t → 1 ≤ Ss2 t b := fun t b hb h => by
    unfold Ss2
    rw [Tm_pos hb]
    have h3 := mod_lt (x := t) hb
    have v := Tm_valid (t % b).toNat b (t % b) (Nat.le_refl _) h3.1 h3.2
    have q : 1 ≤ t / b := by
      have := (Int.le_ediv_iff_mul_le (c := b) (a := 1) (b := t) hb).mpr (by omega)
      exact this
    have : ∀ l : List Int, (∀ x ∈ l, 0 < x) → 0 ≤ l.sum := fun l => by
      induction l with
      | nil => exact fun _ => Int.le_refl _
      | cons x l ih =>
        intro h
        have := ih fun y hy => h y (List.mem_cons_of_mem _ hy)
        have := h x (List.mem_cons_self ..)
        rw [List.sum_cons]
        omega
    have := this _ v.all
    rw [List.sum_cons]
    omega
  by_cases h : b ≤ t
  · exact key t b h1 h
  · rw [Ss_sym h0 h1]
    exact key b t h0 (by omega)
/-- what two rows of steps begin with -/
def shr : List Int → List Int → List Int
  | x :: r, y :: q => if x = y then x :: shr r q else [min x y]
  | _, _ => []
/-- strictly between -/
def Btw (t b : Int) (u v : Int × Int) : Prop := (u.1 * b < t * u.2 ∧ t * v.2 < v.1 * b) ∨ (v.1 * b < t * v.2 ∧ t * u.2 < u.1 * b)
theorem deep_btw : ∀ (us vs : List Int) (t b : Int), (∀ w ∈ us, 0 < w) → (∀ w ∈ vs, 0 < w) → 0 < t → 0 < b → Btw t b (cv us) (cv vs) → 1 + (shr us vs).sum ≤ Ss2 t b
  | [], vs, t, b, _, _, h0, h1, _ => by
    have := Ss_pos h0 h1
    cases vs <;> (show 1 + (0 : Int) ≤ _; omega)
  | x :: r, [], t, b, _, _, h0, h1, _ => by
    have := Ss_pos h0 h1
    show 1 + (0 : Int) ≤ _
    omega
  | x :: r, y :: q, t, b, hu, hv, h0, h1, hb => by
    have hr : ∀ w ∈ r, 0 < w := fun w hw => hu w (List.mem_cons_of_mem _ hw)
    have hq : ∀ w ∈ q, 0 < w := fun w hw => hv w (List.mem_cons_of_mem _ hw)
    obtain ⟨r1, r2⟩ := cv_pos hr
    obtain ⟨q1, q2⟩ := cv_pos hq
    have hx := hu x (List.mem_cons_self ..)
    have hy := hv y (List.mem_cons_self ..)
    -- above the lesser one of both first steps
    have low : ∀ (m : Int) (w p1 p2 : Int), m ≤ w → 0 < p1 → 0 < p2 → (w * p1 + p2) * b < t * p1 → 0 < t - m * b := fun m w p1 p2 hm hp1 hp2 h => by
      have h2 : m * b * p1 ≤ w * b * p1 := Int.mul_le_mul_of_nonneg_right (Int.mul_le_mul_of_nonneg_right hm (by omega)) (by omega)
      have h3 : (w * p1 + p2) * b = w * b * p1 + p2 * b := by grind
      have h4 : 0 < p2 * b := Int.mul_pos hp2 h1
      have h5 : m * b * p1 < t * p1 := by omega
      have := Int.lt_of_mul_lt_mul_right h5 (by omega)
      omega
    show 1 + (if x = y then x :: shr r q else [min x y]).sum ≤ _
    by_cases e : x = y
    · subst e
      rw [if_pos rfl]
      have pos : 0 < t - x * b := by
        rcases hb with ⟨h, _⟩ | ⟨h, _⟩
        · exact low x x _ _ (Int.le_refl _) r1 r2 h
        · exact low x x _ _ (Int.le_refl _) q1 q2 h
      have nb : Btw b (t - x * b) (cv r) (cv q) := by
        have f : ∀ p1 p2 : Int, (x * p1 + p2) * b - t * p1 = p2 * b - (t - x * b) * p1 := fun p1 p2 => by grind
        have f1 := f (cv r).1 (cv r).2
        have f2 := f (cv q).1 (cv q).2
        rcases hb with ⟨h, h'⟩ | ⟨h, h'⟩
        · right
          have h : (x * (cv r).1 + (cv r).2) * b < t * (cv r).1 := h
          have h' : t * (cv q).1 < (x * (cv q).1 + (cv q).2) * b := h'
          rw [Int.mul_comm (cv q).1, Int.mul_comm b, Int.mul_comm b, Int.mul_comm (cv r).1]
          constructor <;> omega
        · left
          have h : (x * (cv q).1 + (cv q).2) * b < t * (cv q).1 := h
          have h' : t * (cv r).1 < (x * (cv r).1 + (cv r).2) * b := h'
          rw [Int.mul_comm (cv q).1, Int.mul_comm b, Int.mul_comm b, Int.mul_comm (cv r).1]
          constructor <;> omega
      have ih := deep_btw r q b (t - x * b) hr hq h1 pos nb
      rw [Ss_sub (m := x) h1 (by omega), Ss_sym pos h1, List.sum_cons]
      omega
    · rw [if_neg e]
      have pos : 0 < t - min x y * b := by
        rcases hb with ⟨h, _⟩ | ⟨h, _⟩
        · exact low (min x y) x _ _ (by omega) r1 r2 h
        · exact low (min x y) y _ _ (by omega) q1 q2 h
      have := Ss_pos pos h1
      rw [Ss_sub (m := min x y) h1 (by omega)]
      show 1 + (min x y + 0) ≤ _
      omega
/-! ### the ends -/
abbrev Ends := (Int × Int) × (Int × Int)
def stepR (e : Ends) (p : Bool × Int) : Ends := if p.1 = true then ((e.1.1 + p.2 * e.2.1, e.1.2 + p.2 * e.2.2), e.2) else (e.1, (e.2.1 + p.2 * e.1.1, e.2.2 + p.2 * e.1.2))
def ledR (r : List (Bool × Int)) : Ends := r.foldl stepR ((0, 1), (1, 0))
def midR (e : Ends) : Int × Int := (e.1.1 + e.2.1, e.1.2 + e.2.2)
/-- both ends stand next to one another -/
structure Adj (e : Ends) : Prop where
  d : e.2.1 * e.1.2 - e.1.1 * e.2.2 = 1
  a : 0 ≤ e.1.1
  b : 0 < e.1.2
  c : 0 < e.2.1
  z : 0 ≤ e.2.2
theorem adj0 : Adj ((0, 1), (1, 0)) := ⟨by decide, by decide, by decide, by decide, by decide⟩
theorem Adj.step {e : Ends} (h : Adj e) {p : Bool × Int} (hp : 0 ≤ p.2) : Adj (stepR e p) := by
  obtain ⟨s, m⟩ := p
  obtain ⟨⟨a, b⟩, ⟨c, d⟩⟩ := e
  obtain ⟨h1, h2, h3, h4, h5⟩ := h
  dsimp only at *
  cases s with
  | true =>
    have e1 := Int.mul_nonneg hp (show 0 ≤ c by omega)
    have e2 := Int.mul_nonneg hp h5
    refine ⟨?_, ?_, ?_, h4, h5⟩
    · show c * (b + m * d) - (a + m * c) * d = 1
      have : c * (b + m * d) - (a + m * c) * d = c * b - a * d := by grind
      omega
    · show 0 ≤ a + m * c; omega
    · show 0 < b + m * d; omega
  | false =>
    have e1 := Int.mul_nonneg hp h2
    have e2 := Int.mul_nonneg hp (show 0 ≤ b by omega)
    refine ⟨?_, h2, h3, ?_, ?_⟩
    · show (c + m * a) * b - a * (d + m * b) = 1
      have : (c + m * a) * b - a * (d + m * b) = c * b - a * d := by grind
      omega
    · show 0 < c + m * a; omega
    · show 0 ≤ d + m * b; omega
theorem adj_fold : ∀ (r : List (Bool × Int)) (e : Ends), Adj e → (∀ p ∈ r, 0 ≤ p.2) → Adj (r.foldl stepR e)
  | [], _, h, _ => h
  | p :: r, e, h, hp => adj_fold r _ (h.step (hp p (List.mem_cons_self ..))) fun q hq => hp q (List.mem_cons_of_mem _ hq)
theorem ledR_adj {s : Bool} {ws : List Int} (h : ∀ w ∈ ws, 0 < w) : Adj (ledR (alts s ws)) := adj_fold _ _ adj0 fun p hp => by have := h _ (alts_mem hp); omega
/-- the middle behind steps: both ends, taken so often -/
theorem mid_alts : ∀ (ws : List Int) (s : Bool) (e : Ends), midR ((alts s ws).foldl stepR e) = (if s = true then ((cv ws).2 * e.1.1 + (cv ws).1 * e.2.1, (cv ws).2 * e.1.2 + (cv ws).1 * e.2.2) else ((cv ws).1 * e.1.1 + (cv ws).2 * e.2.1, (cv ws).1 * e.1.2 + (cv ws).2 * e.2.2))
  | [], s, e => by
    cases s <;> (show (e.1.1 + e.2.1, e.1.2 + e.2.2) = (1 * e.1.1 + 1 * e.2.1, 1 * e.1.2 + 1 * e.2.2); simp)
  | w :: r, s, e => by
    have ih := mid_alts r (!s) (stepR e (s, w))
    show midR ((alts (!s) r).foldl stepR (stepR e (s, w))) = _
    rw [ih]
    cases s with
    | true =>
      show ((cv r).1 * (e.1.1 + w * e.2.1) + (cv r).2 * e.2.1, (cv r).1 * (e.1.2 + w * e.2.2) + (cv r).2 * e.2.2) = ((cv r).1 * e.1.1 + (w * (cv r).1 + (cv r).2) * e.2.1, (cv r).1 * e.1.2 + (w * (cv r).1 + (cv r).2) * e.2.2)
      congr 1 <;> grind
    | false =>
      show ((cv r).2 * e.1.1 + (cv r).1 * (e.2.1 + w * e.1.1), (cv r).2 * e.1.2 + (cv r).1 * (e.2.2 + w * e.1.2)) = ((w * (cv r).1 + (cv r).2) * e.1.1 + (cv r).1 * e.2.1, (w * (cv r).1 + (cv r).2) * e.1.2 + (cv r).1 * e.2.2)
      congr 1 <;> grind
theorem Rw.mid {ts : List Int} {s : Bool} {ws : List Int} (h : Rw ts s ws) : midR (ledR (alts s ws)) = (Kc ts, Jc ts) := by
  obtain ⟨h1, h2⟩ := h.val
  unfold ledR
  rw [mid_alts, h1, h2]
  cases s <;> simp
end Pv

namespace Pv
open PySem
/-! ### the simplest between, plain -/
section
variable (lo hi : Int × Int) (e : Ends)
def bg1 : Int := lo.1 * e.1.2 - e.1.1 * lo.2
def bm1 : Int := e.2.1 * lo.2 - lo.1 * e.2.2
def bg2 : Int := e.2.1 * hi.2 - hi.1 * e.2.2
def bm2 : Int := hi.1 * e.1.2 - e.1.1 * hi.2
end
structure Two (lo hi : Int × Int) : Prop where
  l0 : 0 ≤ lo.1
  l1 : 0 < lo.2
  h1 : 0 < hi.2
  lt : lo.1 * hi.2 < hi.1 * lo.2
structure Bw (lo hi : Int × Int) (e : Ends) : Prop where
  j : Adj e
  g1 : 0 ≤ bg1 lo e
  m1 : 0 < bm1 lo e
  g2 : 0 ≤ bg2 hi e
  m2 : 0 < bm2 hi e
section
variable {lo hi : Int × Int} {e : Ends}
theorem Two.h0 (t : Two lo hi) : 0 < hi.1 := by
  refine Int.lt_of_not_ge fun z => ?_
  have h1 := Int.mul_nonneg t.l0 (show 0 ≤ hi.2 by have := t.h1; omega)
  have h2 := Int.mul_le_mul_of_nonneg_right z (show 0 ≤ lo.2 by have := t.l1; omega)
  have := t.lt
  omega
theorem bw0 (t : Two lo hi) : Bw lo hi ((0, 1), (1, 0)) := by
  have h0 := t.h0
  have h1 := t.h1
  have h2 := t.l0
  have h3 := t.l1
  exact ⟨adj0, by unfold bg1; dsimp only; omega, by unfold bm1; dsimp only; omega, by unfold bg2; dsimp only; omega, by unfold bm2; dsimp only; omega⟩
/-- what the bounds come to, by the ends -/
theorem Bw.size (h : Bw lo hi e) : e.1.1 ≤ lo.1 ∧ e.1.2 ≤ lo.2 ∧ e.2.1 ≤ hi.1 ∧ e.2.2 ≤ hi.2 := by
  obtain ⟨⟨d, a0, b0, c0, z0⟩, g1, m1, g2, m2⟩ := h
  have e1 : lo.2 = e.1.2 * bm1 lo e + e.2.2 * bg1 lo e := by
    have : e.1.2 * bm1 lo e + e.2.2 * bg1 lo e = lo.2 * (e.2.1 * e.1.2 - e.1.1 * e.2.2) := by unfold bm1 bg1; grind
    rw [this, d, Int.mul_one]
  have e2 : lo.1 = e.1.1 * bm1 lo e + e.2.1 * bg1 lo e := by
    have : e.1.1 * bm1 lo e + e.2.1 * bg1 lo e = lo.1 * (e.2.1 * e.1.2 - e.1.1 * e.2.2) := by unfold bm1 bg1; grind
    rw [this, d, Int.mul_one]
  have e3 : hi.2 = e.1.2 * bg2 hi e + e.2.2 * bm2 hi e := by
    have : e.1.2 * bg2 hi e + e.2.2 * bm2 hi e = hi.2 * (e.2.1 * e.1.2 - e.1.1 * e.2.2) := by unfold bm2 bg2; grind
    rw [this, d, Int.mul_one]
  have e4 : hi.1 = e.1.1 * bg2 hi e + e.2.1 * bm2 hi e := by
    have : e.1.1 * bg2 hi e + e.2.1 * bm2 hi e = hi.1 * (e.2.1 * e.1.2 - e.1.1 * e.2.2) := by unfold bm2 bg2; grind
    rw [this, d, Int.mul_one]
  have p : ∀ x y : Int, 0 ≤ x → 0 < y → x ≤ x * y := fun x y hx hy => by
    have := Int.mul_le_mul_of_nonneg_left (show (1 : Int) ≤ y by omega) hx
    omega
  have q : ∀ x y : Int, 0 ≤ x → 0 ≤ y → 0 ≤ x * y := fun x y hx hy => Int.mul_nonneg hx hy
  have f1 := p _ _ (show 0 ≤ e.1.2 by omega) m1
  have f2 := q _ _ z0 g1
  have f3 := p _ _ a0 m1
  have f4 := q _ _ (show 0 ≤ e.2.1 by omega) g1
  have f5 := p _ _ z0 m2
  have f6 := q _ _ (show 0 ≤ e.1.2 by omega) g2
  have f7 := p _ _ (show 0 ≤ e.2.1 by omega) m2
  have f8 := q _ _ a0 g2
  omega
/-- the middle against the lower, the higher -/
theorem mid_lo (e : Ends) (lo : Int × Int) : lo.1 * (midR e).2 - (midR e).1 * lo.2 = bg1 lo e - bm1 lo e := by unfold midR bg1 bm1; grind
theorem mid_hi (e : Ends) (hi : Int × Int) : (midR e).1 * hi.2 - hi.1 * (midR e).2 = bg2 hi e - bm2 hi e := by unfold midR bg2 bm2; grind
/-- left goes on -/
def goL (lo : Int × Int) (e : Ends) : Ends := ((e.1.1 + bg1 lo e / bm1 lo e * e.2.1, e.1.2 + bg1 lo e / bm1 lo e * e.2.2), e.2)
def goR (hi : Int × Int) (e : Ends) : Ends := (e.1, (e.2.1 + bg2 hi e / bm2 hi e * e.1.1, e.2.2 + bg2 hi e / bm2 hi e * e.1.2))
theorem Bw.left (t : Two lo hi) (h : Bw lo hi e) (hc : bm1 lo e ≤ bg1 lo e) : Bw lo hi (goL lo e) ∧ 1 ≤ bg1 lo e / bm1 lo e ∧ bg1 lo (goL lo e) < bm1 lo (goL lo e) := by
  have k1 : 1 ≤ bg1 lo e / bm1 lo e := (Int.le_ediv_iff_mul_le h.m1).mpr (by omega)
  have q1 := Int.mul_ediv_add_emod (bg1 lo e) (bm1 lo e)
  have q2 := mod_lt (x := bg1 lo e) h.m1
  have hj := h.j.step (p := (true, bg1 lo e / bm1 lo e)) (by show 0 ≤ bg1 lo e / bm1 lo e; omega)
  have ej : stepR e (true, bg1 lo e / bm1 lo e) = goL lo e := rfl
  rw [ej] at hj
  have n1 : bg1 lo (goL lo e) = bg1 lo e - bg1 lo e / bm1 lo e * bm1 lo e := by
    generalize hk : bg1 lo e / bm1 lo e = k at *
    unfold goL
    rw [hk]
    unfold bg1 bm1
    grind
  have n2 : bm1 lo (goL lo e) = bm1 lo e := rfl
  have n3 : bg2 hi (goL lo e) = bg2 hi e := rfl
  have c1 : bm1 lo e * (bg1 lo e / bm1 lo e) = bg1 lo e / bm1 lo e * bm1 lo e := Int.mul_comm ..
  have n4 : 0 ≤ bg1 lo (goL lo e) := by rw [n1]; omega
  have n5 : 0 < bm2 hi (goL lo e) := by
    have w1 : (goL lo e).1.1 * lo.2 ≤ lo.1 * (goL lo e).1.2 := by
      have : bg1 lo (goL lo e) = lo.1 * (goL lo e).1.2 - (goL lo e).1.1 * lo.2 := rfl
      omega
    have hb := hj.b
    generalize (goL lo e) = g at *
    show 0 < hi.1 * g.1.2 - g.1.1 * hi.2
    have w2 : g.1.1 * lo.2 * hi.2 ≤ lo.1 * g.1.2 * hi.2 := Int.mul_le_mul_of_nonneg_right w1 (by have := t.h1; omega)
    have w3 : lo.1 * hi.2 * g.1.2 < hi.1 * lo.2 * g.1.2 := Int.mul_lt_mul_of_pos_right t.lt hb
    have w4 : g.1.1 * hi.2 * lo.2 < hi.1 * g.1.2 * lo.2 := by
      have e1 : g.1.1 * hi.2 * lo.2 = g.1.1 * lo.2 * hi.2 := by grind
      have e2 : hi.1 * g.1.2 * lo.2 = hi.1 * lo.2 * g.1.2 := by grind
      have e3 : lo.1 * g.1.2 * hi.2 = lo.1 * hi.2 * g.1.2 := by grind
      omega
    have := Int.lt_of_mul_lt_mul_right w4 (by have := t.l1; omega)
    omega
  exact ⟨⟨hj, n4, by rw [n2]; exact h.m1, by rw [n3]; exact h.g2, n5⟩, k1, by rw [n1, n2]; omega⟩
theorem Bw.right (t : Two lo hi) (h : Bw lo hi e) (hc : bm2 hi e ≤ bg2 hi e) : Bw lo hi (goR hi e) ∧ 1 ≤ bg2 hi e / bm2 hi e ∧ bg2 hi (goR hi e) < bm2 hi (goR hi e) := by
  have k1 : 1 ≤ bg2 hi e / bm2 hi e := (Int.le_ediv_iff_mul_le h.m2).mpr (by omega)
  have q1 := Int.mul_ediv_add_emod (bg2 hi e) (bm2 hi e)
  have q2 := mod_lt (x := bg2 hi e) h.m2
  have hj := h.j.step (p := (false, bg2 hi e / bm2 hi e)) (by show 0 ≤ bg2 hi e / bm2 hi e; omega)
  have ej : stepR e (false, bg2 hi e / bm2 hi e) = goR hi e := rfl
  rw [ej] at hj
  have n1 : bg2 hi (goR hi e) = bg2 hi e - bg2 hi e / bm2 hi e * bm2 hi e := by
    generalize hk : bg2 hi e / bm2 hi e = k at *
    unfold goR
    rw [hk]
    unfold bg2 bm2
    grind
  have n2 : bm2 hi (goR hi e) = bm2 hi e := rfl
  have n3 : bg1 lo (goR hi e) = bg1 lo e := rfl
  have c1 : bm2 hi e * (bg2 hi e / bm2 hi e) = bg2 hi e / bm2 hi e * bm2 hi e := Int.mul_comm ..
  have n4 : 0 ≤ bg2 hi (goR hi e) := by rw [n1]; omega
  have n5 : 0 < bm1 lo (goR hi e) := by
    have w1 : hi.1 * (goR hi e).2.2 ≤ (goR hi e).2.1 * hi.2 := by
      have : bg2 hi (goR hi e) = (goR hi e).2.1 * hi.2 - hi.1 * (goR hi e).2.2 := rfl
      omega
    have hc0 := hj.c
    have hz := hj.z
    generalize (goR hi e) = g at *
    show 0 < g.2.1 * lo.2 - lo.1 * g.2.2
    have w2 : hi.1 * g.2.2 * lo.2 ≤ g.2.1 * hi.2 * lo.2 := Int.mul_le_mul_of_nonneg_right w1 (by have := t.l1; omega)
    have w5 : 0 < g.2.1 * lo.2 := Int.mul_pos hc0 t.l1
    rcases Int.lt_or_eq_of_le hz with z | z
    · have w3 : lo.1 * hi.2 * g.2.2 < hi.1 * lo.2 * g.2.2 := Int.mul_lt_mul_of_pos_right t.lt z
      have w4 : lo.1 * g.2.2 * hi.2 < g.2.1 * lo.2 * hi.2 := by
        have e1 : lo.1 * g.2.2 * hi.2 = lo.1 * hi.2 * g.2.2 := by grind
        have e2 : hi.1 * g.2.2 * lo.2 = hi.1 * lo.2 * g.2.2 := by grind
        have e3 : g.2.1 * hi.2 * lo.2 = g.2.1 * lo.2 * hi.2 := by grind
        omega
      have := Int.lt_of_mul_lt_mul_right w4 (by have := t.h1; omega)
      omega
    · rw [← z, Int.mul_zero]
      omega
  exact ⟨⟨hj, by rw [n3]; exact h.g1, n5, n4, by rw [n2]; exact h.m2⟩, k1, by rw [n1, n2]; omega⟩
/-- how far both ends have come -/
def wide (e : Ends) : Int := e.1.1 + e.1.2 + e.2.1 + e.2.2
theorem goL_wide (h : Bw lo hi e) (k : 1 ≤ bg1 lo e / bm1 lo e) : wide e < wide (goL lo e) := by
  have h1 := Int.mul_le_mul_of_nonneg_right k (show 0 ≤ e.2.1 by have := h.j.c; omega)
  have h2 := Int.mul_nonneg (show 0 ≤ bg1 lo e / bm1 lo e by omega) h.j.z
  have := h.j.c
  unfold wide goL
  dsimp only
  omega
theorem goR_wide (h : Bw lo hi e) (k : 1 ≤ bg2 hi e / bm2 hi e) : wide e < wide (goR hi e) := by
  have h1 := Int.mul_le_mul_of_nonneg_right k (show 0 ≤ e.1.2 by have := h.j.b; omega)
  have h2 := Int.mul_nonneg (show 0 ≤ bg2 hi e / bm2 hi e by omega) h.j.a
  have := h.j.b
  unfold wide goR
  dsimp only
  omega
/-- the middle is in lowest terms -/
theorem Adj.mid (h : Adj e) : Lo (midR e) ∧ 0 < (midR e).1 := by
  obtain ⟨d, a, b, c, z⟩ := h
  refine ⟨⟨by show 0 < e.1.2 + e.2.2; omega, ?_⟩, by show 0 < e.1.1 + e.2.1; omega⟩
  have d2 : (e.1.1 + e.2.1) * e.1.2 - e.1.1 * (e.1.2 + e.2.2) = 1 := by
    have : (e.1.1 + e.2.1) * e.1.2 - e.1.1 * (e.1.2 + e.2.2) = e.2.1 * e.1.2 - e.1.1 * e.2.2 := by grind
    omega
  show Int.gcd (e.1.1 + e.2.1) (e.1.2 + e.2.2) = 1
  have k1 : (Int.gcd (e.1.1 + e.2.1) (e.1.2 + e.2.2) : Int) ∣ 1 := by
    rw [← d2]
    exact Int.dvd_sub (Int.dvd_trans (Int.gcd_dvd_left ..) (Int.dvd_mul_right ..)) (Int.dvd_trans (Int.gcd_dvd_right ..) (Int.dvd_mul_left ..))
  have := Int.le_of_dvd (by decide) k1
  have hg : 0 < Int.gcd (e.1.1 + e.2.1) (e.1.2 + e.2.2) := Int.gcd_pos_of_ne_zero_right _ (by omega)
  omega
end
/-! ### roads as data -/
def sg (b : Bool) : D := match b with | true => .str "r" | false => .str "l"
def pdR (p : Bool × Int) : D := .tuple [sg p.1, .int p.2]
abbrev rdD (r : List (Bool × Int)) : D := .tuple (r.map pdR)
theorem sg_eq (a b : Bool) : cmpD .eq (sg a) (sg b) = some (a == b) := by cases a <;> cases b <;> kernel_rfl
theorem sg_ne (a b : Bool) : cmpD .ne (sg a) (sg b) = some (a != b) := by cases a <;> cases b <;> kernel_rfl
theorem sg_in (a : Bool) : cmpD .notin (sg a) (.tuple [.str "l", .str "r"]) = some false := by cases a <;> kernel_rfl
theorem sg_str (a : Bool) : Ty.is .str (sg a) = true := by cases a <;> rfl
theorem sg_inj {a b : Bool} (h : sg a = sg b) : a = b := by
  have e := sg_eq a b
  rw [h] at e
  have e2 := sg_eq b b
  rw [e2] at e
  cases a <;> cases b <;> first | rfl | cases e
theorem pdR_inj {p q : Bool × Int} (h : pdR p = pdR q) : p = q := by
  unfold pdR at h
  injection h with h
  injection h with h1 h2
  injection h2 with h2 _
  injection h2 with h2
  exact Prod.ext (sg_inj h1) h2
theorem dk_sg (b : Bool) : dk 0 (sg b) = true := by cases b <;> decide +kernel
theorem dk_pd (p : Bool × Int) : dk 1 (pdR p) = true := by
  show ([sg p.1, .int p.2].all (dk 0)) = true
  simp [dk_sg, dk]
theorem dk_rd (r : List (Bool × Int)) : dk 2 (rdD r) = true := List.all_eq_true.mpr fun d hd => by
  obtain ⟨p, _, rfl⟩ := List.mem_map.mp hd
  exact dk_pd p
theorem rd_inj {r q : List (Bool × Int)} (h : rdD r = rdD q) : r = q := by
  have h : r.map pdR = q.map pdR := by injection h
  exact (List.map_inj_right fun x y h => pdR_inj h).mp h
theorem rd_eq (r q : List (Bool × Int)) : cmpD .eq (rdD r) (rdD q) = some (decide (r = q)) := by
  by_cases h : r = q
  · rw [decide_eq_true h, h]
    exact d_eq (dk_rd _) (dk_rd _) (by decide) rfl
  · rw [decide_eq_false h]
    exact d_eq' (dk_rd _) (dk_rd _) (by decide) fun e => h (rd_inj e)
theorem rd_ne (r q : List (Bool × Int)) : cmpD .ne (rdD r) (rdD q) = some (!decide (r = q)) := by
  by_cases h : r = q
  · rw [decide_eq_true h, h]
    exact d_ne (dk_rd _) (dk_rd _) (by decide) rfl
  · rw [decide_eq_false h]
    exact d_ne' (dk_rd _) (dk_rd _) (by decide) fun e => h (rd_inj e)
theorem pd_eq (p q : Bool × Int) : cmpD .eq (pdR p) (pdR q) = some (decide (p = q)) := by
  by_cases h : p = q
  · rw [decide_eq_true h, h]
    exact d_eq (dk_pd _) (dk_pd _) (by decide) rfl
  · rw [decide_eq_false h]
    exact d_eq' (dk_pd _) (dk_pd _) (by decide) fun e => h (pdR_inj e)
theorem zip_tailF {α : Type} (f : α → D) : ∀ xs : List α, zipD (xs.map f) ((xs.map f).drop 1) = (xs.zip xs.tail).map fun p => .tuple [f p.1, f p.2]
  | [] => rfl
  | [_] => rfl
  | x :: y :: r => by
    have := zip_tailF f (y :: r)
    show PyData.tuple [f x, f y] :: zipD ((y :: r).map f) (((y :: r).map f).drop 1) = _
    rw [this]
    rfl
theorem zip_lenF {α : Type} (xs : List α) : (xs.zip xs.tail).length ≤ xs.length := by
  rw [List.length_zip]
  omega
theorem alts_ne : ∀ {ws : List Int} {s : Bool} {p : (Bool × Int) × (Bool × Int)}, p ∈ (alts s ws).zip (alts s ws).tail → p.1.1 ≠ p.2.1
  | x :: y :: r, s, p, h => by
    rcases List.mem_cons.mp h with rfl | h
    · show s ≠ !s
      cases s <;> decide
    · exact alts_ne (ws := y :: r) (s := !s) h
  | [_], _, p, h => by cases h
  | [], _, p, h => by cases h
/-- a def that compares ratios, of any size -/
theorem less_okG {P : List Fn} {gl : Gls} {n j : Nat} {p q : Int × Int} (hP : P[j]? = some fLess) (h1 : p.1.natAbs < BIG) (h2 : p.2.natAbs < BIG) (h3 : q.1.natAbs < BIG) (h4 : q.2.natAbs < BIG) : run P gl (n + 1) j [.v (pr p), .v (pr q)] = .ret (.pv (.bool (decide (p.1 * q.2 < q.1 * p.2)))) none := by
  rw [run_succ hP, if_pos ⟨rfl, rfl⟩]
  simp [fLess, prx0, prx1, b_mul h1 h4, b_mul h3 h2]
/-- sizes along a road -/
def Sz4 (m : Nat) (e : Ends) : Prop := e.1.1.natAbs < 2 ^ m ∧ e.1.2.natAbs < 2 ^ m ∧ e.2.1.natAbs < 2 ^ m ∧ e.2.2.natAbs < 2 ^ m
theorem Sz4.mono {m k : Nat} {e : Ends} (h : Sz4 m e) (hk : m ≤ k) : Sz4 k e := ⟨sz_le h.1 hk, sz_le h.2.1 hk, sz_le h.2.2.1 hk, sz_le h.2.2.2 hk⟩
theorem Sz4.step {m B : Nat} {e : Ends} {p : Bool × Int} (h : Sz4 m e) (hp : p.2.natAbs < 2 ^ B) : Sz4 (m + B + 1) (stepR e p) := by
  obtain ⟨h1, h2, h3, h4⟩ := h
  have key : ∀ x y : Int, x.natAbs < 2 ^ m → y.natAbs < 2 ^ m → (x + p.2 * y).natAbs < 2 ^ (m + B + 1) := fun x y hx hy => by
    have e1 : (p.2 * y).natAbs < 2 ^ (m + B) := by
      rw [Int.natAbs_mul, Nat.add_comm m B, Nat.pow_add]
      exact Nat.mul_lt_mul'' hp hy
    have e2 : 2 ^ m ≤ 2 ^ (m + B) := Nat.pow_le_pow_right (by decide) (by omega)
    rw [Nat.pow_succ]
    omega
  have w : ∀ x : Int, x.natAbs < 2 ^ m → x.natAbs < 2 ^ (m + B + 1) := fun x hx => sz_le hx (by omega)
  unfold stepR
  split
  · exact ⟨key _ _ h1 h3, key _ _ h2 h4, w _ h3, w _ h4⟩
  · exact ⟨w _ h1, w _ h2, key _ _ h3 h1, key _ _ h4 h2⟩
theorem Sz4.fold {B : Nat} : ∀ (r : List (Bool × Int)) (m : Nat) (e : Ends), Sz4 m e → (∀ p ∈ r, p.2.natAbs < 2 ^ B) → Sz4 (m + (B + 1) * r.length) (r.foldl stepR e)
  | [], m, e, h, _ => h
  | p :: r, m, e, h, hp => by
    have := Sz4.fold r (m + B + 1) (stepR e p) (h.step (hp p (List.mem_cons_self ..))) fun q hq => hp q (List.mem_cons_of_mem _ hq)
    rw [show m + (B + 1) * (p :: r).length = m + B + 1 + (B + 1) * r.length by rw [List.length_cons, Nat.mul_succ]; omega]
    exact this
theorem Sz4.big {m : Nat} {e : Ends} (h : Sz4 m e) (hm : m ≤ 1000000) : e.1.1.natAbs < BIG ∧ e.1.2.natAbs < BIG ∧ e.2.1.natAbs < BIG ∧ e.2.2.natAbs < BIG := ⟨big_of h.1 hm, big_of h.2.1 hm, big_of h.2.2.1 hm, big_of h.2.2.2 hm⟩
end Pv

namespace Pv
open PySem
/-! ### a body in pieces, pairs, both of two -/
def takeS : Nat → Ss → Ss
  | 0, _ => .nil
  | _ + 1, .nil => .nil
  | k + 1, .cons s r => .cons s (takeS k r)
def dropS : Nat → Ss → Ss
  | 0, s => s
  | _ + 1, .nil => .nil
  | k + 1, .cons _ r => dropS k r
def atS (k : Nat) (s : Ss) : S := match dropS k s with
  | .cons s _ => s
  | .nil => .whl (.e (.k (.bool false))) .nil
def elseS : S → Ss
  | .ite _ _ b => b
  | _ => .nil
theorem ss_split {C : Cfg} : ∀ (k : Nat) (s : Ss) (ρ : Env), evSs C s ρ = (evSs C (takeS k s) ρ).bind fun ρ => evSs C (dropS k s) ρ
  | 0, _, _ => rfl
  | _ + 1, .nil, _ => rfl
  | k + 1, .cons s r, ρ => by
    show (evS C s ρ).bind (fun ρ => evSs C r ρ) = ((evS C s ρ).bind fun ρ => evSs C (takeS k r) ρ).bind fun ρ => evSs C (dropS k r) ρ
    cases evS C s ρ with
    | nx ρ1 => exact ss_split k r ρ1
    | _ => rfl
theorem lcGo_2f {i j : Nat} {ev : Env → R (Option D)} {ρ : Env} {α : Type} {f1 f2 g : α → D} {c : α → Bool} (hi : i < ρ.length) (hj : j < ρ.length) (hij : i ≠ j) (hp : plainAt ρ [i, j] = true) : ∀ {xs : List α}, (∀ p ∈ xs, ev ((ρ.set i (some (.v (f1 p)))).set j (some (.v (f2 p)))) = .ok (if c p = true then some (g p) else none) ((ρ.set i (some (.v (f1 p)))).set j (some (.v (f2 p))))) → lcGo (lcTurn (.t [i, j]) ev) (xs.map fun p => .tuple [f1 p, f2 p]) ρ = .ok ((xs.filter c).map g) ρ
  | [], _ => rfl
  | p :: r, h => by
    show (lcTurn (.t [i, j]) ev (.tuple [f1 p, f2 p]) ρ).bind _ = _
    rw [lcTurn_2 hi hj hij hp (h p (List.mem_cons_self ..)), R.bind_ok, lcGo_2f hi hj hij hp fun q hq => h q (List.mem_cons_of_mem _ hq), List.filter_cons]
    by_cases z : c p = true
    · rw [if_pos z, if_pos z]; rfl
    · rw [if_neg z, if_neg z]; rfl
theorem pr_inj' {x y : Int × Int} (h : pr x = pr y) : x = y := by
  have h : (PyData.tuple [.int x.1, .int x.2]) = .tuple [.int y.1, .int y.2] := h
  injection h with h
  injection h with h1 h2
  injection h2 with h2 _
  injection h1 with h1
  injection h2 with h2
  exact Prod.ext h1 h2
theorem pr_ne' (x y : Int × Int) : cmpD .ne (pr x) (pr y) = some (!decide (x = y)) := by
  by_cases h : x = y
  · rw [decide_eq_true h]
    exact d_ne (k := 1) rfl rfl (by decide) (congrArg pr h)
  · rw [decide_eq_false h]
    exact d_ne' (k := 1) rfl rfl (by decide) fun e => h (pr_inj' e)
theorem pr_eq' (x y : Int × Int) : cmpD .eq (pr x) (pr y) = some (decide (x = y)) := by
  by_cases h : x = y
  · rw [decide_eq_true h]
    exact d_eq (k := 1) rfl rfl (by decide) (congrArg pr h)
  · rw [decide_eq_false h]
    exact d_eq' (k := 1) rfl rfl (by decide) fun e => h (pr_inj' e)
theorem zip_mapD {α : Type} (f g : α → D) : ∀ xs : List α, zipD (xs.map f) (xs.map g) = xs.map fun q => .tuple [f q, g q]
  | [] => rfl
  | x :: r => by
    show PyData.tuple [f x, g x] :: zipD (r.map f) (r.map g) = _
    rw [zip_mapD f g r]
    rfl
end Pv

namespace Pv
open PySem
/-! ### ranges as ints, divisions of any sign -/
def irng (a : Int) (n : Nat) : List Int := (List.range n).map fun (k : Nat) => a + k
theorem irng_len (a : Int) (n : Nat) : (irng a n).length = n := by unfold irng; simp
theorem mem_irng {a x : Int} {n : Nat} : x ∈ irng a n ↔ a ≤ x ∧ x < a + n := by
  unfold irng
  rw [List.mem_map]
  constructor
  · rintro ⟨k, hk, rfl⟩
    have := List.mem_range.mp hk
    omega
  · intro h
    exact ⟨(x - a).toNat, List.mem_range.mpr (by omega), by omega⟩
theorem irng_succ (a : Int) (n : Nat) : irng a (n + 1) = a :: irng (a + 1) n := by
  unfold irng
  rw [List.range_succ_eq_map, List.map_cons, List.map_map]
  congr 1
  · simp
  · refine List.map_congr_left fun k _ => ?_
    show a + ((k + 1 : Nat) : Int) = a + 1 + k
    omega
theorem rng_ints : ∀ (n : Nat) (a : Int), rangeD a n 1 = (irng a n).map .int
  | 0, _ => rfl
  | n + 1, a => by
    rw [irng_succ]
    show PyData.int a :: rangeD (a + 1) n 1 = _
    rw [rng_ints n (a + 1)]
    rfl
theorem irng_get {a : Int} {n k : Nat} {x : Int} (h : (irng a n)[k]? = some x) : k < n ∧ x = a + k := by
  unfold irng at h
  rw [List.getElem?_map] at h
  obtain ⟨q, hq, rfl⟩ := Option.map_eq_some_iff.mp h
  rw [List.getElem?_eq_some_iff] at hq
  obtain ⟨h1, h2⟩ := hq
  simp at h1 h2
  subst h2
  exact ⟨h1, rfl⟩
theorem bg {i : Int} {m : Nat} (h : i.natAbs < 2 ^ m) (hm : m ≤ 5000 := by decide) : i.natAbs < BIG := big_of h (by omega)
theorem fd_any {x y : Int} (h : y ≠ 0) (h2 : y.natAbs < 2 ^ 5000) : binD .fdiv (.int x) (.int y) = some (.int (x.fdiv y)) := by
  rcases Int.lt_or_le 0 y with c | c
  · rw [b_fdiv c (DIVB_of h2 (by decide)), Int.fdiv_eq_ediv_of_nonneg _ (by omega)]
  · have e : ¬ (0 < y ∧ y.natAbs < DIVB) := fun z => by omega
    show (if 0 < y ∧ y.natAbs < DIVB then some (PyData.int (x / y)) else if y < 0 ∧ y.natAbs < DIVB then some (.int (x.fdiv y)) else none) = _
    rw [if_neg e, if_pos ⟨by omega, DIVB_of h2 (by decide)⟩]
theorem fd_ex {x y k : Int} (h : y ≠ 0) (h2 : y.natAbs < 2 ^ 5000) (e : x = y * k) : binD .fdiv (.int x) (.int y) = some (.int k) := by
  rw [fd_any h h2, e, Int.mul_fdiv_cancel_left _ h]
theorem fd_p {x y : Int} (h : 0 < y) (h2 : y.natAbs < 2 ^ 5000) : binD .fdiv (.int x) (.int y) = some (.int (x / y)) := b_fdiv h (DIVB_of h2 (by decide))
theorem md_ex {x y : Int} (h : y ≠ 0) (e : y ∣ x) : binD .mod (.int x) (.int y) = some (.int 0) := by
  show (if 0 < y then some (PyData.int (x % y)) else if y < 0 then some (.int (x.fmod y)) else none) = _
  rcases Int.lt_or_le 0 y with c | c
  · rw [if_pos c, Int.emod_eq_zero_of_dvd e]
  · rw [if_neg (by omega), if_pos (by omega), Int.fmod_eq_zero_of_dvd e]
theorem md_no {x y : Int} (h : y ≠ 0) (e : ¬ y ∣ x) : ∃ r : Int, r ≠ 0 ∧ binD .mod (.int x) (.int y) = some (.int r) := by
  rcases Int.lt_or_le 0 y with c | c
  · exact ⟨x % y, fun z => e (Int.dvd_of_emod_eq_zero z), if_pos c⟩
  · exact ⟨x.fmod y, fun z => e (Int.dvd_of_fmod_eq_zero z), by
      show (if 0 < y then some (PyData.int (x % y)) else if y < 0 then some (.int (x.fmod y)) else none) = _
      rw [if_neg (by omega), if_pos (by omega)]⟩
theorem mu_s {x y : Int} (h1 : x.natAbs < 2 ^ 5000) (h2 : y.natAbs < 2 ^ 5000) : binD .mul (.int x) (.int y) = some (.int (x * y)) := b_mul (bg h1) (bg h2)
/-- a list comprehension over a range with a clause -/
theorem lc_rng {C : Cfg} {i : Nat} {elt : E} {es : Es} {cd : T} {ρ : Env} {ds : List D} {lo : Int} {m : Nat} {g : Int → D} {c : Int → Bool} (hi : i < ρ.length) (hp : plainAt ρ [i] = true) (hl : m ≤ 1000000) (ha : evA C es ρ = .ok ds ρ) (h2 : rngOf ds = some (lo, m, 1))
    (hc : ∀ x, lo ≤ x → x < lo + m → evT C cd (ρ.set i (some (.v (.int x)))) = .ok (c x) (ρ.set i (some (.v (.int x)))))
    (he : ∀ x, lo ≤ x → x < lo + m → c x = true → evE C elt (ρ.set i (some (.v (.int x)))) = .ok (.pv (g x)) (ρ.set i (some (.v (.int x))))) : evE C (.lc elt (.n i) (.rng es) cd) ρ = .ok (.fr (((irng lo m).filter c).map g)) ρ :=
  lc_flt (f := .int) hi hp (by rw [irng_len]; exact hl) (by rw [i_rngA ha h2, rng_ints]) (fun x hx => hc x (mem_irng.mp hx).1 (mem_irng.mp hx).2) fun x hx z => he x (mem_irng.mp hx).1 (mem_irng.mp hx).2 z
end Pv

namespace Pv
open PySem
/-! ### loops that gather, and pairs in order -/
section
variable {T : Nat → Bool} {C : Cfg} {b : Ss}
/-- a loop over ints that puts what it finds behind a list -/
theorem for_hits {i : Nat} {it : It} {ns : List Int} {ρ ρ1 : Env} (E : List D → Env) (c : Int → Bool) (g : Int → D) (ok : okSs T b = true) (hit : evI C it ρ = .ok (ns.map PyData.int) ρ1) (h0 : Le T (E []) ρ1)
    (body : ∀ (k : Nat) (x : Int), ns[k]? = some x → ∀ ys : List D, ys.length ≤ k → ∃ ρ1, ((putT (E ys) (.n i) (.int x)).toS fun _ ρ => evSs C b ρ) = .nx ρ1 ∧ Le T (E (if c x = true then ys ++ [g x] else ys)) ρ1) :
    ∃ ρ', evS C (.for_ (.n i) it b) ρ = .nx ρ' ∧ Le T (E ((ns.filter c).map g)) ρ' := by
  obtain ⟨ρ', e, h⟩ := for_seq (T := T) (fun k => E (((ns.take k).filter c).map g)) ok hit h0 fun k x hx => by
    rw [List.getElem?_map] at hx
    obtain ⟨y, hy, rfl⟩ := Option.map_eq_some_iff.mp hx
    obtain ⟨ρ1, e, h⟩ := body k y hy (((ns.take k).filter c).map g) (by
      rw [List.length_map]
      exact Nat.le_trans (List.length_filter_le ..) (by rw [List.length_take]; omega))
    refine ⟨ρ1, e, ?_⟩
    rw [List.take_add_one, hy, Option.toList_some, List.filter_append, List.map_append]
    by_cases z : c y = true
    · rw [if_pos z] at h
      rw [List.filter_cons, if_pos z]
      exact h
    · rw [if_neg z] at h
      rw [List.filter_cons, if_neg z]
      simpa using h
  rw [List.length_map, List.take_length] at h
  exact ⟨ρ', e, h⟩
/-- a loop over ints that counts -/
theorem for_count {i : Nat} {it : It} {ns : List Int} {ρ ρ1 : Env} (E : Int → Env) (c : Int → Bool) (ok : okSs T b = true) (hit : evI C it ρ = .ok (ns.map PyData.int) ρ1) (h0 : Le T (E 0) ρ1)
    (body : ∀ (k : Nat) (x : Int), ns[k]? = some x → ∀ m : Int, ∃ ρ1, ((putT (E m) (.n i) (.int x)).toS fun _ ρ => evSs C b ρ) = .nx ρ1 ∧ Le T (E (m + if c x = true then 1 else 0)) ρ1) :
    ∃ ρ', evS C (.for_ (.n i) it b) ρ = .nx ρ' ∧ Le T (E ((ns.filter c).length : Nat)) ρ' := by
  obtain ⟨ρ', e, h⟩ := for_seq (T := T) (fun k => E (((ns.take k).filter c).length : Nat)) ok hit h0 fun k x hx => by
    rw [List.getElem?_map] at hx
    obtain ⟨y, hy, rfl⟩ := Option.map_eq_some_iff.mp hx
    obtain ⟨ρ1, e, h⟩ := body k y hy (((ns.take k).filter c).length : Nat)
    refine ⟨ρ1, e, ?_⟩
    rw [List.take_add_one, hy, Option.toList_some, List.filter_append, List.length_append]
    by_cases z : c y = true
    · rw [if_pos z] at h
      rw [List.filter_cons, if_pos z]
      exact h
    · rw [if_neg z] at h
      rw [List.filter_cons, if_neg z]
      simpa using h
  rw [List.length_map, List.take_length] at h
  exact ⟨ρ', e, h⟩
end
/-- ascending pairs are sorted -/
theorem sortP_asc : ∀ {ps : List (Int × Int)}, ps.Pairwise (fun p q => p.1 < q.1) → sortP ps = ps
  | [], _ => rfl
  | p :: r, h => by
    obtain ⟨h1, h2⟩ := List.pairwise_cons.mp h
    show insP p (sortP r) = _
    rw [sortP_asc h2]
    cases r with
    | nil => rfl
    | cons q r =>
      have := h1 q List.mem_cons_self
      show (if leP p q = true then p :: q :: r else _) = _
      rw [if_pos (by unfold leP; simp [this])]
theorem pairs_map : ∀ ps : List (Int × Int), pairsOf (ps.map pr) = some ps
  | [] => rfl
  | p :: r => by
    show (pairsOf (r.map pr)).map _ = _
    rw [pairs_map r]
    rfl
theorem sortD_pairs {ps : List (Int × Int)} (h : ps.Pairwise fun p q => p.1 < q.1) : sortD (ps.map pr) = some (.list (ps.map pr)) := by
  cases ps with
  | nil => rfl
  | cons p r =>
    show (pairsOf ((p :: r).map pr)).map _ = _
    rw [pairs_map]
    show some (PyData.list ((sortP (p :: r)).map prD)) = _
    rw [sortP_asc h]
    rfl
theorem irng_asc (a : Int) (n : Nat) : (irng a n).Pairwise (· < ·) := by
  unfold irng
  rw [List.pairwise_map]
  exact (List.pairwise_lt_range).imp fun {x y} h => by omega
theorem dk_prs (ps : List (Int × Int)) : dk 2 (.tuple (ps.map pr)) = true := List.all_eq_true.mpr fun d hd => by
  obtain ⟨p, _, rfl⟩ := List.mem_map.mp hd
  rfl
theorem dk_prl (ps : List (Int × Int)) : dk 2 (.list (ps.map pr)) = true := List.all_eq_true.mpr fun d hd => by
  obtain ⟨p, _, rfl⟩ := List.mem_map.mp hd
  rfl
theorem any_pr (a : Int × Int) : ∀ ps : List (Int × Int), ((ps.map pr).any fun y => PyData.eqv y (pr a)) = decide (a ∈ ps)
  | [] => rfl
  | p :: r => by
    rw [List.map_cons, List.any_cons, any_pr a r]
    have e := dk_eqv 1 (pr p) (pr a) rfl rfl
    by_cases h : a = p
    · subst h
      rw [e.mpr rfl]
      simp
    · have : PyData.eqv (pr p) (pr a) = false := by
        cases z : PyData.eqv (pr p) (pr a) with
        | false => rfl
        | true => exact absurd (pr_inj' (e.mp z)).symm h
      rw [this]
      simp [h]
theorem pr_in_t (a : Int × Int) (ps : List (Int × Int)) : cmpD .isin (pr a) (.tuple (ps.map pr)) = some (decide (a ∈ ps)) := by
  show (if shp (pr a) = true ∧ shp (.tuple (ps.map pr)) = true then _ else none) = _
  rw [if_pos ⟨dk_shp (k := 1) rfl (by decide), dk_shp (dk_prs ps) (by decide)⟩, any_pr]
theorem pr_notin_t (a : Int × Int) (ps : List (Int × Int)) : cmpD .notin (pr a) (.tuple (ps.map pr)) = some (!decide (a ∈ ps)) := by
  show (if shp (pr a) = true ∧ shp (.tuple (ps.map pr)) = true then _ else none) = _
  rw [if_pos ⟨dk_shp (k := 1) rfl (by decide), dk_shp (dk_prs ps) (by decide)⟩, any_pr]
end Pv
namespace Pv
theorem cop_dvd {x y z : Int} (h : x ∣ y * z) (c : Int.gcd x y = 1) : x ∣ z := by
  rw [← Int.natAbs_dvd_natAbs] at h ⊢
  rw [Int.natAbs_mul] at h
  exact Nat.Coprime.dvd_of_dvd_mul_left c h
theorem cop_mul {x y b : Int} (c : Int.gcd x y = 1) (h1 : x ∣ b) (h2 : y ∣ b) : x * y ∣ b := by
  rw [← Int.natAbs_dvd_natAbs] at h1 h2 ⊢
  rw [Int.natAbs_mul]
  exact Nat.Coprime.mul_dvd_of_dvd_of_dvd c h1 h2
end Pv
namespace Pv
open PySem
section
variable {T : Nat → Bool} {C : Cfg} {b : Ss}
/-- a for loop that ends the def at the first that fits -/
theorem for_find {t : Tg} {it : It} {xs : List D} {ρ ρ1 : Env} (E : Env) (Q : D → Bool) (v : Val) (ok : okSs T b = true) (hit : evI C it ρ = .ok xs ρ1) (h0 : Le T E ρ1)
    (body : ∀ x ∈ xs, (Q x = true → ∃ ρ1, ((putT E t x).toS fun _ ρ => evSs C b ρ) = .ret v ρ1) ∧ (Q x = false → ∃ ρ1, ((putT E t x).toS fun _ ρ => evSs C b ρ) = .nx ρ1 ∧ Le T E ρ1)) :
    (xs.any Q = true ∧ ∃ ρ', evS C (.for_ t it b) ρ = .ret v ρ') ∨ (xs.any Q = false ∧ ∃ ρ', evS C (.for_ t it b) ρ = .nx ρ' ∧ Le T E ρ') := by
  have key : ∀ (ys : List D) (ρ : Env), (∀ y ∈ ys, y ∈ xs) → Le T E ρ → (ys.any Q = true ∧ ∃ ρ', forGo (fun x ρ => (putT ρ t x).toS fun _ ρ => evSs C b ρ) ys ρ = .ret v ρ') ∨ (ys.any Q = false ∧ ∃ ρ', forGo (fun x ρ => (putT ρ t x).toS fun _ ρ => evSs C b ρ) ys ρ = .nx ρ' ∧ Le T E ρ') := fun ys => by
    induction ys with
    | nil => exact fun ρ _ hl => .inr ⟨rfl, ρ, rfl, hl⟩
    | cons y r ih =>
      intro ρ hm hl
      have step := LeR.toS (leR_putT t y hl) (f := fun _ ρ => evSs C b ρ) (f' := fun _ ρ => evSs C b ρ) fun _ _ _ h => leSs b (CLe.refl C) ok h
      obtain ⟨b1, b2⟩ := body y (hm y List.mem_cons_self)
      cases z : Q y with
      | true =>
        obtain ⟨ρ1, e⟩ := b1 z
        rw [e] at step
        generalize hq : ((putT ρ t y).toS fun _ ρ => evSs C b ρ) = r' at step
        cases step with
        | ret _ h3 =>
          rename_i ρ2
          refine .inl ⟨by rw [List.any_cons, z]; rfl, ρ2, ?_⟩
          unfold forGo
          rw [hq]
      | false =>
        obtain ⟨ρ1, e, h1⟩ := b2 z
        rw [e] at step
        generalize hq : ((putT ρ t y).toS fun _ ρ => evSs C b ρ) = r' at step
        cases step with
        | nx h3 =>
          rename_i ρ2
          rcases ih ρ2 (fun w hw => hm w (List.mem_cons_of_mem _ hw)) (h1.trans h3) with ⟨a1, ρ', e'⟩ | ⟨a1, ρ', e', l'⟩
          · refine .inl ⟨by rw [List.any_cons, z, a1]; rfl, ρ', ?_⟩
            unfold forGo
            rw [hq]
            exact e'
          · refine .inr ⟨by rw [List.any_cons, z, a1]; rfl, ρ', ?_, l'⟩
            unfold forGo
            rw [hq]
            exact e'
  have e0 : evS C (.for_ t it b) ρ = forGo (fun x ρ => (putT ρ t x).toS fun _ ρ => evSs C b ρ) xs ρ1 := by
    show (evI C it ρ).toS _ = _
    rw [hit]
    rfl
  rw [e0]
  exact key xs ρ1 (fun _ h => h) h0
end
theorem enumD_get : ∀ (xs : List D) (i k : Nat) (x : D), (enumD i xs)[k]? = some x ↔ ∃ y, xs[k]? = some y ∧ x = .tuple [.int ((i + k : Nat) : Int), y]
  | [], i, k, x => by simp [enumD]
  | y :: r, i, 0, x => by
    simp only [enumD, List.getElem?_cons_zero, Option.some.injEq, Nat.add_zero]
    exact ⟨fun h => ⟨y, rfl, h.symm⟩, fun ⟨_, h1, h2⟩ => by rw [h2, ← h1]⟩
  | y :: r, i, k + 1, x => by
    simp only [enumD, List.getElem?_cons_succ]
    rw [enumD_get r (i + 1) k x, show i + 1 + k = i + (k + 1) by omega]
theorem enumD_mem {xs : List D} {x : D} : x ∈ enumD 0 xs ↔ ∃ (k : Nat) (y : D), xs[k]? = some y ∧ x = .tuple [.int (k : Int), y] := by
  rw [List.mem_iff_getElem?]
  constructor
  · rintro ⟨k, h⟩
    obtain ⟨y, h1, h2⟩ := (enumD_get xs 0 k x).mp h
    rw [Nat.zero_add] at h2
    exact ⟨k, y, h1, h2⟩
  · rintro ⟨k, y, h1, h2⟩
    exact ⟨k, (enumD_get xs 0 k x).mpr ⟨y, h1, by rw [Nat.zero_add]; exact h2⟩⟩
theorem irng_snoc (a : Int) (n : Nat) : irng a (n + 1) = irng a n ++ [a + n] := by
  unfold irng
  rw [List.range_succ, List.map_append]
  rfl
end Pv
namespace Lw
open Pv PySem
def tp (i : Nat) : Stmt := PySem.Challenge.pw_ratiohouse_k64_whole_two_parts.main.body.getD i (.Pass ⟨0, 0, 0, 0⟩)
/-- 0 is_integer: 0=thing -/
def f_is_integer : Fn := ⟨1, 1, (.cons (.ret (.and (.isi (.v 0) [.int]) (.not (.isi (.v 0) [.bool]))))
 .nil)⟩
def d_is_integer : Dt := ⟨"is_integer", tp 2, ["thing"], ["thing"], f_is_integer, none, false⟩
theorem b_is_integer : d_is_integer.Bi := fun _ _ _ _ _ _ us hl => match us, hl with | [_], _ => rfl
/-- 1 is_within: 0=thing 1=low 2=high -/
def f_is_within : Fn := ⟨3, 3, (.cons (.ret (.and (.call 0 (.cons (.v 0) .nil)) (.chain .le .le (.v 1) (.v 0) (.v 2))))
 .nil)⟩
def d_is_within : Dt := ⟨"is_within", tp 3, ["thing", "low", "high"], ["thing", "low", "high"], f_is_within, none, false⟩
theorem b_is_within : d_is_within.Bi := fun _ _ _ _ _ _ us hl => match us, hl with | [_, _, _], _ => rfl
/-- 2 is_sized: 0=thing 1=low 2=high -/
def f_is_sized : Fn := ⟨3, 3, (.cons (.ret (.and (.isi (.v 0) [.tup]) (.chain .le .le (.v 1) (.b1 .len (.v 0)) (.v 2))))
 .nil)⟩
def d_is_sized : Dt := ⟨"is_sized", tp 4, ["thing", "low", "high"], ["thing", "low", "high"], f_is_sized, none, false⟩
theorem b_is_sized : d_is_sized.Bi := fun _ _ _ _ _ _ us hl => match us, hl with | [_, _, _], _ => rfl
/-- 3 are_integers: 0=thing 1=low 2=high 3=one -/
def f_are_integers_c1 : E := (.lc (.call 0 (.cons (.v 3) .nil)) (.n 3) (.of (.v 0)) .yes)
@[simp] theorem isV_f_are_integers_c1 : isV f_are_integers_c1 = none := rfl
@[simp] theorem nop_f_are_integers_c1 : isNop f_are_integers_c1 = false := rfl
def f_are_integers : Fn := ⟨3, 4, (.cons (.ret (.and (.call 2 (.cons (.v 0) (.cons (.v 1) (.cons (.v 2) .nil)))) (.b1 .all f_are_integers_c1)))
 .nil)⟩
def d_are_integers : Dt := ⟨"are_integers", tp 5, ["thing", "low", "high", "one"], ["thing", "low", "high"], f_are_integers, none, false⟩
theorem b_are_integers : d_are_integers.Bi := fun _ _ _ _ _ _ us hl => match us, hl with | [_, _, _], _ => rfl
/-- 4 common: 0=one 1=other -/
def f_common_b1 : Ss := (.cons (.par [0, 1] (.cons (.v 1) (.cons (.bin .mod (.v 0) (.v 1)) .nil)))
 .nil)
def f_common_l1 : S := (.whl (.e (.cmp .gt (.v 1) (.k (.int 0)))) f_common_b1)
def f_common : Fn := ⟨2, 2, (.cons (.par [0, 1] (.cons (.b1 .abs (.v 0)) (.cons (.b1 .abs (.v 1)) .nil)))
 (.cons f_common_l1
 (.cons (.retv 0)
 .nil)))⟩
def d_common : Dt := ⟨"common", tp 6, ["one", "other"], ["one", "other"], f_common, none, false⟩
theorem b_common : d_common.Bi := fun _ _ _ _ _ _ us hl => match us, hl with | [_, _], _ => rfl
/-- 5 is_ratio: 0=thing 1=one -/
def f_is_ratio_c1 : E := (.lc (.call 0 (.cons (.v 1) .nil)) (.n 1) (.of (.v 0)) .yes)
@[simp] theorem isV_f_is_ratio_c1 : isV f_is_ratio_c1 = none := rfl
@[simp] theorem nop_f_is_ratio_c1 : isNop f_is_ratio_c1 = false := rfl
def f_is_ratio : Fn := ⟨1, 2, (.cons (.ite (.or (.not (.e (.call 2 (.cons (.v 0) (.cons (.k (.int 2)) (.cons (.k (.int 2)) .nil)))))) (.not (.e (.b1 .all f_is_ratio_c1))))
 (.cons (.ret (.k (.bool false)))
 .nil)
 .nil)
 (.cons (.ite (.or (.e (.cmp .ge (.b1 .abs (.ixv 0 (.k (.int 0)))) (.g 0))) (.not (.e (.chain .lt .lt (.k (.int 0)) (.ixv 0 (.k (.int 1))) (.g 0)))))
 (.cons (.ret (.k (.bool false)))
 .nil)
 .nil)
 (.cons (.ret (.cmp .eq (.call 4 (.cons (.ixv 0 (.k (.int 0))) (.cons (.ixv 0 (.k (.int 1))) .nil))) (.k (.int 1))))
 .nil)))⟩
def d_is_ratio : Dt := ⟨"is_ratio", tp 7, ["thing", "one"], ["thing"], f_is_ratio, none, false⟩
theorem b_is_ratio : d_is_ratio.Bi := fun _ _ _ _ _ _ us hl => match us, hl with | [_], _ => rfl
/-- 6 check_ratio: 0=thing -/
def f_check_ratio : Fn := ⟨1, 1, (.cons (.ite (.not (.e (.call 5 (.cons (.v 0) .nil))))
 (.cons (.raise 3)
 .nil)
 .nil)
 .nil)⟩
def d_check_ratio : Dt := ⟨"check_ratio", tp 16, ["thing"], ["thing"], f_check_ratio, none, false⟩
theorem b_check_ratio : d_check_ratio.Bi := fun _ _ _ _ _ _ us hl => match us, hl with | [_], _ => rfl
/-- 7 made: 0=top 1=bottom 2=part -/
def f_made : Fn := ⟨2, 3, (.cons (.asg (.n 2) (.call 4 (.cons (.v 0) (.cons (.v 1) .nil))))
 (.cons (.asg (.n 2) (.ife (.e (.cmp .gt (.v 1) (.k (.int 0)))) (.v 2) (.bin .sub (.k (.int 0)) (.v 2))))
 (.cons (.ret (.tup (.cons (.bin .fdiv (.v 0) (.v 2)) (.cons (.bin .fdiv (.v 1) (.v 2)) .nil))))
 .nil)))⟩
def d_made : Dt := ⟨"made", tp 17, ["top", "bottom", "part"], ["top", "bottom"], f_made, none, false⟩
theorem b_made : d_made.Bi := fun _ _ _ _ _ _ us hl => match us, hl with | [_, _], _ => rfl
/-- 8 plus: 0=one 1=other -/
def f_plus : Fn := ⟨2, 2, (.cons (.ret (.call 7 (.cons (.bin .add (.bin .mul (.ixv 0 (.k (.int 0))) (.ixv 1 (.k (.int 1)))) (.bin .mul (.ixv 1 (.k (.int 0))) (.ixv 0 (.k (.int 1))))) (.cons (.bin .mul (.ixv 0 (.k (.int 1))) (.ixv 1 (.k (.int 1)))) .nil))))
 .nil)⟩
def d_plus : Dt := ⟨"plus", tp 18, ["one", "other"], ["one", "other"], f_plus, none, false⟩
theorem b_plus : d_plus.Bi := fun _ _ _ _ _ _ us hl => match us, hl with | [_, _], _ => rfl
/-- 9 minus: 0=one 1=other -/
def f_minus : Fn := ⟨2, 2, (.cons (.ret (.call 7 (.cons (.bin .sub (.bin .mul (.ixv 0 (.k (.int 0))) (.ixv 1 (.k (.int 1)))) (.bin .mul (.ixv 1 (.k (.int 0))) (.ixv 0 (.k (.int 1))))) (.cons (.bin .mul (.ixv 0 (.k (.int 1))) (.ixv 1 (.k (.int 1)))) .nil))))
 .nil)⟩
def d_minus : Dt := ⟨"minus", tp 19, ["one", "other"], ["one", "other"], f_minus, none, false⟩
theorem b_minus : d_minus.Bi := fun _ _ _ _ _ _ us hl => match us, hl with | [_, _], _ => rfl
/-- 10 summed: 0=many 1=found 2=one -/
def f_summed_b1 : Ss := (.cons (.asg (.n 1) (.call 8 (.cons (.v 1) (.cons (.v 2) .nil))))
 .nil)
def f_summed_l1 : S := (.for_ (.n 2) (.of (.v 0)) f_summed_b1)
def f_summed : Fn := ⟨1, 3, (.cons (.asg (.n 1) (.g 1))
 (.cons f_summed_l1
 (.cons (.retv 1)
 .nil)))⟩
def d_summed : Dt := ⟨"summed", tp 20, ["many", "found", "one"], ["many"], f_summed, none, false⟩
theorem b_summed : d_summed.Bi := fun _ _ _ _ _ _ us hl => match us, hl with | [_], _ => rfl
/-- 11 are_parts: 0=thing 1=one 2=other -/
def f_are_parts_c1 : E := (.lc (.chain .lt .lt (.k (.int 0)) (.v 1) (.g 0)) (.n 1) (.of (.v 0)) .yes)
@[simp] theorem isV_f_are_parts_c1 : isV f_are_parts_c1 = none := rfl
@[simp] theorem nop_f_are_parts_c1 : isNop f_are_parts_c1 = false := rfl
def f_are_parts_c2 : E := (.lc (.cmp .lt (.v 1) (.v 2)) (.t [1, 2]) (.zip (.v 0) (.slv 0 (.k (.int 1)) .nop)) .yes)
@[simp] theorem isV_f_are_parts_c2 : isV f_are_parts_c2 = none := rfl
@[simp] theorem nop_f_are_parts_c2 : isNop f_are_parts_c2 = false := rfl
def f_are_parts : Fn := ⟨1, 3, (.cons (.ite (.or (.not (.e (.call 3 (.cons (.v 0) (.cons (.k (.int 1)) (.cons (.k (.int 1000)) .nil)))))) (.not (.e (.b1 .all f_are_parts_c1))))
 (.cons (.ret (.k (.bool false)))
 .nil)
 .nil)
 (.cons (.ret (.b1 .all f_are_parts_c2))
 .nil))⟩
def d_are_parts : Dt := ⟨"are_parts", tp 23, ["thing", "one", "other"], ["thing"], f_are_parts, none, false⟩
theorem b_are_parts : d_are_parts.Bi := fun _ _ _ _ _ _ us hl => match us, hl with | [_], _ => rfl
/-- 12 check_parts: 0=parts -/
def f_check_parts : Fn := ⟨1, 1, (.cons (.ite (.not (.e (.call 11 (.cons (.v 0) .nil))))
 (.cons (.raise 2)
 .nil)
 .nil)
 .nil)⟩
def d_check_parts : Dt := ⟨"check_parts", tp 24, ["parts"], ["parts"], f_check_parts, none, false⟩
theorem b_check_parts : d_check_parts.Bi := fun _ _ _ _ _ _ us hl => match us, hl with | [_], _ => rfl
/-- 13 sum_of_parts: 0=parts 1=bottom -/
def f_sum_of_parts_c1 : E := (.lc (.tup (.cons (.k (.int 1)) (.cons (.v 1) .nil))) (.n 1) (.of (.v 0)) .yes)
@[simp] theorem isV_f_sum_of_parts_c1 : isV f_sum_of_parts_c1 = none := rfl
@[simp] theorem nop_f_sum_of_parts_c1 : isNop f_sum_of_parts_c1 = false := rfl
def f_sum_of_parts : Fn := ⟨1, 2, (.cons (.expr (.call 12 (.cons (.v 0) .nil)))
 (.cons (.ret (.call 10 (.cons f_sum_of_parts_c1 .nil)))
 .nil))⟩
def d_sum_of_parts : Dt := ⟨"sum_of_parts", tp 25, ["parts", "bottom"], ["parts"], f_sum_of_parts, none, false⟩
theorem b_sum_of_parts : d_sum_of_parts.Bi := fun _ _ _ _ _ _ us hl => match us, hl with | [_], _ => rfl
/-- 14 check_proper: 0=ratio -/
def f_check_proper : Fn := ⟨1, 1, (.cons (.expr (.call 6 (.cons (.v 0) .nil)))
 (.cons (.ite (.or (.not (.e (.chain .lt .lt (.k (.int 0)) (.ixv 0 (.k (.int 0))) (.ixv 0 (.k (.int 1)))))) (.e (.cmp .gt (.ixv 0 (.k (.int 1))) (.g 2))))
 (.cons (.raise 4)
 .nil)
 .nil)
 .nil))⟩
def d_check_proper : Dt := ⟨"check_proper", tp 26, ["ratio"], ["ratio"], f_check_proper, none, false⟩
theorem b_check_proper : d_check_proper.Bi := fun _ _ _ _ _ _ us hl => match us, hl with | [_], _ => rfl
/-- 15 two_parts: 0=ratio 1=found 2=a 3=left -/
def f_two_parts_b1 : Ss := (.cons (.asg (.n 3) (.call 9 (.cons (.v 0) (.cons (.tup (.cons (.k (.int 1)) (.cons (.v 2) .nil))) .nil))))
 (.cons (.ite (.and (.e (.cmp .eq (.ixv 3 (.k (.int 0))) (.k (.int 1)))) (.e (.cmp .gt (.ixv 3 (.k (.int 1))) (.v 2))))
 (.cons (.app 1 (.tup (.cons (.v 2) (.cons (.ixv 3 (.k (.int 1))) .nil))))
 .nil)
 .nil)
 .nil))
def f_two_parts_l1 : S := (.for_ (.n 2) (.rng (.cons (.bin .add (.bin .fdiv (.ixv 0 (.k (.int 1))) (.ixv 0 (.k (.int 0)))) (.k (.int 1))) (.cons (.bin .add (.bin .fdiv (.bin .mul (.k (.int 2)) (.ixv 0 (.k (.int 1)))) (.ixv 0 (.k (.int 0)))) (.k (.int 1))) .nil))) f_two_parts_b1)
def f_two_parts : Fn := ⟨1, 4, (.cons (.expr (.call 14 (.cons (.v 0) .nil)))
 (.cons (.asg (.n 1) (.lst .nil))
 (.cons f_two_parts_l1
 (.cons (.ret (.b1 .tuple (.v 1)))
 .nil))))⟩
def d_two_parts : Dt := ⟨"two_parts", tp 27, ["ratio", "found", "a", "left"], ["ratio"], f_two_parts, none, false⟩
theorem b_two_parts : d_two_parts.Bi := fun _ _ _ _ _ _ us hl => match us, hl with | [_], _ => rfl
/-- 16 pairs_for: 0=n 1=found 2=a -/
def f_pairs_for_b1 : Ss := (.cons (.aug 1 .add (.b1 .int (.cmp .eq (.bin .mod (.bin .mul (.v 0) (.v 2)) (.bin .sub (.v 2) (.v 0))) (.k (.int 0)))))
 .nil)
def f_pairs_for_l1 : S := (.for_ (.n 2) (.rng (.cons (.bin .add (.v 0) (.k (.int 1))) (.cons (.bin .add (.bin .mul (.k (.int 2)) (.v 0)) (.k (.int 1))) .nil))) f_pairs_for_b1)
def f_pairs_for : Fn := ⟨1, 3, (.cons (.ite (.not (.e (.call 1 (.cons (.v 0) (.cons (.k (.int 1)) (.cons (.g 2) .nil))))))
 (.cons (.raise 1)
 .nil)
 .nil)
 (.cons (.asg (.n 1) (.k (.int 0)))
 (.cons f_pairs_for_l1
 (.cons (.retv 1)
 .nil))))⟩
def d_pairs_for : Dt := ⟨"pairs_for", tp 28, ["n", "found", "a"], ["n"], f_pairs_for, none, false⟩
theorem b_pairs_for : d_pairs_for.Bi := fun _ _ _ _ _ _ us hl => match us, hl with | [_], _ => rfl
/-- 17 _law_hand: 0=script 1=cell -/
def f__law_hand_c1 : E := (.lc (.b1 .int (.v 1)) (.n 1) (.of (.scr 0 63)) .yes)
@[simp] theorem isV_f__law_hand_c1 : isV f__law_hand_c1 = none := rfl
@[simp] theorem nop_f__law_hand_c1 : isNop f__law_hand_c1 = false := rfl
def f__law_hand : Fn := ⟨1, 2, (.cons (.ret (.lst (.cons f__law_hand_c1 (.cons (.k (.int 0)) (.cons (.k (.int 0)) (.cons (.k (.int 0)) .nil))))))
 .nil)⟩
def d__law_hand : Dt := ⟨"_law_hand", tp 30, ["script", "cell"], ["script"], f__law_hand, none, false⟩
theorem b__law_hand : d__law_hand.Bi := fun _ _ _ _ _ _ us hl => match us, hl with | [_], _ => rfl
/-- 18 _law_mixed: 0=cell 1=turn 2=number -/
def f__law_mixed : Fn := ⟨2, 3, (.cons (.asg (.n 2) (.bin .mod (.b1 .int (.bin .mul (.bin .add (.bin .add (.bin .mod (.b1 .int (.v 0)) (.k (.int 2147483647))) (.bin .mul (.k (.int 7919)) (.v 1))) (.k (.int 1))) (.k (.int 48271)))) (.k (.int 2147483647))))
 (.cons (.asg (.n 2) (.bin .mod (.b1 .int (.bin .mul (.v 2) (.bin .add (.bin .fdiv (.v 2) (.k (.int 1009))) (.k (.int 69621))))) (.k (.int 2147483647))))
 (.cons (.ret (.bin .fdiv (.bin .mod (.b1 .int (.bin .mul (.v 2) (.bin .add (.bin .fdiv (.v 2) (.k (.int 2003))) (.k (.int 40692))))) (.k (.int 2147483399))) (.k (.int 16))))
 .nil)))⟩
def d__law_mixed : Dt := ⟨"_law_mixed", tp 31, ["cell", "turn", "number"], ["cell", "turn"], f__law_mixed, none, false⟩
theorem b__law_mixed : d__law_mixed.Bi := fun _ _ _ _ _ _ us hl => match us, hl with | [_, _], _ => rfl
/-- 19 _law_draw: 0=hand 1=many 2=cell 3=found 4=cells 5=at -/
def f__law_draw : Fn := ⟨2, 6, (.cons (.set 0 (.k (.int 3)) (.bin .add (.ixv 0 (.k (.int 3))) (.k (.int 1))))
 (.cons (.ite (.e (.cmp .gt (.ixv 0 (.k (.int 2))) (.k (.int 0))))
 (.cons (.asg (.n 3) (.bin .mod (.b1 .int (.ixv 0 (.k (.int 2)))) (.v 1)))
 (.cons (.set 0 (.k (.int 2)) (.bin .fdiv (.ixv 0 (.k (.int 2))) (.v 1)))
 (.cons (.retv 3)
 .nil)))
 .nil)
 (.cons (.par [4, 5] (.cons (.ixv 0 (.k (.int 0))) (.cons (.ixv 0 (.k (.int 1))) .nil)))
 (.cons (.set 0 (.k (.int 1)) (.bin .add (.v 5) (.k (.int 1))))
 (.cons (.ite (.e (.cmp .eq (.b1 .len (.v 4)) (.k (.int 0))))
 (.cons (.ret (.bin .mod (.b1 .int (.call 18 (.cons (.k (.int 0)) (.cons (.ixv 0 (.k (.int 3))) .nil)))) (.v 1)))
 .nil)
 .nil)
 (.cons (.asg (.n 2) (.ixv 4 (.bin .mod (.b1 .int (.v 5)) (.b1 .len (.v 4)))))
 (.cons (.ite (.and (.e (.cmp .lt (.v 5) (.b1 .len (.v 4)))) (.e (.cmp .ge (.b1 .abs (.v 2)) (.bin .pow (.k (.int 10)) (.k (.int 18))))))
 (.cons (.set 0 (.k (.int 2)) (.bin .fdiv (.b1 .abs (.v 2)) (.v 1)))
 (.cons (.ret (.bin .mod (.b1 .int (.b1 .abs (.v 2))) (.v 1)))
 .nil))
 .nil)
 (.cons (.ret (.bin .mod (.b1 .int (.call 18 (.cons (.v 2) (.cons (.ixv 0 (.k (.int 3))) .nil)))) (.v 1)))
 .nil))))))))⟩
def d__law_draw : Dt := ⟨"_law_draw", tp 32, ["hand", "many", "cell", "found", "cells", "at"], ["hand", "many"], f__law_draw, none, false⟩
theorem b__law_draw : d__law_draw.Bi := fun _ _ _ _ _ _ us hl => match us, hl with | [_, _], _ => rfl
/-- 20 _law_any: 0=hand 1=some -/
def f__law_any : Fn := ⟨2, 2, (.cons (.ret (.ixv 1 (.cio 19 0 (.cons (.b1 .len (.v 1)) .nil))))
 .nil)⟩
def d__law_any : Dt := ⟨"_law_any", tp 33, ["hand", "some"], ["hand", "some"], f__law_any, none, false⟩
theorem b__law_any : d__law_any.Bi := fun _ _ _ _ _ _ us hl => match us, hl with | [_, _], _ => rfl
/-- 21 _law_low: 0=top 1=bottom 2=sign 3=one 4=other -/
def f__law_low_b1 : Ss := (.cons (.par [3, 4] (.cons (.v 4) (.cons (.bin .mod (.b1 .int (.v 3)) (.v 4)) .nil)))
 .nil)
def f__law_low_l1 : S := (.whl (.e (.cmp .gt (.v 4) (.k (.int 0)))) f__law_low_b1)
def f__law_low : Fn := ⟨2, 5, (.cons (.par [3, 4] (.cons (.b1 .abs (.v 0)) (.cons (.b1 .abs (.v 1)) .nil)))
 (.cons f__law_low_l1
 (.cons (.asg (.n 2) (.ife (.e (.cmp .gt (.v 1) (.k (.int 0)))) (.k (.int 1)) (.bin .sub (.k (.int 0)) (.k (.int 1)))))
 (.cons (.ret (.tup (.cons (.bin .fdiv (.bin .mul (.v 2) (.v 0)) (.v 3)) (.cons (.bin .fdiv (.bin .mul (.v 2) (.v 1)) (.v 3)) .nil))))
 .nil))))⟩
def d__law_low : Dt := ⟨"_law_low", tp 34, ["top", "bottom", "sign", "one", "other"], ["top", "bottom"], f__law_low, none, false⟩
theorem b__law_low : d__law_low.Bi := fun _ _ _ _ _ _ us hl => match us, hl with | [_, _], _ => rfl
/-- 22 _law_sum: 0=parts 1=part 2=top 3=bottom -/
def f__law_sum_b1 : Ss := (.cons (.asg (.t [2, 3]) (.call 21 (.cons (.bin .add (.bin .mul (.v 2) (.v 1)) (.v 3)) (.cons (.bin .mul (.v 3) (.v 1)) .nil))))
 .nil)
def f__law_sum_l1 : S := (.for_ (.n 1) (.of (.v 0)) f__law_sum_b1)
def f__law_sum : Fn := ⟨1, 4, (.cons (.asg (.t [2, 3]) (.tup (.cons (.k (.int 0)) (.cons (.k (.int 1)) .nil))))
 (.cons f__law_sum_l1
 (.cons (.ret (.tup (.cons (.v 2) (.cons (.v 3) .nil))))
 .nil)))⟩
def d__law_sum : Dt := ⟨"_law_sum", tp 35, ["parts", "part", "top", "bottom"], ["parts"], f__law_sum, none, false⟩
theorem b__law_sum : d__law_sum.Bi := fun _ _ _ _ _ _ us hl => match us, hl with | [_], _ => rfl
/-- 23 _law_proper: 0=hand 1=bottom -/
def f__law_proper : Fn := ⟨1, 2, (.cons (.asg (.n 1) (.bin .add (.k (.int 2)) (.cio 19 0 (.cons (.cio 20 0 (.cons (.lst (.cons (.k (.int 12)) (.cons (.k (.int 60)) (.cons (.k (.int 999)) .nil)))) .nil)) .nil))))
 (.cons (.ret (.call 21 (.cons (.bin .add (.k (.int 1)) (.cio 19 0 (.cons (.bin .sub (.v 1) (.k (.int 1))) .nil))) (.cons (.v 1) .nil))))
 .nil))⟩
def d__law_proper : Dt := ⟨"_law_proper", tp 36, ["hand", "bottom"], ["hand"], f__law_proper, none, false⟩
theorem b__law_proper : d__law_proper.Bi := fun _ _ _ _ _ _ us hl => match us, hl with | [_], _ => rfl
/-- 24 _law_less_part: 0=left 1=part -/
def f__law_less_part : Fn := ⟨2, 2, (.cons (.ret (.call 21 (.cons (.bin .sub (.bin .mul (.ixv 0 (.k (.int 0))) (.v 1)) (.ixv 0 (.k (.int 1)))) (.cons (.bin .mul (.ixv 0 (.k (.int 1))) (.v 1)) .nil))))
 .nil)⟩
def d__law_less_part : Dt := ⟨"_law_less_part", tp 37, ["left", "part"], ["left", "part"], f__law_less_part, none, false⟩
theorem b__law_less_part : d__law_less_part.Bi := fun _ _ _ _ _ _ us hl => match us, hl with | [_, _], _ => rfl
/-- 25 _law_word_of: 0=call 1=word -/
def f__law_word_of : Fn := ⟨1, 2, (.cons (.raisex 0 .nop) .nil)⟩
def w__law_word_of : WFn := ⟨2, (some (1, (.str "let"))), [⟨3, none, (.cons (.asg (.n 1) (.k (.str "ratio")))
 .nil)⟩, ⟨4, none, (.cons (.asg (.n 1) (.k (.str "proper")))
 .nil)⟩, ⟨1, none, (.cons (.asg (.n 1) (.k (.str "number")))
 .nil)⟩, ⟨0, none, (.cons (.asg (.n 1) (.k (.str "other")))
 .nil)⟩], (.cons (.retv 1)
 .nil)⟩
def d__law_word_of : Dt := ⟨"_law_word_of", tp 38, ["call", "word"], ["call"], f__law_word_of, some w__law_word_of, false⟩
theorem b__law_word_of : d__law_word_of.Bi := fun _ _ _ _ _ _ us hl => match us, hl with | [_], _ => rfl
/-- 26 _law_pairs: 0=ratio 1=found 2=a 3=top 4=bottom 5=rest 6=pair -/
def f__law_pairs_b1 : Ss := (.cons (.asg (.n 5) (.tup (.cons (.bin .sub (.bin .mul (.v 3) (.v 2)) (.v 4)) (.cons (.bin .mul (.v 4) (.v 2)) .nil))))
 (.cons (.ite (.e (.cmp .eq (.bin .mul (.bin .fdiv (.ixv 5 (.k (.int 1))) (.ixv 5 (.k (.int 0)))) (.ixv 5 (.k (.int 0)))) (.ixv 5 (.k (.int 1)))))
 (.cons (.app 1 (.tup (.cons (.v 2) (.cons (.bin .fdiv (.ixv 5 (.k (.int 1))) (.ixv 5 (.k (.int 0)))) .nil))))
 .nil)
 .nil)
 .nil))
def f__law_pairs_l1 : S := (.for_ (.n 2) (.rng (.cons (.bin .add (.bin .fdiv (.v 4) (.v 3)) (.k (.int 1))) (.cons (.bin .add (.bin .fdiv (.bin .mul (.k (.int 2)) (.v 4)) (.v 3)) (.k (.int 1))) .nil))) f__law_pairs_b1)
def f__law_pairs_c1 : E := (.lc (.v 6) (.n 6) (.of (.v 1)) (.e (.cmp .le (.ixv 6 (.k (.int 0))) (.ixv 6 (.k (.int 1))))))
@[simp] theorem isV_f__law_pairs_c1 : isV f__law_pairs_c1 = none := rfl
@[simp] theorem nop_f__law_pairs_c1 : isNop f__law_pairs_c1 = false := rfl
def f__law_pairs : Fn := ⟨1, 7, (.cons (.asg (.t [3, 4]) (.v 0))
 (.cons (.asg (.n 1) (.lst .nil))
 (.cons f__law_pairs_l1
 (.cons (.ret f__law_pairs_c1)
 .nil))))⟩
def d__law_pairs : Dt := ⟨"_law_pairs", tp 39, ["ratio", "found", "a", "top", "bottom", "rest", "pair"], ["ratio"], f__law_pairs, none, false⟩
theorem b__law_pairs : d__law_pairs.Bi := fun _ _ _ _ _ _ us hl => match us, hl with | [_], _ => rfl
/-- 27 _law_divisors: 0=n 1=one -/
def f__law_divisors_c1 : E := (.lc (.v 1) (.n 1) (.rng (.cons (.k (.int 1)) (.cons (.bin .add (.v 0) (.k (.int 1))) .nil))) (.e (.cmp .eq (.bin .mul (.bin .fdiv (.v 0) (.v 1)) (.v 1)) (.v 0))))
@[simp] theorem isV_f__law_divisors_c1 : isV f__law_divisors_c1 = none := rfl
@[simp] theorem nop_f__law_divisors_c1 : isNop f__law_divisors_c1 = false := rfl
def f__law_divisors : Fn := ⟨1, 2, (.cons (.ret f__law_divisors_c1)
 .nil)⟩
def d__law_divisors : Dt := ⟨"_law_divisors", tp 40, ["n", "one"], ["n"], f__law_divisors, none, false⟩
theorem b__law_divisors : d__law_divisors.Bi := fun _ _ _ _ _ _ us hl => match us, hl with | [_], _ => rfl
/-- 28 _law_are_divisors_there: 0=ratio 1=some 2=at 3=one 4=other -/
def f__law_are_divisors_there_b1 : Ss := (.cons (.ite (.and (.e (.cmp .eq (.call 21 (.cons (.v 3) (.cons (.v 4) .nil))) (.tup (.cons (.v 3) (.cons (.v 4) .nil))))) (.e (.cmp .eq (.bin .mul (.bin .fdiv (.bin .add (.v 3) (.v 4)) (.ixv 0 (.k (.int 0)))) (.ixv 0 (.k (.int 0)))) (.bin .add (.v 3) (.v 4)))))
 (.cons (.ret (.k (.bool true)))
 .nil)
 .nil)
 .nil)
def f__law_are_divisors_there_l1 : S := (.for_ (.n 4) (.of (.slv 1 (.bin .add (.v 2) (.k (.int 1))) .nop)) f__law_are_divisors_there_b1)
def f__law_are_divisors_there_b2 : Ss := (.cons f__law_are_divisors_there_l1
 .nil)
def f__law_are_divisors_there_l2 : S := (.for_ (.t [2, 3]) (.enum (.v 1)) f__law_are_divisors_there_b2)
def f__law_are_divisors_there : Fn := ⟨1, 5, (.cons (.asg (.n 1) (.call 27 (.cons (.ixv 0 (.k (.int 1))) .nil)))
 (.cons f__law_are_divisors_there_l2
 (.cons (.ret (.k (.bool false)))
 .nil)))⟩
def d__law_are_divisors_there : Dt := ⟨"_law_are_divisors_there", tp 41, ["ratio", "some", "at", "one", "other"], ["ratio"], f__law_are_divisors_there, none, false⟩
theorem b__law_are_divisors_there : d__law_are_divisors_there.Bi := fun _ _ _ _ _ _ us hl => match us, hl with | [_], _ => rfl
/-- 29 _law_many_divisors: 0=n 1=many 2=left 3=prime 4=power -/
def f__law_many_divisors_b1 : Ss := (.cons (.par [2, 4] (.cons (.bin .fdiv (.v 2) (.v 3)) (.cons (.bin .add (.v 4) (.k (.int 1))) .nil)))
 .nil)
def f__law_many_divisors_l1 : S := (.whl (.e (.cmp .eq (.bin .mul (.bin .fdiv (.v 2) (.v 3)) (.v 3)) (.v 2))) f__law_many_divisors_b1)
def f__law_many_divisors_b2 : Ss := (.cons (.asg (.n 4) (.k (.int 0)))
 (.cons f__law_many_divisors_l1
 (.cons (.par [1, 3] (.cons (.bin .mul (.v 1) (.bin .add (.bin .mul (.k (.int 2)) (.v 4)) (.k (.int 1)))) (.cons (.bin .add (.v 3) (.k (.int 1))) .nil)))
 .nil)))
def f__law_many_divisors_l2 : S := (.whl (.e (.cmp .gt (.v 2) (.k (.int 1)))) f__law_many_divisors_b2)
def f__law_many_divisors : Fn := ⟨1, 5, (.cons (.par [1, 2, 3] (.cons (.k (.int 1)) (.cons (.v 0) (.cons (.k (.int 2)) .nil))))
 (.cons f__law_many_divisors_l2
 (.cons (.retv 1)
 .nil)))⟩
def d__law_many_divisors : Dt := ⟨"_law_many_divisors", tp 42, ["n", "many", "left", "prime", "power"], ["n"], f__law_many_divisors, none, false⟩
theorem b__law_many_divisors : d__law_many_divisors.Bi := fun _ _ _ _ _ _ us hl => match us, hl with | [_], _ => rfl
/-- 30 _law_is_right: 0=ratio 1=due 2=told 3=pair -/
def f__law_is_right_c1 : E := (.lc (.v 3) (.n 3) (.of (.call 26 (.cons (.v 0) .nil))) (.e (.cmp .lt (.ixv 3 (.k (.int 0))) (.ixv 3 (.k (.int 1))))))
@[simp] theorem isV_f__law_is_right_c1 : isV f__law_is_right_c1 = none := rfl
@[simp] theorem nop_f__law_is_right_c1 : isNop f__law_is_right_c1 = false := rfl
def f__law_is_right_c2 : E := (.lc (.cmp .eq (.call 13 (.cons (.v 3) .nil)) (.v 0)) (.n 3) (.of (.v 2)) .yes)
@[simp] theorem isV_f__law_is_right_c2 : isV f__law_is_right_c2 = none := rfl
@[simp] theorem nop_f__law_is_right_c2 : isNop f__law_is_right_c2 = false := rfl
def f__law_is_right : Fn := ⟨1, 4, (.cons (.asg (.n 1) f__law_is_right_c1)
 (.cons (.asg (.n 2) (.call 15 (.cons (.v 0) .nil)))
 (.cons (.ite (.or (.e (.cmp .ne (.v 2) (.b1 .tuple (.b1 .sorted (.v 1))))) (.e (.cmp .ne (.cmp .gt (.b1 .len (.v 2)) (.k (.int 0))) (.call 28 (.cons (.v 0) .nil)))))
 (.cons (.ret (.k (.bool false)))
 .nil)
 .nil)
 (.cons (.ret (.b1 .all f__law_is_right_c2))
 .nil))))⟩
def d__law_is_right : Dt := ⟨"_law_is_right", tp 43, ["ratio", "due", "told", "pair"], ["ratio"], f__law_is_right, none, false⟩
theorem b__law_is_right : d__law_is_right.Bi := fun _ _ _ _ _ _ us hl => match us, hl with | [_], _ => rfl
/-- 31 law: 0=script 1=hand 2=turn 3=words 4=one 5=other 6=made_v 7=n 8=pairs 9=pair -/
def f_law_c1 : E := (.lc (.v 9) (.n 9) (.of (.b1 .sorted (.v 8))) (.e (.cmp .ne (.v 9) (.tup (.cons (.bin .mul (.k (.int 2)) (.v 7)) (.cons (.bin .mul (.k (.int 2)) (.v 7)) .nil))))))
@[simp] theorem isV_f_law_c1 : isV f_law_c1 = none := rfl
@[simp] theorem nop_f_law_c1 : isNop f_law_c1 = false := rfl
def f_law_b1 : Ss := (.cons (.asg (.n 4) (.bin .add (.k (.int 2)) (.cio 19 1 (.cons (.k (.int 14)) .nil))))
 (.cons (.asg (.n 5) (.bin .add (.bin .add (.v 4) (.k (.int 1))) (.cio 19 1 (.cons (.k (.int 14)) .nil))))
 (.cons (.asg (.n 6) (.call 22 (.cons (.tup (.cons (.v 4) (.cons (.v 5) .nil))) .nil)))
 (.cons (.ite (.or (.not (.e (.call 30 (.cons (.cio 23 1 .nil) .nil)))) (.or (.not (.e (.call 30 (.cons (.v 6) .nil)))) (.e (.cmp .notin (.tup (.cons (.v 4) (.cons (.v 5) .nil))) (.call 15 (.cons (.v 6) .nil))))))
 (.cons (.ret (.k (.bool false)))
 .nil)
 .nil)
 (.cons (.asg (.n 7) (.bin .add (.k (.int 1)) (.cio 19 1 (.cons (.cio 20 1 (.cons (.lst (.cons (.k (.int 40)) (.cons (.k (.int 1000)) .nil))) .nil)) .nil))))
 (.cons (.asg (.n 8) (.call 26 (.cons (.tup (.cons (.k (.int 1)) (.cons (.v 7) .nil))) .nil)))
 (.cons (.ite (.or (.e (.cmp .ne (.call 16 (.cons (.v 7) .nil)) (.b1 .len (.v 8)))) (.e (.cmp .ne (.bin .mul (.k (.int 2)) (.call 16 (.cons (.v 7) .nil))) (.bin .add (.k (.int 1)) (.call 29 (.cons (.v 7) .nil))))))
 (.cons (.ret (.k (.bool false)))
 .nil)
 .nil)
 (.cons (.ite (.and (.e (.cmp .gt (.v 7) (.k (.int 1)))) (.e (.cmp .ne (.call 15 (.cons (.tup (.cons (.k (.int 1)) (.cons (.v 7) .nil))) .nil)) (.b1 .tuple f_law_c1))))
 (.cons (.ret (.k (.bool false)))
 .nil)
 .nil)
 .nil))))))))
def f_law_l1 : S := (.for_ (.n 2) (.rng (.cons (.k (.int 3)) .nil)) f_law_b1)
def f_law_g2 : E := (.lst (.cons (.k .none) (.cons (.tup (.cons (.k (.int 2)) (.cons (.k (.int 4)) .nil))) (.cons (.tup (.cons (.k (.int 1)) (.cons (.k (.int 0)) .nil))) (.cons (.lst (.cons (.k (.int 1)) (.cons (.k (.int 2)) .nil))) .nil)))))
@[simp] theorem isV_f_law_g2 : isV f_law_g2 = none := rfl
@[simp] theorem nop_f_law_g2 : isNop f_law_g2 = false := rfl
def f_law_k3 : E := (.lam 25 (.call 15 (.cons (.cio 20 1 (.cons f_law_g2 .nil)) .nil)))
@[simp] theorem isV_f_law_k3 : isV f_law_k3 = none := rfl
@[simp] theorem nop_f_law_k3 : isNop f_law_k3 = false := rfl
def f_law_g4 : E := (.lst (.cons (.tup (.cons (.k (.int 0)) (.cons (.k (.int 1)) .nil))) (.cons (.tup (.cons (.k (.int 1)) (.cons (.k (.int 1)) .nil))) (.cons (.tup (.cons (.k (.int 7)) (.cons (.k (.int 3)) .nil))) (.cons (.tup (.cons (.k (.int 1)) (.cons (.k (.int 1001)) .nil))) .nil)))))
@[simp] theorem isV_f_law_g4 : isV f_law_g4 = none := rfl
@[simp] theorem nop_f_law_g4 : isNop f_law_g4 = false := rfl
def f_law_k5 : E := (.lam 25 (.call 15 (.cons (.cio 20 1 (.cons f_law_g4 .nil)) .nil)))
@[simp] theorem isV_f_law_k5 : isV f_law_k5 = none := rfl
@[simp] theorem nop_f_law_k5 : isNop f_law_k5 = false := rfl
def f_law_g6 : E := (.lst (.cons (.k (.int 0)) (.cons (.k (.int 1001)) (.cons (.k .none) (.cons (.k (.bool true)) .nil)))))
@[simp] theorem isV_f_law_g6 : isV f_law_g6 = none := rfl
@[simp] theorem nop_f_law_g6 : isNop f_law_g6 = false := rfl
def f_law_k7 : E := (.lam 25 (.call 16 (.cons (.cio 20 1 (.cons f_law_g6 .nil)) .nil)))
@[simp] theorem isV_f_law_k7 : isV f_law_k7 = none := rfl
@[simp] theorem nop_f_law_k7 : isNop f_law_k7 = false := rfl
def f_law : Fn := ⟨1, 10, (.cons (.asg (.n 1) (.craw 17 0))
 (.cons f_law_l1
 (.cons (.asg (.n 3) (.lst (.cons f_law_k3 .nil)))
 (.cons (.app 3 f_law_k5)
 (.cons (.app 3 f_law_k7)
 (.cons (.ite (.e (.cmp .ne (.v 3) (.lst (.cons (.k (.str "ratio")) (.cons (.k (.str "proper")) (.cons (.k (.str "number")) .nil))))))
 (.cons (.ret (.k (.bool false)))
 .nil)
 .nil)
 (.cons (.ret (.and (.cmp .eq (.call 15 (.cons (.tup (.cons (.k (.int 5)) (.cons (.k (.int 6)) .nil))) .nil)) (.tup (.cons (.tup (.cons (.k (.int 2)) (.cons (.k (.int 3)) .nil))) .nil))) (.and (.cmp .eq (.call 16 (.cons (.k (.int 6)) .nil)) (.k (.int 5))) (.cmp .eq (.call 15 (.cons (.tup (.cons (.k (.int 4)) (.cons (.k (.int 5)) .nil))) .nil)) (.tup .nil)))))
 .nil)))))))⟩
def d_law : Dt := ⟨"law", tp 44, ["script", "hand", "turn", "words", "one", "other", "made_v", "n", "pairs", "pair"], ["script"], f_law, none, true⟩
theorem b_law : d_law.Bi := fun _ _ _ _ _ _ us hl => match us, hl with | [_], _ => rfl
def L : List Dt := [d_is_integer, d_is_within, d_is_sized, d_are_integers, d_common, d_is_ratio, d_check_ratio, d_made, d_plus, d_minus, d_summed, d_are_parts, d_check_parts, d_sum_of_parts, d_check_proper, d_two_parts, d_pairs_for, d__law_hand, d__law_mixed, d__law_draw, d__law_any, d__law_low, d__law_sum, d__law_proper, d__law_less_part, d__law_word_of, d__law_pairs, d__law_divisors, d__law_are_divisors_there, d__law_many_divisors, d__law_is_right, d_law]
def PL : List Fn := [f_is_integer, f_is_within, f_is_sized, f_are_integers, f_common, f_is_ratio, f_check_ratio, f_made, f_plus, f_minus, f_summed, f_are_parts, f_check_parts, f_sum_of_parts, f_check_proper, f_two_parts, f_pairs_for, f__law_hand, f__law_mixed, f__law_draw, f__law_any, f__law_low, f__law_sum, f__law_proper, f__law_less_part, f__law_word_of, f__law_pairs, f__law_divisors, f__law_are_divisors_there, f__law_many_divisors, f__law_is_right, f_law]
def gls : List (Str × PyData) := [("MOST_DIGITS", (.int 10000000000000000000000000000000000000000)), ("ZERO", (.tuple [(.int 0), (.int 1)])), ("MOST_BOTTOM", (.int 1000))]
def exs : List Str := ["RatioError", "NoNumber", "NoParts", "NoRatio", "NotProper"]
def nx : Nat := 5
end Lw
namespace Lw
open Pv PySem
/-! ### two unit ratios, in plain numbers -/
/-- u divides v just where what is left is a unit ratio -/
theorem unit_iff {u v : Int} (hu : 0 < u) (hv : 0 < v) : ((redP u v).1 = 1 ↔ u ∣ v) ∧ (u ∣ v → (redP u v).2 = v / u) := by
  have c := redP_cross (t := u) hv
  have l := redP_lo (t := u) hv
  have key : ∀ k, v = u * k → redP u v = (1, k) := fun k hk => by
    have k0 : 0 < k := Int.pos_of_mul_pos_right (a := u) (by omega) hu
    have := redP_scale (t := 1) (b := k) hu (by omega)
    rw [Int.mul_one] at this
    rw [hk, this]
    exact redP_one (by simp) k0
  refine ⟨⟨fun h => ⟨(redP u v).2, ?_⟩, fun ⟨k, hk⟩ => by rw [key k hk]⟩, fun ⟨k, hk⟩ => ?_⟩
  · rw [h, Int.one_mul] at c
    exact c
  · rw [key k hk, hk, Int.mul_ediv_cancel_left _ (by omega)]
/-- the other one -/
def cb (t b a : Int) : Int := b * a / (t * a - b)
def isP (t b a : Int) : Bool := decide ((t * a - b) ∣ b * a)
/-- unlike ones -/
def isU (t b a : Int) : Bool := isP t b a && decide (a < cb t b a)
def rgA (t b : Int) : Int := b / t + 1
def rgN (t b : Int) : Nat := (2 * b / t + 1 - (b / t + 1)).toNat
structure Tb (t b : Int) : Prop where
  t0 : 0 < t
  tb : t ≤ b
  b1 : b ≤ 1000
  g : Int.gcd t b = 1
def ups (t b : Int) : List (Int × Int) := ((irng (rgA t b) (rgN t b)).filter (isU t b)).map fun a => (a, cb t b a)
def lps (t b : Int) : List (Int × Int) := ((irng (rgA t b) (rgN t b)).filter fun a => isP t b a && decide (a ≤ cb t b a)).map fun a => (a, cb t b a)
section
variable {t b a c : Int}
theorem Tb.rg (h : Tb t b) (ha : a ∈ irng (rgA t b) (rgN t b)) : 0 < t * a - b ∧ 0 < a ∧ a ≤ 2000 ∧ t * a ≤ 2 * b := by
  have t0 := h.t0
  have tb := h.tb
  have b1 := h.b1
  obtain ⟨h1, h2⟩ := mem_irng.mp ha
  have e1 : b / t + 1 ≤ a := h1
  have e2 : a ≤ 2 * b / t := by
    have : rgA t b = b / t + 1 := rfl
    have : rgN t b = (2 * b / t + 1 - (b / t + 1)).toNat := rfl
    omega
  have q0 : 0 ≤ b / t := Int.ediv_nonneg (by omega) (by omega)
  have k1 : b < (b / t + 1) * t := Int.lt_ediv_add_one_mul_self b t0
  have k2 : (b / t + 1) * t ≤ a * t := Int.mul_le_mul_of_nonneg_right e1 (by omega)
  have k3 : a * t ≤ (2 * b / t) * t := Int.mul_le_mul_of_nonneg_right e2 (by omega)
  have k4 : (2 * b / t) * t ≤ 2 * b := Int.ediv_mul_le _ (by omega)
  have k5 : 2 * b / t ≤ 2 * b := Int.ediv_le_self _ (by omega)
  have e : t * a = a * t := Int.mul_comm _ _
  exact ⟨by omega, by omega, by omega, by omega⟩
theorem Tb.rg' (h : Tb t b) (h1 : 0 < t * a - b) (h2 : t * a ≤ 2 * b) : a ∈ irng (rgA t b) (rgN t b) := by
  have t0 := h.t0
  have b0 : 0 < b := by have := h.tb; omega
  have e : t * a = a * t := Int.mul_comm _ _
  have k1 : b / t < a := Int.ediv_lt_of_lt_mul t0 (by omega)
  have k2 : a ≤ 2 * b / t := Int.le_ediv_of_mul_le t0 (by omega)
  refine mem_irng.mpr ?_
  have : rgA t b = b / t + 1 := rfl
  have : rgN t b = (2 * b / t + 1 - (b / t + 1)).toNat := rfl
  omega
/-- both make the ratio -/
theorem isP_eq (h : 0 < t * a - b) (hp : isP t b a = true) : t * a * cb t b a = b * (a + cb t b a) := by
  have hp : (t * a - b) ∣ b * a := of_decide_eq_true hp
  have e : (t * a - b) * cb t b a = b * a := Int.mul_ediv_cancel' hp
  have : (t * a - b) * cb t b a = t * a * cb t b a - b * cb t b a := by grind
  grind
theorem eq_isP (h : 0 < t * a - b) (e : t * a * c = b * (a + c)) : isP t b a = true ∧ cb t b a = c := by
  have k : b * a = (t * a - b) * c := by grind
  refine ⟨decide_eq_true ⟨c, k⟩, ?_⟩
  unfold cb
  rw [k, Int.mul_ediv_cancel_left _ (by omega)]
theorem mem_ups (h : Tb t b) : (a, c) ∈ ups t b ↔ 0 < a ∧ a < c ∧ t * a * c = b * (a + c) := by
  have t0 := h.t0
  have b0 : 0 < b := by have := h.tb; omega
  unfold ups
  rw [List.mem_map]
  constructor
  · rintro ⟨x, hx, e⟩
    cases e
    obtain ⟨h1, h2⟩ := List.mem_filter.mp hx
    obtain ⟨r1, r2, r3, r4⟩ := h.rg h1
    obtain ⟨p1, p2⟩ := Bool.and_eq_true_iff.mp h2
    exact ⟨r2, of_decide_eq_true p2, isP_eq r1 p1⟩
  · rintro ⟨a0, ac, e⟩
    have c0 : 0 < c := by omega
    have k : (t * a - b) * c = b * a := by grind
    have ba := Int.mul_pos b0 a0
    have p1 : 0 < t * a - b := Int.pos_of_mul_pos_left (b := c) (by omega) c0
    have p2 : t * a ≤ 2 * b := by
      rcases Int.lt_or_le (2 * b) (t * a) with w | w
      · have : b * c < (t * a - b) * c := Int.mul_lt_mul_of_pos_right (by omega) c0
        have : b * a < b * c := Int.mul_lt_mul_of_pos_left ac b0
        omega
      · exact w
    obtain ⟨q1, q2⟩ := eq_isP p1 e
    refine ⟨a, List.mem_filter.mpr ⟨h.rg' p1 p2, ?_⟩, by rw [q2]⟩
    unfold isU
    rw [q1, q2, decide_eq_true ac]
    rfl
theorem ups_asc : (ups t b).Pairwise fun p q => p.1 < q.1 := by
  unfold ups
  rw [List.pairwise_map]
  exact ((irng_asc _ _).filter _).imp fun h => h
theorem lps_asc : (lps t b).Pairwise fun p q => p.1 < q.1 := by
  unfold lps
  rw [List.pairwise_map]
  exact ((irng_asc _ _).filter _).imp fun h => h
theorem ups_of_lps : (lps t b).filter (fun p => decide (p.1 < p.2)) = ups t b := by
  unfold lps ups
  rw [List.filter_map, List.filter_filter]
  congr 1
  refine List.filter_congr fun x _ => ?_
  show (decide (x < cb t b x) && (isP t b x && decide (x ≤ cb t b x))) = (isP t b x && decide (x < cb t b x))
  by_cases z : x < cb t b x
  · rw [decide_eq_true z, decide_eq_true (show x ≤ cb t b x by omega)]
    simp
  · rw [decide_eq_false z]
    simp
/-- THE FACT: by divisors -/
theorem ups_dvs (h : Tb t b) : ups t b ≠ [] ↔ ∃ x y : Int, 0 < x ∧ x < y ∧ x ∣ b ∧ y ∣ b ∧ Int.gcd x y = 1 ∧ t ∣ x + y := by
  have t0 := h.t0
  have b0 : 0 < b := by have := h.tb; omega
  constructor
  · intro hn
    obtain ⟨⟨a, c⟩, hp⟩ := List.exists_mem_of_ne_nil _ hn
    obtain ⟨a0, ac, e⟩ := (mem_ups h).mp hp
    obtain ⟨x, hx⟩ := Int.gcd_dvd_left a c
    obtain ⟨y, hy⟩ := Int.gcd_dvd_right a c
    have gn := Int.gcd_pos_of_ne_zero_left c (show a ≠ 0 by omega)
    obtain ⟨G, hG⟩ : ∃ G, G = Int.gcd a c := ⟨_, rfl⟩
    have co : Int.gcd x y = 1 := by
      have e2 : G = G * Int.gcd x y := by
        have h3 := hG
        rw [← hG] at hx hy
        rw [hx, hy, Int.gcd_mul_left, Int.natAbs_natCast] at h3
        exact h3
      have := Nat.eq_of_mul_eq_mul_left (show 0 < G by omega) (show G * 1 = G * Int.gcd x y by omega)
      omega
    rw [← hG] at hx hy gn
    have g0 : 0 < (G : Int) := by omega
    clear hG
    generalize (G : Int) = g at *
    have x0 : 0 < x := Int.pos_of_mul_pos_right (a := g) (by omega) g0
    have xy : x < y := Int.lt_of_mul_lt_mul_left (a := g) (by omega) (by omega)
    subst hx
    subst hy
    have e : g * (t * g * x * y) = g * (b * (x + y)) := by grind
    have e := Int.eq_of_mul_eq_mul_left (show g ≠ 0 by omega) e
    have c1 : Int.gcd x (x + y) = 1 := by rw [Int.gcd_self_add_right]; exact co
    have c2 : Int.gcd y (x + y) = 1 := by rw [Int.gcd_add_self_right, Int.gcd_comm]; exact co
    refine ⟨x, y, x0, xy, ?_, ?_, co, ?_⟩
    · exact cop_dvd (y := x + y) ⟨t * g * y, by rw [Int.mul_comm, ← e]; grind⟩ c1
    · exact cop_dvd (y := x + y) ⟨t * g * x, by rw [Int.mul_comm, ← e]; grind⟩ c2
    · exact cop_dvd (y := b) ⟨g * x * y, by rw [← e]; grind⟩ h.g
  · rintro ⟨x, y, x0, xy, dx, dy, co, dt⟩ hn
    have dxy : x * y ∣ b := cop_mul co dx dy
    obtain ⟨m, hm⟩ := dxy
    obtain ⟨k, hk⟩ := dt
    have y0 : 0 < y := by omega
    have xyp := Int.mul_pos x0 y0
    have m0 : 0 < m := Int.pos_of_mul_pos_right (a := x * y) (by omega) xyp
    have k0 : 0 < k := Int.pos_of_mul_pos_right (a := t) (by omega) t0
    have km := Int.mul_pos k0 m0
    have : (k * m * x, k * m * y) ∈ ups t b := (mem_ups h).mpr ⟨Int.mul_pos km x0, Int.mul_lt_mul_of_pos_left xy km, by
      have : k * m * x + k * m * y = k * m * (x + y) := by grind
      rw [this, hm, hk]
      grind⟩
    rw [hn] at this
    cases this
end
end Lw
namespace Lw
open Pv PySem
noncomputable abbrev Pg : List Fn := plOf L
noncomputable abbrev Gg : Gls := glOf L gls nx
section
variable {n : Nat} {x s : Int × Int} {p : Int} {ps : List Int}
theorem isr_ok (h1 : x.1.natAbs < 10 ^ 40) (h : Lo x) (h3 : x.2 < 10 ^ 40) : run Pg Gg (n + 3) 6 [.v (pr x)] = .ret (.pv .none) none :=
  check1_ok (jr := 5) (x := 3) rfl (isRatio_ok (P := Pg) (gl := Gg) (n := n) (j := 5) (ji := 0) (js := 2) (jc := 4) (g := 0) rfl rfl rfl rfl rfl (p := x) h1 h.1 h3 h.2)
theorem plusU {B m : Nat} (h : Sz2 m s) (h0 : 0 < p) (hp : p.natAbs < 2 ^ B) (hm : m + B ≤ 8000) : run Pg Gg (n + 3) 8 [.v (pr s), .v (pr (1, p))] = .ret (.pv (pr (up s p))) none := by
  obtain ⟨_, h1, h2⟩ := up_sz h h0 hp
  have := plus_okG (P := Pg) (gl := Gg) (n := n) (j := 8) (jm := 7) (jc := 4) rfl rfl rfl (p := s) (q := (1, p)) (big_of h.a (by omega)) (big_of h.b (by omega)) (by rw [BIG_eq]; exact Nat.one_lt_two_pow (by decide)) (big_of hp (by omega)) h.lo.1 h0 (gcd_ok h1 (sz_le h2 hm))
  rw [show (1 : Int) * s.2 = s.2 by omega] at this
  exact this
/-- what stands in the way of a greatest part: only sizes -/
structure Gz (x : Int × Int) (p : Int) : Prop where
  a : x.1.natAbs < BIG
  b : x.2.natAbs < BIG
  c : p.natAbs < BIG
  x0 : 0 < x.2
  p0 : 0 < p
  g : Ok (Int.gcd (x.1 * p - x.2) (x.2 * p) : Int)
theorem minusU (h : Gz x p) : run Pg Gg (n + 3) 9 [.v (pr x), .v (pr (1, p))] = .ret (.pv (pr (lft x.1 x.2 p))) none := by
  have := minus_okG (P := Pg) (gl := Gg) (n := n) (j := 9) (jm := 7) (jc := 4) rfl rfl rfl (p := x) (q := (1, p)) h.a h.b (by rw [BIG_eq]; exact Nat.one_lt_two_pow (by decide)) h.c h.x0 h.p0 (by rw [show (1 : Int) * x.2 = x.2 by omega]; exact h.g)
  rw [show (1 : Int) * x.2 = x.2 by omega] at this
  exact this
theorem lessPartT (h : Gz x p) : run Pg Gg (n + 2) 24 [.v (pr x), .v (.int p)] = .ret (.pv (pr (lft x.1 x.2 p))) none := by
  have lo := lowS_okG (P := Pg) (gl := Gg) (n := n) (j := 21) (t := x.1 * p - x.2) (b := x.2 * p) rfl (Int.mul_pos h.x0 h.p0) h.g
  rw [run_succ (f := f__law_less_part) rfl, if_pos ⟨rfl, rfl⟩]
  simp [Pv.lim_n, Pv.addX, Pv.extX, Pv.jx0, Pv.jx1, -List.map_map, -List.map_reverse, -List.map_tail, -List.map_take, -List.map_drop, f__law_less_part, prx0, prx1, b_mul h.a h.c, b_mul h.b h.c, lo]
  rfl
/-- ascending, within bounds -/
structure Pq (ps : List Int) : Prop where
  l0 : 0 < ps.length
  l : ps.length ≤ 20
  s : ∀ p ∈ ps, 0 < p ∧ p < 10 ^ 40
  a : ∀ k x y, ps[k]? = some x → ps[k + 1]? = some y → x < y
theorem Pq.bits (h : Pq ps) : Ps 133 ps := fun p hp => by have := h.s p hp; omega
theorem checkParts (h : Pq ps) : run Pg Gg (n + 4) 12 [.v (td ps)] = .ret (.pv .none) none := by
  have hl := h.l
  have hl0 := h.l0
  refine check1_ok (jr := 11) (x := 2) rfl ?_
  have a0 : run Pg Gg (n + 2) 3 [.v (td ps), .v (.int 1), .v (.int 1000)] = .ret (.pv (.bool true)) none := areInts_ok (j := 3) (ji := 0) (js := 2) rfl rfl rfl (ns := ps) (lo := 1) (hi := 1000) (by omega) (by omega) (Nat.le_trans hl (by decide))
  have c1 : evE (cf Pg Gg (n + 2)) f_are_parts_c1 [some (.v (td ps)), none, none] = .ok (.fr (ps.map fun _ => .bool true)) [some (.v (td ps)), none, none] :=
    lc_all1 (by simp) rfl (by omega) (by simp) fun p hp => by
      obtain ⟨h1, h2⟩ := h.s p hp
      have g0 : Gg.g 0 = some (.int (10 ^ 40)) := rfl
      have g0 : Gg.g 0 = some (.int 10000000000000000000000000000000000000000) := g0
      have h2 : p < 10000000000000000000000000000000000000000 := h2
      simp [g0, h1, h2]
  have c2 : evE (cf Pg Gg (n + 2)) f_are_parts_c2 [some (.v (td ps)), none, none] = .ok (.fr ((ps.zip ps.tail).map fun _ => .bool true)) [some (.v (td ps)), none, none] :=
    lc_all2 (f1 := fun p : Int × Int => .int p.1) (f2 := fun p => .int p.2) (by simp) (by simp) (by decide) rfl (by have := zip_len ps; omega) (by
      have cu : cut (ps.map PyData.int) (some 1) none = (ps.map PyData.int).drop 1 := cut_drop (by decide)
      have z : zipO (.tuple (ps.map PyData.int)) (.tuple ((ps.map PyData.int).drop 1)) = some ((ps.zip ps.tail).map fun p => .tuple [.int p.1, .int p.2]) := congrArg some (zip_tail ps)
      show evI _ _ [some (.v (.tuple (ps.map PyData.int))), none, none] = .ok _ [some (.v (.tuple (ps.map PyData.int))), none, none]
      generalize ps.map PyData.int = us at *
      simp [Pv.lim_n, Pv.addX, Pv.extX, Pv.jx0, Pv.jx1, -List.map_map, -List.map_reverse, -List.map_tail, -List.map_take, -List.map_drop, cu, -List.drop_one, z]) fun p hp => by
      obtain ⟨k, k1, k2⟩ := zip_mem hp
      have := h.a k _ _ k1 k2
      simp [this]
  have b1 := all_bt ps
  have b2 := all_bt (ps.zip ps.tail)
  rw [run_succ (f := f_are_parts) rfl, if_pos ⟨rfl, rfl⟩]
  generalize (ps.map fun _ => PyData.bool true) = u1 at *
  generalize ((ps.zip ps.tail).map fun _ => PyData.bool true) = u2 at *
  generalize td ps = tp at *
  simp [Pv.lim_n, Pv.addX, Pv.extX, Pv.jx0, Pv.jx1, -List.map_map, -List.map_reverse, -List.map_tail, -List.map_take, -List.map_drop, f_are_parts, a0, c1, c2, b1, b2]
theorem sum_loop (h : Pq ps) {m : List D} (hm : m = ps.map fun p => pr (1, p)) : run Pg Gg (n + 4) 10 [.v (.list m)] = .ret (.pv (pr (sumP ps))) none := by
  have hl := h.l
  have sz : ∀ k, Sz2 (1 + 134 * k) ((ps.take k).foldl up (0, 1)) := fun k => by
    have := sumP_sz (B := 133) (ps.take k) (0, 1) 1 (fun p hp => h.bits p (List.mem_of_mem_take hp)) sz2_01
    refine ⟨this.lo, sz_le this.a ?_, sz_le this.b ?_⟩ <;> (rw [List.length_take]; omega)
  obtain ⟨ρ', e, l⟩ := for_seq (T := noT) (C := cf Pg Gg (n + 3)) (b := f_summed_b1) (t := .n 2) (it := .of (.v 0)) (xs := m) (ρ := [some (.v (.list m)), some (.v (pr (0, 1))), none]) (ρ1 := [some (.v (.list m)), some (.v (pr (0, 1))), none]) (fun k => [some (.v (.list m)), some (.v (pr ((ps.take k).foldl up (0, 1)))), none]) rfl (by simp) (Le.refl _ _) fun k d hd => by
    rw [hm, List.getElem?_map] at hd
    obtain ⟨q, hq, rfl⟩ := Option.map_eq_some_iff.mp hd
    obtain ⟨q0, q1⟩ := h.bits q (List.mem_of_getElem? hq)
    have hk : k < ps.length := (List.getElem?_eq_some_iff.mp hq).1
    have pl := plusU (n := n) (sz k) q0 q1 (by omega)
    have e1 : (ps.take (k + 1)).foldl up (0, 1) = up ((ps.take k).foldl up (0, 1)) q := by
      rw [List.take_add_one, hq]
      simp
    rw [e1]
    generalize (ps.take k).foldl up (0, 1) = s at *
    generalize up s q = u at *
    refine ⟨_, by simp [Pv.lim_n, Pv.addX, Pv.extX, Pv.jx0, Pv.jx1, -List.map_map, -List.map_reverse, -List.map_tail, -List.map_take, -List.map_drop, f_summed_b1, pl]; rfl, le_of (by simp)⟩
  have g := l.get (i := 1) rfl
  rw [show m.length = ps.length by rw [hm, List.length_map], List.take_length] at g
  have e' : evS (cf Pg Gg (n + 3)) f_summed_l1 [some (.v (.list m)), some (.v (.tuple [.int 0, .int 1])), none] = .nx ρ' := e
  have g0 : Gg.g 1 = some (.tuple [.int 0, .int 1]) := rfl
  rw [run_succ (f := f_summed) rfl, if_pos ⟨rfl, rfl⟩]
  have g : ρ'[1]? = some (some (.v (pr (sumP ps)))) := g
  generalize sumP ps = sp at *
  simp [Pv.lim_n, Pv.addX, Pv.extX, Pv.jx0, Pv.jx1, -List.map_map, -List.map_reverse, -List.map_tail, -List.map_take, -List.map_drop, f_summed, g0, e', g]
theorem sumPartsT (h : Pq ps) : run Pg Gg (n + 5) 13 [.v (td ps)] = .ret (.pv (pr (sumP ps))) none := by
  have hl := h.l
  have c := checkParts (n := n) h
  have s := sum_loop (n := n) h rfl
  have c1 : evE (cf Pg Gg (n + 4)) f_sum_of_parts_c1 [some (.v (td ps)), none] = .ok (.fr (ps.map fun p => pr (1, p))) [some (.v (td ps)), none] :=
    lc_all1 (by simp) rfl (by omega) (by simp) fun p hp => by simp [lim_n, pr]
  rw [run_succ (f := f_sum_of_parts) rfl, if_pos ⟨rfl, rfl⟩]
  generalize (ps.map fun p => pr (1, p)) = u at *
  generalize td ps = tp at *
  simp [Pv.lim_n, Pv.addX, Pv.extX, Pv.jx0, Pv.jx1, -List.map_map, -List.map_reverse, -List.map_tail, -List.map_take, -List.map_drop, f_sum_of_parts, c, c1, s]
theorem lowU {B m : Nat} (h : Sz2 m s) (h0 : 0 < p) (hp : p.natAbs < 2 ^ B) (hm : m + B ≤ 8000) : run Pg Gg (n + 1) 21 [.v (.int (s.1 * p + s.2)), .v (.int (s.2 * p))] = .ret (.pv (pr (up s p))) none := by
  obtain ⟨_, h1, h2⟩ := up_sz h h0 hp
  exact lowS_okG (P := Pg) (gl := Gg) rfl h1 (gcd_ok h1 (sz_le h2 hm))
theorem lawSumT {B : Nat} {sq : D} (hB : B ≤ 133) (hw : walkD sq = some (ps.map .int)) (hl : ps.length ≤ 20) (h : Ps B ps) : run Pg Gg (n + 2) 22 [.v sq] = .ret (.pv (pr (sumP ps))) none := by
  obtain ⟨ρ', e, l, _⟩ := for_fold (T := noT) (C := cf Pg Gg (n + 1)) (b := f__law_sum_b1) (fun s : Int × Int => [some (.v sq), none, some (.v (.int s.1)), some (.v (.int s.2))]) up (fun k s => k ≤ 20 → Sz2 (1 + (B + 1) * k) s) (i := 1) (it := .of (.v 0)) (ns := ps) (σ := (0, 1))
    (ρ := [some (.v sq), none, some (.v (.int 0)), some (.v (.int 1))]) (ρ1 := [some (.v sq), none, some (.v (.int 0)), some (.v (.int 1))]) rfl (by simp [hw]) (Le.refl _ _) (fun _ => sz2_01) fun k y s hy hs => by
    obtain ⟨y0, y1⟩ := h y (List.mem_of_getElem? hy)
    have hk : k < ps.length := (List.getElem?_eq_some_iff.mp hy).1
    have hs := hs (by omega)
    have hm : 1 + (B + 1) * k ≤ 2700 := by
      have := Nat.mul_le_mul (show B + 1 ≤ 134 by omega) (show k ≤ 20 by omega)
      omega
    have lo := lowU (n := n) hs y0 y1 (by omega)
    refine ⟨fun _ => by rw [show 1 + (B + 1) * (k + 1) = 1 + (B + 1) * k + B + 1 by rw [Nat.mul_succ]; omega]; exact (up_sz hs y0 y1).1, ?_⟩
    have m1 := b_mul (big_of hs.a (by omega)) (big_of y1 (by omega))
    have m2 := b_mul (big_of hs.b (by omega)) (big_of y1 (by omega))
    generalize up s y = u at *
    have lo : run Pg Gg (n + 1) 21 [.v (.int (s.1 * y + s.2)), .v (.int (s.2 * y))] = .ret (.pv (.tuple [.int u.1, .int u.2])) none := lo
    refine ⟨_, by simp [Pv.lim_n, Pv.addX, Pv.extX, Pv.jx0, Pv.jx1, -List.map_map, -List.map_reverse, -List.map_tail, -List.map_take, -List.map_drop, f__law_sum_b1, m1, m2, lo]; rfl, le_of (by simp)⟩
  have g2 := l.get (i := 2) rfl
  have g3 := l.get (i := 3) rfl
  have e' : evS (cf Pg Gg (n + 1)) f__law_sum_l1 [some (.v sq), none, some (.v (.int 0)), some (.v (.int 1))] = .nx ρ' := e
  have fin : ∃ ρ2, evSs (cf Pg Gg (n + 1)) (.cons (.ret (.tup (.cons (.v 2) (.cons (.v 3) .nil)))) .nil) ρ' = .ret (.pv (pr (sumP ps))) ρ2 := by
    obtain ⟨ρ2, e2, _⟩ := rest_ret (T := noT) (C := cf Pg Gg (n + 1)) (s := .cons (.ret (.tup (.cons (.v 2) (.cons (.v 3) .nil)))) .nil) (x := .pv (pr (sumP ps))) (by rfl) l (by simp [lim_n, pr, sumP]; rfl)
    exact ⟨ρ2, e2⟩
  obtain ⟨ρ2, fin⟩ := fin
  rw [run_succ (f := f__law_sum) rfl, if_pos ⟨rfl, rfl⟩]
  show finR _ (evSs _ (.cons (.asg (.t [2, 3]) (.tup (.cons (.k (.int 0)) (.cons (.k (.int 1)) .nil)))) (.cons f__law_sum_l1 (.cons (.ret (.tup (.cons (.v 2) (.cons (.v 3) .nil)))) .nil))) [some (.v sq), none, none, none]) = _
  have s1 : evS (cf Pg Gg (n + 1)) (.asg (.t [2, 3]) (.tup (.cons (.k (.int 0)) (.cons (.k (.int 1)) .nil)))) [some (.v sq), none, none, none] = .nx [some (.v sq), none, some (.v (.int 0)), some (.v (.int 1))] := by simp [lim_n]
  rw [ss_cons, s1, SR.bind_nx, ss_cons, e', SR.bind_nx, fin]
  rfl
end
theorem dl : Deal Pg Gg 19 Hd4 := dealB (jm := 18) rfl rfl
end Lw
namespace Lw
/-! ### counting divisors, for the kernel -/
@[irreducible] noncomputable def mdI (f : Nat) : Nat → Nat → Nat → (Nat → Nat → Nat) → Nat := Nat.rec (motive := fun _ => Nat → Nat → Nat → (Nat → Nat → Nat) → Nat) (fun _ _ _ _ => 0) (fun _ ih l p w K => cond (Nat.beq (Nat.mul (Nat.div l p) p) l) (ih (Nat.div l p) p (Nat.succ w) K) (K l w)) f
@[irreducible] noncomputable def mdO (f : Nat) : Nat → Nat → Nat → Nat := Nat.rec (motive := fun _ => Nat → Nat → Nat → Nat) (fun _ _ _ => 0) (fun _ ih l p m => cond (Nat.ble 2 l) (mdI 14 l p 0 fun l' w => ih l' (Nat.succ p) (Nat.mul m (Nat.succ (Nat.mul 2 w)))) m) f
@[irreducible] noncomputable def pfG (n m : Nat) : Nat := Nat.rec (motive := fun _ => Nat) 0 (fun k ih => cond (Nat.beq (Nat.mod (Nat.mul n (Nat.add n (Nat.succ k))) (Nat.succ k)) 0) (Nat.succ ih) ih) m
noncomputable def allN (f : Nat → Bool) (m : Nat) : Bool := Nat.rec (motive := fun _ => Bool) true (fun k ih => cond (f k) ih false) m
theorem allN_ok {f : Nat → Bool} : ∀ {m : Nat}, allN f m = true → ∀ k, k < m → f k = true
  | 0, _, k, hk => by omega
  | m + 1, h, k, hk => by
    have h : cond (f m) (allN f m) false = true := h
    cases hf : f m with
    | false => rw [hf] at h; cases h
    | true =>
      rw [hf] at h
      by_cases e : k = m
      · rw [e, hf]
      · exact allN_ok h k (by omega)
theorem pairsAll : allN (fun k => Nat.beq (Nat.mul 2 (pfG (Nat.succ k) (Nat.succ k))) (Nat.succ (mdO 1001 (Nat.succ k) 2 1))) 1000 = true := by decide +kernel
theorem mdI_s (f l p w : Nat) (K : Nat → Nat → Nat) : mdI (f + 1) l p w K = cond (Nat.beq (l / p * p) l) (mdI f (l / p) p (w + 1) K) (K l w) := by kernel_rfl
theorem mdI_0 (l p w : Nat) (K : Nat → Nat → Nat) : mdI 0 l p w K = 0 := by kernel_rfl
theorem mdO_s (f l p m : Nat) : mdO (f + 1) l p m = cond (Nat.ble 2 l) (mdI 14 l p 0 fun l' w => mdO f l' (p + 1) (m * (2 * w + 1))) m := by kernel_rfl
theorem mdO_0 (l p m : Nat) : mdO 0 l p m = 0 := by kernel_rfl
theorem pfG_s (n m : Nat) : pfG n (m + 1) = cond (Nat.beq (n * (n + (m + 1)) % (m + 1)) 0) (pfG n m + 1) (pfG n m) := by kernel_rfl
theorem pfG_0 (n : Nat) : pfG n 0 = 0 := by kernel_rfl
theorem pairs_n {n : Nat} (h1 : 1 ≤ n) (h2 : n ≤ 1000) : 2 * pfG n n = mdO 1001 n 2 1 + 1 := by
  have := allN_ok pairsAll (n - 1) (by omega)
  rw [show Nat.succ (n - 1) = n by omega] at this
  exact Nat.eq_of_beq_eq_true this
end Lw
namespace Lw
open Pv PySem
section
variable {n : Nat} {t b a c : Int} {C : Cfg}
theorem md_inner {x1 x3 : Option Slot} {p : Nat} (hp : 0 < p) (hps : p ≤ 100000) : ∀ (f l w : Nat) (K : Nat → Nat → Nat) (r : Nat), mdI f l p w K = r → r ≠ 0 → ∃ l' w' : Nat, evS C f__law_many_divisors_l1 [x1, x3, some (.v (.int (l : Int))), some (.v (.int (p : Int))), some (.v (.int (w : Int)))] = .nx [x1, x3, some (.v (.int (l' : Int))), some (.v (.int (p : Int))), some (.v (.int (w' : Int)))] ∧ K l' w' = r ∧ l' ≤ l ∧ w' ≤ w + f
  | 0, l, w, K, r, h, hr => absurd ((mdI_0 l p w K).symm.trans h).symm hr
  | f + 1, l, w, K, r, h, hr => by
    rw [mdI_s] at h
    have d1 : binD .fdiv (.int (l : Int)) (.int (p : Int)) = some (.int ((l / p : Nat) : Int)) := by
      rw [fd_p (by omega) (by omega)]
      rfl
    have m1 : binD .mul (.int ((l / p : Nat) : Int)) (.int (p : Int)) = some (.int ((l / p * p : Nat) : Int)) := by
      rw [b_mulR (by omega)]
      rfl
    cases z : Nat.beq (l / p * p) l with
    | true =>
      rw [z] at h
      have e : l / p * p = l := Nat.eq_of_beq_eq_true z
      obtain ⟨l', w', e1, e2, e3, e4⟩ := md_inner hp hps f (l / p) (w + 1) K r h hr
      refine ⟨l', w', ?_, e2, Nat.le_trans e3 (Nat.div_le_self ..), by omega⟩
      rw [← e1]
      generalize l / p = q at *
      rw [e] at m1
      exact whl_t (ρ1 := [x1, x3, some (.v (.int (l : Int))), some (.v (.int (p : Int))), some (.v (.int (w : Int)))]) (by simp [d1, m1]) (by simp [f__law_many_divisors_b1, d1])
    | false =>
      rw [z] at h
      have e : ¬ ((l / p * p : Nat) : Int) = (l : Int) := fun z' => by
        have := Nat.ne_of_beq_eq_false z
        omega
      generalize l / p = q at *
      generalize q * p = s at *
      exact ⟨l, w, whl_f (by simp [d1, m1, e]), h, Nat.le_refl _, by omega⟩
theorem md_outer {x1 : Option Slot} : ∀ (f l p m r : Nat) (w : Option Slot), 0 < p → p + f ≤ 5000 → l ≤ 5000 → (w = none ∨ ∃ i : Int, w = some (.v (.int i))) → mdO f l p m = r → r ≠ 0 → ∃ l' p' w', evS C f__law_many_divisors_l2 [x1, some (.v (.int (m : Int))), some (.v (.int (l : Int))), some (.v (.int (p : Int))), w] = .nx [x1, some (.v (.int (r : Int))), l', p', w']
  | 0, l, p, m, r, w, _, _, _, _, h, hr => absurd ((mdO_0 l p m).symm.trans h).symm hr
  | f + 1, l, p, m, r, w, hp, hps, hl, hw, h, hr => by
    rw [mdO_s] at h
    cases z : Nat.ble 2 l with
    | true =>
      rw [z] at h
      have l2 : 2 ≤ l := Nat.le_of_ble_eq_true z
      obtain ⟨l', w', e1, e2, e3, e5⟩ := md_inner (x1 := x1) (x3 := some (.v (.int (m : Int)))) (C := C) hp (by omega) 14 l 0 _ r h hr
      obtain ⟨u1, u2, u3, e4⟩ := md_outer (x1 := x1) f l' (p + 1) (m * (2 * w' + 1)) r (some (.v (.int (w' : Int)))) (by omega) (by omega) (by omega) (.inr ⟨_, rfl⟩) e2 hr
      refine ⟨u1, u2, u3, ?_⟩
      rw [← e4]
      have mw : binD .mul (.int 2) (.int (w' : Int)) = some (.int (2 * (w' : Int))) := b_mulL (by decide)
      have m1 : binD .mul (.int (m : Int)) (.int (2 * (w' : Int) + 1)) = some (.int (m * (2 * (w' : Int) + 1))) := b_mulR (by omega)
      have e1 : evS C f__law_many_divisors_l1 [x1, some (.v (.int (m : Int))), some (.v (.int (l : Int))), some (.v (.int (p : Int))), some (.v (.int 0))] = _ := e1
      rcases hw with rfl | ⟨i, rfl⟩
      · exact whl_t (ρ1 := [x1, some (.v (.int (m : Int))), some (.v (.int (l : Int))), some (.v (.int (p : Int))), none]) (by simp; omega) (by simp [f__law_many_divisors_b2, e1, mw, m1])
      · exact whl_t (ρ1 := [x1, some (.v (.int (m : Int))), some (.v (.int (l : Int))), some (.v (.int (p : Int))), some (.v (.int i))]) (by simp; omega) (by simp [f__law_many_divisors_b2, e1, mw, m1])
    | false =>
      rw [z] at h
      have l2 : ¬ 1 < (l : Int) := fun z' => by
        have : Nat.ble 2 l = true := Nat.ble_eq_true_of_le (by omega)
        rw [this] at z
        cases z
      have h : m = r := h
      rw [← h]
      rcases hw with rfl | ⟨i, rfl⟩
      · exact ⟨some (.v (.int (l : Int))), some (.v (.int (p : Int))), none, whl_f (by simp [l2])⟩
      · exact ⟨some (.v (.int (l : Int))), some (.v (.int (p : Int))), some (.v (.int i)), whl_f (by simp [l2])⟩
end
end Lw
namespace Lw
open Pv PySem
section
variable {n : Nat} {t b a c : Int}
theorem Tb.lo (h : Tb t b) : Lo (t, b) := ⟨by have := h.t0; have := h.tb; show 0 < b; omega, h.g⟩
theorem manyDiv {m : Nat} (h1 : 1 ≤ m) (h2 : m ≤ 1000) : run Pg Gg (n + 1) 29 [.v (.int (m : Int))] = .ret (.pv (.int ((2 * pfG m m : Nat) - 1 : Int))) none := by
  have pn := pairs_n h1 h2
  have pf1 : 1 ≤ pfG m m := by
    have key : ∀ k, 1 ≤ pfG m (k + 1) := fun k => by
      induction k with
      | zero =>
        rw [pfG_s, pfG_0]
        have : Nat.beq (m * (m + (0 + 1)) % (0 + 1)) 0 = true := by
          rw [Nat.zero_add, Nat.mod_one]
          rfl
        rw [this]
        exact Nat.le_refl _
      | succ k ih =>
        rw [pfG_s]
        cases Nat.beq (m * (m + (k + 1 + 1)) % (k + 1 + 1)) 0 with
        | true => show 1 ≤ _ + 1; omega
        | false => exact ih
    have := key (m - 1)
    rwa [show m - 1 + 1 = m by omega] at this
  obtain ⟨u1, u2, u3, e⟩ := md_outer (C := cf Pg Gg n) (x1 := some (.v (.int (m : Int)))) 1001 m 2 1 (mdO 1001 m 2 1) none (by decide) (by decide) (by omega) (.inl rfl) rfl (by omega)
  have e : evS (cf Pg Gg n) f__law_many_divisors_l2 [some (.v (.int (m : Int))), some (.v (.int 1)), some (.v (.int (m : Int))), some (.v (.int 2)), none] = _ := e
  have ee : ((2 * pfG m m : Nat) - 1 : Int) = ((mdO 1001 m 2 1 : Nat) : Int) := by omega
  rw [ee, run_succ (f := f__law_many_divisors) rfl, if_pos ⟨rfl, rfl⟩]
  generalize mdO 1001 m 2 1 = r at *
  simp [Pv.lim_n, Pv.addX, Pv.extX, Pv.jx0, Pv.jx1, -List.map_map, -List.map_reverse, -List.map_tail, -List.map_take, -List.map_drop, f__law_many_divisors, e]
theorem checkProper (h : Tb t b) (hp : t < b) : run Pg Gg (n + 4) 14 [.v (pr (t, b))] = .ret (.pv .none) none := by
  have t0 := h.t0
  have b1 := h.b1
  have c1 := isr_ok (n := n) (x := (t, b)) (by dsimp only; omega) h.lo (by dsimp only; omega)
  have g : Gg.g 2 = some (.int 1000) := rfl
  have p0 := prx0 (t, b)
  have p1 := prx1 (t, b)
  have l1 : ¬ b ≤ t := by omega
  have l2 : ¬ 1000 < b := by omega
  have l3 : ¬ t ≤ 0 := by omega
  rw [run_succ (f := f_check_proper) rfl, if_pos ⟨rfl, rfl⟩]
  generalize pr (t, b) = v at *
  simp [Pv.lim_n, Pv.addX, Pv.extX, Pv.jx0, Pv.jx1, -List.map_map, -List.map_reverse, -List.map_tail, -List.map_take, -List.map_drop, f_check_proper, c1, p0, p1, g, t0, hp, l1, l2, l3, b1]
theorem rgS (h : Tb t b) : rngOf [.int (b / t + 1), .int (2 * b / t + 1)] = some (rgA t b, rgN t b, 1) := by
  have t0 := h.t0
  have b1 := h.b1
  have b0 : 0 < b := by have := h.tb; omega
  have q1 : b / t ≤ b := Int.ediv_le_self _ (by omega)
  have q2 : 2 * b / t ≤ 2 * b := Int.ediv_le_self _ (by omega)
  have q3 : 0 ≤ b / t := Int.ediv_nonneg (by omega) (by omega)
  have q4 : 0 ≤ 2 * b / t := Int.ediv_nonneg (by omega) (by omega)
  exact rng2 (by omega) (by omega)
theorem rgN_le (h : Tb t b) : rgN t b ≤ 2001 := by
  have t0 := h.t0
  have b1 := h.b1
  have b0 : 0 < b := by have := h.tb; omega
  have q2 : 2 * b / t ≤ 2 * b := Int.ediv_le_self _ (by omega)
  have q3 : 0 ≤ b / t := Int.ediv_nonneg (by omega) (by omega)
  have : rgN t b = (2 * b / t + 1 - (b / t + 1)).toNat := rfl
  omega
abbrev Et (t b : Int) (ys : List D) : Pv.Env := [some (.v (pr (t, b))), some (.own ys), none, none]
theorem two_turn (h : Tb t b) {k : Nat} {x : Int} (hx : (irng (rgA t b) (rgN t b))[k]? = some x) {ys : List D} (hy : ys.length ≤ k) : ∃ ρ1, ((putT (Et t b ys) (.n 2) (.int x)).toS fun _ ρ => evSs (cf Pg Gg (n + 4)) f_two_parts_b1 ρ) = .nx ρ1 ∧ Le noT (Et t b (if isU t b x = true then ys ++ [pr (x, cb t b x)] else ys)) ρ1 := by
  have t0 := h.t0
  have b1 := h.b1
  have tb := h.tb
  have b0 : 0 < b := by omega
  have hx' := List.mem_of_getElem? hx
  obtain ⟨r1, r2, r3, r4⟩ := h.rg hx'
  have kk := (irng_get hx).1
  have rl := rgN_le h
  have bx := Int.mul_pos b0 r2
  have gz : Gz (t, b) x := ⟨bg (m := 20) (by dsimp only; omega), bg (m := 20) (by dsimp only; omega), bg (m := 20) (by omega), b0, r2, gcd_ok bx (sz_le (n := 60) (by
    rw [Int.natAbs_mul]
    have : b.natAbs * x.natAbs ≤ 1000 * 2000 := Nat.mul_le_mul (by omega) (by omega)
    dsimp only
    omega) (by decide))⟩
  have mi := minusU (n := n + 1) gz
  obtain ⟨u1, u2⟩ := unit_iff r1 bx
  have mi : run Pg Gg (n + 4) 9 [.v (pr (t, b)), .v (.tuple [.int 1, .int x])] = .ret (.pv (pr (redP (t * x - b) (b * x)))) none := mi
  have lt : ys.length < 1000000 := by omega
  have pe : pr (x, cb t b x) = .tuple [.int x, .int (cb t b x)] := rfl
  rw [pe]
  dsimp only [Et]
  have v0 := prx0 (redP (t * x - b) (b * x))
  have v1 := prx1 (redP (t * x - b) (b * x))
  by_cases z : (t * x - b) ∣ b * x
  · have e1 := u1.mpr z
    have e2 : (redP (t * x - b) (b * x)).2 = cb t b x := u2 z
    rw [e1] at v0
    rw [e2] at v1
    have iu : isU t b x = decide (x < cb t b x) := by unfold isU isP; rw [decide_eq_true z, Bool.true_and]
    rw [iu]
    clear e1 e2 u1 u2 iu gz h hx hx'
    generalize pr (redP (t * x - b) (b * x)) = w at *
    generalize cb t b x = cx at *
    generalize pr (t, b) = v at *
    by_cases z2 : x < cx
    · rw [if_pos (decide_eq_true z2)]
      exact ⟨_, by simp [Pv.lim_n, Pv.addX, Pv.extX, Pv.jx0, Pv.jx1, -List.map_map, -List.map_reverse, -List.map_tail, -List.map_take, -List.map_drop, f_two_parts_b1, mi, v0, v1, z2, lt]; rfl, le_of (by simp)⟩
    · rw [if_neg (by simpa using z2)]
      exact ⟨_, by simp [Pv.lim_n, Pv.addX, Pv.extX, Pv.jx0, Pv.jx1, -List.map_map, -List.map_reverse, -List.map_tail, -List.map_take, -List.map_drop, f_two_parts_b1, mi, v0, v1, z2, lt]; rfl, le_of (by simp)⟩
  · have e1 : ¬ (redP (t * x - b) (b * x)).1 = 1 := fun q => z (u1.mp q)
    have iu : isU t b x = false := by unfold isU isP; rw [decide_eq_false z, Bool.false_and]
    rw [iu]
    clear u1 u2 iu gz h hx hx' v1
    generalize (redP (t * x - b) (b * x)).1 = r at *
    generalize pr (redP (t * x - b) (b * x)) = w at *
    generalize pr (t, b) = v at *
    rw [if_neg (by decide)]
    exact ⟨_, by simp [Pv.lim_n, Pv.addX, Pv.extX, Pv.jx0, Pv.jx1, -List.map_map, -List.map_reverse, -List.map_tail, -List.map_take, -List.map_drop, f_two_parts_b1, mi, v0, e1]; rfl, le_of (by simp)⟩
theorem twoParts (h : Tb t b) (hp : t < b) : run Pg Gg (n + 5) 15 [.v (pr (t, b))] = .ret (.pv (.tuple ((ups t b).map pr))) none := by
  have t0 := h.t0
  have b1 := h.b1
  have b0 : 0 < b := by omega
  have c1 := checkProper (n := n) h hp
  have p0 := prx0 (t, b)
  have p1 := prx1 (t, b)
  have d1 : binD .fdiv (.int b) (.int t) = some (.int (b / t)) := fd_p t0 (by omega)
  have d2 : binD .fdiv (.int (2 * b)) (.int t) = some (.int (2 * b / t)) := fd_p t0 (by omega)
  have m2 : binD .mul (.int 2) (.int b) = some (.int (2 * b)) := b_mulL (by decide)
  have hit : evI (cf Pg Gg (n + 4)) (.rng (.cons (.bin .add (.bin .fdiv (.ixv 0 (.k (.int 1))) (.ixv 0 (.k (.int 0)))) (.k (.int 1))) (.cons (.bin .add (.bin .fdiv (.bin .mul (.k (.int 2)) (.ixv 0 (.k (.int 1)))) (.ixv 0 (.k (.int 0)))) (.k (.int 1))) .nil))) (Et t b []) = .ok ((irng (rgA t b) (rgN t b)).map .int) (Et t b []) := by
    rw [← rng_ints]
    refine i_rngA (ds := [.int (b / t + 1), .int (2 * b / t + 1)]) ?_ (rgS h)
    dsimp only [Et]
    generalize pr (t, b) = v at *
    simp [p0, p1, d1, d2, m2]
  obtain ⟨ρ', e, l⟩ := for_hits (T := noT) (C := cf Pg Gg (n + 4)) (b := f_two_parts_b1) (i := 2) (Et t b) (isU t b) (fun a => pr (a, cb t b a)) (by rfl) hit (Le.refl _ _) fun k x hx ys hy => two_turn h hx hy
  have g1 := l.get (i := 1) rfl
  have eu : ((irng (rgA t b) (rgN t b)).filter (isU t b)).map (fun a => pr (a, cb t b a)) = (ups t b).map pr := by
    unfold ups
    rw [List.map_map]
    rfl
  rw [eu] at g1
  have e : evS (cf Pg Gg (n + 4)) f_two_parts_l1 [some (.v (pr (t, b))), some (.own []), none, none] = .nx ρ' := e
  clear hit l eu
  rw [run_succ (f := f_two_parts) rfl, if_pos ⟨rfl, rfl⟩]
  generalize (ups t b).map pr = us at *
  generalize pr (t, b) = v at *
  simp [Pv.lim_n, Pv.addX, Pv.extX, Pv.jx0, Pv.jx1, -List.map_map, -List.map_reverse, -List.map_tail, -List.map_take, -List.map_drop, f_two_parts, c1, e, g1]
abbrev El (t b : Int) (ys : List D) : Pv.Env := [some (.v (pr (t, b))), some (.own ys), none, some (.v (.int t)), some (.v (.int b)), none, none]
def T6 (i : Nat) : Bool := i == 6
theorem lp_turn {C : Cfg} (h : Tb t b) {k : Nat} {x : Int} (hx : (irng (rgA t b) (rgN t b))[k]? = some x) {ys : List D} (hy : ys.length ≤ k) : ∃ ρ1, ((putT (El t b ys) (.n 2) (.int x)).toS fun _ ρ => evSs C f__law_pairs_b1 ρ) = .nx ρ1 ∧ Le T6 (El t b (if isP t b x = true then ys ++ [pr (x, cb t b x)] else ys)) ρ1 := by
  have t0 := h.t0
  have b1 := h.b1
  have tb := h.tb
  have b0 : 0 < b := by omega
  have hx' := List.mem_of_getElem? hx
  obtain ⟨r1, r2, r3, r4⟩ := h.rg hx'
  have kk := (irng_get hx).1
  have rl := rgN_le h
  have lt : ys.length < 1000000 := by omega
  have bx := Int.mul_pos b0 r2
  have bxs : b * x ≤ 1000 * 2000 := Int.mul_le_mul b1 r3 (by omega) (by decide)
  have m1 : binD .mul (.int t) (.int x) = some (.int (t * x)) := mu_s (by omega) (by omega)
  have m3 : binD .mul (.int b) (.int x) = some (.int (b * x)) := mu_s (by omega) (by omega)
  have pe : pr (x, cb t b x) = .tuple [.int x, .int (cb t b x)] := rfl
  have d3 : binD .fdiv (.int (b * x)) (.int (t * x - b)) = some (.int (cb t b x)) := fd_p r1 (by omega)
  have cs : 0 ≤ cb t b x ∧ cb t b x ≤ b * x := ⟨Int.ediv_nonneg (by omega) (by omega), Int.ediv_le_self _ (by omega)⟩
  have m4 : binD .mul (.int (cb t b x)) (.int (t * x - b)) = some (.int (cb t b x * (t * x - b))) := mu_s (by omega) (by omega)
  have iff : (cb t b x * (t * x - b) = b * x) ↔ (t * x - b) ∣ b * x := ⟨fun q => ⟨cb t b x, by rw [Int.mul_comm (t * x - b)]; exact q.symm⟩, fun q => Int.ediv_mul_cancel q⟩
  have ee : isP t b x = decide (cb t b x * (t * x - b) = b * x) := by
    unfold isP
    rw [decide_eq_decide]
    exact iff.symm
  rw [pe, ee]
  have bs : binD .sub (.int (t * x)) (.int b) = some (.int (t * x - b)) := rfl
  dsimp only [El]
  clear h hx hx' iff ee pe cs r1 bx bxs
  generalize cb t b x = cx at *
  generalize t * x - b = u at *
  generalize b * x = w at *
  generalize cx * u = s at *
  generalize t * x = tx at *
  by_cases z : s = w
  · rw [if_pos (decide_eq_true z)]
    exact ⟨[some (.v (pr (t, b))), some (.own (ys ++ [.tuple [.int x, .int cx]])), some (.v (.int x)), some (.v (.int t)), some (.v (.int b)), some (.v (.tuple [.int u, .int w])), none], by simp [Pv.lim_n, Pv.addX, Pv.extX, Pv.jx0, Pv.jx1, -List.map_map, -List.map_reverse, -List.map_tail, -List.map_take, -List.map_drop, -b_sub, f__law_pairs_b1, m1, m3, bs, d3, m4, z, lt], le_of (by simp)⟩
  · rw [if_neg (by simpa using z)]
    exact ⟨[some (.v (pr (t, b))), some (.own ys), some (.v (.int x)), some (.v (.int t)), some (.v (.int b)), some (.v (.tuple [.int u, .int w])), none], by simp [Pv.lim_n, Pv.addX, Pv.extX, Pv.jx0, Pv.jx1, -List.map_map, -List.map_reverse, -List.map_tail, -List.map_take, -List.map_drop, -b_sub, f__law_pairs_b1, m1, m3, bs, d3, m4, z, lt], le_of (by simp)⟩
theorem lawPairs (h : Tb t b) : run Pg Gg (n + 1) 26 [.v (pr (t, b))] = .ret (.fr ((lps t b).map pr)) none := by
  have t0 := h.t0
  have b1 := h.b1
  have tb := h.tb
  have b0 : 0 < b := by omega
  have d1 : binD .fdiv (.int b) (.int t) = some (.int (b / t)) := fd_p t0 (by omega)
  have d2 : binD .fdiv (.int (2 * b)) (.int t) = some (.int (2 * b / t)) := fd_p t0 (by omega)
  have m2 : binD .mul (.int 2) (.int b) = some (.int (2 * b)) := b_mulL (by decide)
  have hit : evI (cf Pg Gg n) (.rng (.cons (.bin .add (.bin .fdiv (.v 4) (.v 3)) (.k (.int 1))) (.cons (.bin .add (.bin .fdiv (.bin .mul (.k (.int 2)) (.v 4)) (.v 3)) (.k (.int 1))) .nil))) (El t b []) = .ok ((irng (rgA t b) (rgN t b)).map .int) (El t b []) := by
    rw [← rng_ints]
    refine i_rngA (ds := [.int (b / t + 1), .int (2 * b / t + 1)]) ?_ (rgS h)
    dsimp only [El]
    generalize pr (t, b) = v at *
    simp [d1, d2, m2]
  obtain ⟨ρ', e, l⟩ := for_hits (T := T6) (C := cf Pg Gg n) (b := f__law_pairs_b1) (i := 2) (El t b) (isP t b) (fun a => pr (a, cb t b a)) (by rfl) hit (Le.refl _ _) fun k x hx ys hy => lp_turn h hx hy
  clear hit
  have eu : ((irng (rgA t b) (rgN t b)).filter (isP t b)).map (fun a => pr (a, cb t b a)) = (((irng (rgA t b) (rgN t b)).filter (isP t b)).map fun a => (a, cb t b a)).map pr := by
    rw [List.map_map]
    rfl
  rw [eu] at l
  have ef : (((irng (rgA t b) (rgN t b)).filter (isP t b)).map fun a => (a, cb t b a)).filter (fun p => decide (p.1 ≤ p.2)) = lps t b := by
    unfold lps
    rw [List.filter_map, List.filter_filter]
    congr 1
    refine List.filter_congr fun x _ => ?_
    show (decide (x ≤ cb t b x) && isP t b x) = _
    rw [Bool.and_comm]
  have ln : (((irng (rgA t b) (rgN t b)).filter (isP t b)).map fun a => (a, cb t b a)).length ≤ 1000000 := by
    rw [List.length_map]
    have := List.length_filter_le (isP t b) (irng (rgA t b) (rgN t b))
    rw [irng_len] at this
    have := rgN_le h
    omega
  clear eu
  generalize (((irng (rgA t b) (rgN t b)).filter (isP t b)).map fun a => (a, cb t b a)) = ps at *
  have c1 : evE (cf Pg Gg n) f__law_pairs_c1 (El t b (ps.map pr)) = .ok (.fr ((ps.filter fun p => decide (p.1 ≤ p.2)).map pr)) [some (.v (pr (t, b))), some (.v (.list (ps.map pr))), none, some (.v (.int t)), some (.v (.int b)), none, none] := by
    have hit : evI (cf Pg Gg n) (.of (.v 1)) (El t b (ps.map pr)) = .ok (ps.map pr) [some (.v (pr (t, b))), some (.v (.list (ps.map pr))), none, some (.v (.int t)), some (.v (.int b)), none, none] := by
      dsimp only [El]
      generalize ps.map pr = us at *
      simp
    unfold f__law_pairs_c1
    rw [e_lc, hit, R.bind_ok, lcGo_f (g := pr) (c := fun p : Int × Int => decide (p.1 ≤ p.2)) (by simp) rfl fun p hp => by
      have v0 := prx0 p
      have v1 := prx1 p
      generalize pr p = w at *
      by_cases z : p.1 ≤ p.2
      · simp [v0, v1, z]
      · simp [v0, v1, z]]
    have : (ps.filter fun p => decide (p.1 ≤ p.2)).length ≤ 1000000 := Nat.le_trans (List.length_filter_le ..) ln
    simp [lim_n, this]
  rw [ef] at c1
  obtain ⟨ρ2, e2, l2⟩ := rest_ret (T := T6) (C := cf Pg Gg n) (s := .cons (.ret f__law_pairs_c1) .nil) (x := .fr ((lps t b).map pr)) (by rfl) l (by rw [ss_cons, s_ret, c1]; rfl)
  have e : evS (cf Pg Gg n) f__law_pairs_l1 [some (.v (pr (t, b))), some (.own []), none, some (.v (.int t)), some (.v (.int b)), none, none] = .nx ρ' := e
  rw [run_succ (f := f__law_pairs) rfl, if_pos ⟨rfl, rfl⟩]
  have s1 : evSs (cf Pg Gg n) (takeS 2 f__law_pairs.body) [some (.v (pr (t, b))), none, none, none, none, none, none] = .nx [some (.v (pr (t, b))), some (.own []), none, some (.v (.int t)), some (.v (.int b)), none, none] := by
    simp [Pv.lim_n, Pv.addX, Pv.extX, Pv.jx0, Pv.jx1, -List.map_map, -List.map_reverse, -List.map_tail, -List.map_take, -List.map_drop, f__law_pairs, takeS, pr]
  show finR _ (evSs (cf Pg Gg n) f__law_pairs.body [some (.v (pr (t, b))), none, none, none, none, none, none]) = _
  rw [ss_split 2, s1, SR.bind_nx]
  show finR _ (evSs (cf Pg Gg n) (.cons f__law_pairs_l1 (.cons (.ret f__law_pairs_c1) .nil)) _) = _
  rw [ss_cons, e, SR.bind_nx, e2]
  rfl
end
end Lw
namespace Lw
open Pv PySem
section
variable {n m : Nat} {t b a c : Int}
theorem pf_len (m : Nat) : ∀ k : Nat, ((irng (m + 1) k).filter fun x => decide ((m : Int) * x % (x - m) = 0)).length = pfG m k
  | 0 => by rw [pfG_0]; rfl
  | k + 1 => by
    rw [irng_snoc, List.filter_append, List.length_append, pf_len m k, pfG_s]
    have e : ((m : Int) * ((m : Int) + 1 + k) % ((m : Int) + 1 + k - m)) = ((m * (m + (k + 1)) % (k + 1) : Nat) : Int) := by
      rw [show (m : Int) + 1 + k - m = ((k + 1 : Nat) : Int) by omega, show (m : Int) + 1 + k = ((m + (k + 1) : Nat) : Int) by omega, ← Int.natCast_mul, ← Int.natCast_emod]
    cases z : Nat.beq (m * (m + (k + 1)) % (k + 1)) 0 with
    | true =>
      have h := Nat.eq_of_beq_eq_true z
      rw [List.filter_cons, if_pos (decide_eq_true (by rw [e, h]; rfl))]
      rfl
    | false =>
      have h := Nat.ne_of_beq_eq_false z
      rw [List.filter_cons, if_neg (by rw [decide_eq_true_iff, e]; omega)]
      rfl
theorem lps_len (h1 : 1 ≤ m) (h2 : m ≤ 1000) : (lps 1 (m : Int)).length = pfG m m := by
  rw [← pf_len m m]
  unfold lps
  rw [List.length_map]
  have e1 : rgA 1 (m : Int) = m + 1 := by unfold rgA; rw [Int.ediv_one]
  have e2 : rgN 1 (m : Int) = m := by unfold rgN; rw [Int.ediv_one, Int.ediv_one]; omega
  rw [e1, e2]
  congr 1
  refine List.filter_congr fun x hx => ?_
  obtain ⟨x1, x2⟩ := mem_irng.mp hx
  have x0 : 0 < x - m := by omega
  have ip : isP 1 m x = decide ((m : Int) * x % (x - m) = 0) := by
    unfold isP
    rw [decide_eq_decide, Int.one_mul]
    exact ⟨fun h => Int.emod_eq_zero_of_dvd h, fun h => Int.dvd_of_emod_eq_zero h⟩
  rw [← ip]
  cases z : isP 1 m x with
  | false => rfl
  | true =>
    rw [Bool.true_and]
    refine decide_eq_true ?_
    unfold cb
    rw [Int.one_mul]
    refine Int.le_ediv_of_mul_le x0 ?_
    rw [Int.mul_comm x]
    exact Int.mul_le_mul_of_nonneg_right (by omega) (by omega)
theorem pairsFor (h1 : 1 ≤ m) (h2 : m ≤ 1000) : run Pg Gg (n + 3) 16 [.v (.int (m : Int))] = .ret (.pv (.int (pfG m m : Nat))) none := by
  have w := within_ok (P := Pg) (gl := Gg) (n := n) (j := 1) (ji := 0) rfl rfl (i := (m : Int)) (lo := 1) (hi := 1000) (by omega) (by omega)
  have g : Gg.g 2 = some (.int 1000) := rfl
  have mm : binD .mul (.int 2) (.int (m : Int)) = some (.int (2 * (m : Int))) := b_mulL (by decide)
  have hit : evI (cf Pg Gg (n + 2)) (.rng (.cons (.bin .add (.v 0) (.k (.int 1))) (.cons (.bin .add (.bin .mul (.k (.int 2)) (.v 0)) (.k (.int 1))) .nil))) [some (.v (.int (m : Int))), some (.v (.int 0)), none] = .ok ((irng (m + 1) m).map .int) [some (.v (.int (m : Int))), some (.v (.int 0)), none] := by
    rw [← rng_ints]
    have := rng2 (i := (m : Int) + 1) (j := 2 * (m : Int) + 1) (by omega) (by omega)
    rw [show (2 * (m : Int) + 1 - ((m : Int) + 1)).toNat = m by omega] at this
    exact i_rngA (ds := [.int ((m : Int) + 1), .int (2 * (m : Int) + 1)]) (by simp [mm]) this
  obtain ⟨ρ', e, l⟩ := for_count (T := noT) (C := cf Pg Gg (n + 2)) (b := f_pairs_for_b1) (i := 2) (fun y => [some (.v (.int (m : Int))), some (.v (.int y)), none]) (fun x => decide ((m : Int) * x % (x - m) = 0)) (by rfl) hit (Le.refl _ _) fun k x hx y => by
    obtain ⟨x1, x2⟩ := mem_irng.mp (List.mem_of_getElem? hx)
    have m1 : binD .mul (.int (m : Int)) (.int x) = some (.int ((m : Int) * x)) := mu_s (by omega) (by omega)
    have md : binD .mod (.int ((m : Int) * x)) (.int (x - m)) = some (.int ((m : Int) * x % (x - m))) := b_mod (by omega)
    have b1 : bltD .int [.bool true] = some (.int 1) := rfl
    have b2 : bltD .int [.bool false] = some (.int 0) := rfl
    have ag : ∀ x z : Int, augD .add (.int x) (.int z) = some (.int (x + z)) := fun _ _ => rfl
    by_cases z : (m : Int) * x % (x - m) = 0
    · rw [if_pos (decide_eq_true z)]
      exact ⟨_, by simp [Pv.lim_n, Pv.addX, Pv.extX, Pv.jx0, Pv.jx1, -List.map_map, -List.map_reverse, -List.map_tail, -List.map_take, -List.map_drop, f_pairs_for_b1, m1, md, z, b1, ag]; rfl, le_of (by simp)⟩
    · rw [if_neg (by simpa using z)]
      exact ⟨_, by simp [Pv.lim_n, Pv.addX, Pv.extX, Pv.jx0, Pv.jx1, -List.map_map, -List.map_reverse, -List.map_tail, -List.map_take, -List.map_drop, f_pairs_for_b1, m1, md, z, b2, ag]; rfl, le_of (by simp)⟩
  rw [pf_len] at l
  have g1 := l.get (i := 1) rfl
  have e : evS (cf Pg Gg (n + 2)) f_pairs_for_l1 [some (.v (.int (m : Int))), some (.v (.int 0)), none] = .nx ρ' := e
  clear l hit
  rw [run_succ (f := f_pairs_for) rfl, if_pos ⟨rfl, rfl⟩]
  generalize pfG m m = r at *
  simp [Pv.lim_n, Pv.addX, Pv.extX, Pv.jx0, Pv.jx1, -List.map_map, -List.map_reverse, -List.map_tail, -List.map_take, -List.map_drop, f_pairs_for, w, g, e, g1]
/-! ### divisors -/
def dvs (b : Int) : List Int := (irng 1 b.toNat).filter fun d => decide (b / d * d = b)
theorem mem_dvs {d : Int} (h0 : 0 < b) : d ∈ dvs b ↔ 0 < d ∧ d ∣ b := by
  unfold dvs
  rw [List.mem_filter, mem_irng, decide_eq_true_iff]
  constructor
  · rintro ⟨h1, h2⟩
    exact ⟨by omega, ⟨b / d, by rw [Int.mul_comm]; exact h2.symm⟩⟩
  · rintro ⟨h1, h2⟩
    have := Int.le_of_dvd h0 h2
    exact ⟨by omega, Int.ediv_mul_cancel h2⟩
theorem dvs_asc (b : Int) : (dvs b).Pairwise (· < ·) := (irng_asc _ _).filter _
theorem dvs_len (h0 : 0 < b) (h : b ≤ 1000) : (dvs b).length ≤ 1000 := Nat.le_trans (List.length_filter_le ..) (by rw [irng_len]; omega)
theorem lawDivs (h0 : 0 < b) (h : b ≤ 1000) : run Pg Gg (n + 1) 27 [.v (.int b)] = .ret (.fr ((dvs b).map .int)) none := by
  have c1 : evE (cf Pg Gg n) f__law_divisors_c1 [some (.v (.int b)), none] = .ok (.fr ((dvs b).map .int)) [some (.v (.int b)), none] :=
    lc_rng (g := .int) (c := fun d => decide (b / d * d = b)) (by simp) rfl (m := b.toNat) (by omega) (by simp; rfl) (by
      have := rng2 (i := 1) (j := b + 1) (by decide) (by omega)
      rw [this, show (b + 1 - 1).toNat = b.toNat by omega]) (fun x x0 x1 => by
      have dv := fd_p (x := b) (y := x) (by omega) (by omega)
      have q2 : 0 ≤ b / x := Int.ediv_nonneg (by omega) (by omega)
      have q3 : b / x ≤ b := Int.ediv_le_self _ (by omega)
      have m2 := mu_s (x := b / x) (y := x) (by omega) (by omega)
      simp [dv, m2]) fun x x0 x1 _ => by simp
  rw [run_succ (f := f__law_divisors) rfl, if_pos ⟨rfl, rfl⟩]
  generalize (dvs b).map PyData.int = us at *
  simp [Pv.lim_n, Pv.addX, Pv.extX, Pv.jx0, Pv.jx1, -List.map_map, -List.map_reverse, -List.map_tail, -List.map_take, -List.map_drop, f__law_divisors, c1]
/-- a fit second divisor -/
def fits (t x : Int) : D → Bool
  | .int y => decide (Int.gcd x y = 1) && decide (t ∣ x + y)
  | _ => false
def rowFits (t : Int) (ds : List D) : D → Bool
  | .tuple [.int k, .int x] => (ds.drop (k.toNat + 1)).any (fits t x)
  | _ => false
abbrev Ed (t b : Int) : Pv.Env := [some (.v (pr (t, b))), some (.v (.list ((dvs b).map .int))), none, none, none]
theorem lowL {u v : Int} (hb : 0 < v) (h : v ≤ 1000) : run Pg Gg (n + 1) 21 [.v (.int u), .v (.int v)] = .ret (.pv (pr (redP u v))) none := lowS_okG rfl hb (gcd_ok hb (sz_le (n := 60) (by omega) (by decide)))
theorem low_self {x y : Int} (hy : 0 < y) : redP x y = (x, y) ↔ Int.gcd x y = 1 := ⟨fun h => by have := (redP_lo (t := x) hy).2; rwa [h] at this, fun h => redP_one h hy⟩
theorem arePairs (h : Tb t b) : run Pg Gg (n + 2) 28 [.v (pr (t, b))] = .ret (.pv (.bool (decide (ups t b ≠ [])))) none := by
  have t0 := h.t0
  have tb := h.tb
  have b1 := h.b1
  have b0 : 0 < b := by omega
  have dl := dvs_len b0 b1
  have ld := lawDivs (n := n) b0 b1
  have hit : evI (cf Pg Gg (n + 1)) (.enum (.v 1)) [some (.v (pr (t, b))), some (.own ((dvs b).map .int)), none, none, none] = .ok (enumD 0 ((dvs b).map .int)) (Ed t b) := by
    dsimp only [Ed]
    generalize (dvs b).map PyData.int = us at *
    have : enumO (.list us) = some (enumD 0 us) := rfl
    simp [this]
  have main := for_find (T := noT) (C := cf Pg Gg (n + 1)) (b := f__law_are_divisors_there_b2) (t := .t [2, 3]) (Ed t b) (rowFits t ((dvs b).map .int)) (.pv (.bool true)) (by rfl) hit (Le.refl _ _) fun x hx0 => by
    obtain ⟨k, y, hk, rfl⟩ := enumD_mem.mp hx0
    rw [List.getElem?_map] at hk
    obtain ⟨x, hx, rfl⟩ := Option.map_eq_some_iff.mp hk
    have xm := (mem_dvs b0).mp (List.mem_of_getElem? hx)
    have kl : k < (dvs b).length := (List.getElem?_eq_some_iff.mp hx).1
    have cu : cut ((dvs b).map PyData.int) (some ((k : Int) + 1)) none = ((dvs b).map PyData.int).drop (k + 1) := by
      have := cut_drop (xs := (dvs b).map PyData.int) (k := (k : Int) + 1) (by omega)
      rwa [show ((k : Int) + 1).toNat = k + 1 by omega] at this
    have hit2 : evI (cf Pg Gg (n + 1)) (.of (.slv 1 (.bin .add (.v 2) (.k (.int 1))) .nop)) [some (.v (pr (t, b))), some (.v (.list ((dvs b).map .int))), some (.v (.int (k : Int))), some (.v (.int x)), none] = .ok (((dvs b).map PyData.int).drop (k + 1)) [some (.v (pr (t, b))), some (.v (.list ((dvs b).map .int))), some (.v (.int (k : Int))), some (.v (.int x)), none] := by
      generalize (dvs b).map PyData.int = us at *
      simp [Pv.lim_n, Pv.addX, Pv.extX, Pv.jx0, Pv.jx1, -List.map_map, -List.map_reverse, -List.map_tail, -List.map_take, -List.map_drop, cu]
    have inner := for_find (T := noT) (C := cf Pg Gg (n + 1)) (b := f__law_are_divisors_there_b1) (t := .n 4) [some (.v (pr (t, b))), some (.v (.list ((dvs b).map .int))), some (.v (.int (k : Int))), some (.v (.int x)), none] (fits t x) (.pv (.bool true)) (by rfl) hit2 (Le.refl _ _) fun z hz => by
      rw [← List.map_drop] at hz
      obtain ⟨y, hy, rfl⟩ := List.mem_map.mp hz
      have ym := (mem_dvs b0).mp (List.mem_of_mem_drop hy)
      have y1 := Int.le_of_dvd b0 ym.2
      have x1 := Int.le_of_dvd b0 xm.2
      have lo := lowL (n := n) (u := x) (v := y) ym.1 (by omega)
      have eq := pr_eq' (redP x y) (x, y)
      have ls := low_self (x := x) ym.1
      have dv : binD .fdiv (.int (x + y)) (.int t) = some (.int ((x + y) / t)) := fd_p t0 (by omega)
      have q2 : 0 ≤ (x + y) / t := Int.ediv_nonneg (by omega) (by omega)
      have q3 : (x + y) / t ≤ x + y := Int.ediv_le_self _ (by omega)
      have mu : binD .mul (.int ((x + y) / t)) (.int t) = some (.int ((x + y) / t * t)) := mu_s (by omega) (by omega)
      have dt : (x + y) / t * t = x + y ↔ t ∣ x + y := ⟨fun q => ⟨(x + y) / t, by rw [Int.mul_comm]; exact q.symm⟩, fun q => Int.ediv_mul_cancel q⟩
      have p0 := prx0 (t, b)
      have eq : cmpD .eq (pr (redP x y)) (.tuple [.int x, .int y]) = some (decide (redP x y = (x, y))) := eq
      have eq : cmpD .eq (pr (redP x y)) (.tuple [.int x, .int y]) = some (decide (Int.gcd x y = 1)) := by rw [eq]; congr 1; rw [decide_eq_decide]; exact ls
      have fe : fits t x (.int y) = (decide (Int.gcd x y = 1) && decide ((x + y) / t * t = x + y)) := by
        show (decide (Int.gcd x y = 1) && decide (t ∣ x + y)) = _
        congr 1
        rw [decide_eq_decide]
        exact dt.symm
      rw [fe]
      clear fe hit hit2 ld cu
      generalize (x + y) / t = w at *
      generalize w * t = s at *
      generalize pr (redP x y) = rr at *
      generalize pr (t, b) = v at *
      generalize (dvs b).map PyData.int = us at *
      generalize Int.gcd x y = gg at *
      constructor
      · intro z
        obtain ⟨z1, z2⟩ := Bool.and_eq_true_iff.mp z
        have z2 := of_decide_eq_true z2
        rw [z1] at eq
        exact ⟨_, by simp [Pv.lim_n, Pv.addX, Pv.extX, Pv.jx0, Pv.jx1, -List.map_map, -List.map_reverse, -List.map_tail, -List.map_take, -List.map_drop, f__law_are_divisors_there_b1, lo, eq, p0, dv, mu, z2]; rfl⟩
      · intro z
        by_cases z1 : gg = 1
        · rw [decide_eq_true z1, Bool.true_and] at z
          have z2 := of_decide_eq_false z
          rw [decide_eq_true z1] at eq
          exact ⟨_, by simp [Pv.lim_n, Pv.addX, Pv.extX, Pv.jx0, Pv.jx1, -List.map_map, -List.map_reverse, -List.map_tail, -List.map_take, -List.map_drop, f__law_are_divisors_there_b1, lo, eq, p0, dv, mu, z2]; rfl, le_of (by simp)⟩
        · rw [decide_eq_false z1] at eq
          exact ⟨_, by simp [Pv.lim_n, Pv.addX, Pv.extX, Pv.jx0, Pv.jx1, -List.map_map, -List.map_reverse, -List.map_tail, -List.map_take, -List.map_drop, f__law_are_divisors_there_b1, lo, eq]; rfl, le_of (by simp)⟩
    have rf : rowFits t ((dvs b).map .int) (.tuple [.int (k : Int), .int x]) = (((dvs b).map PyData.int).drop (k + 1)).any (fits t x) := rfl
    have st : (putT (Ed t b) (.t [2, 3]) (.tuple [.int (k : Int), .int x])) = .ok () [some (.v (pr (t, b))), some (.v (.list ((dvs b).map .int))), some (.v (.int (k : Int))), some (.v (.int x)), none] := by
      dsimp only [Ed]
      generalize (dvs b).map PyData.int = us at *
      simp
    rw [rf, st]
    constructor
    · intro z
      rcases inner with ⟨_, ρ', e⟩ | ⟨z', _⟩
      · exact ⟨ρ', by
          show evSs _ (.cons f__law_are_divisors_there_l1 .nil) _ = _
          rw [ss_cons]
          have e : evS (cf Pg Gg (n + 1)) f__law_are_divisors_there_l1 _ = .ret (.pv (.bool true)) ρ' := e
          rw [e]
          rfl⟩
      · rw [z] at z'
        cases z'
    · intro z
      rcases inner with ⟨z', _⟩ | ⟨_, ρ', e, l⟩
      · rw [z] at z'
        cases z'
      · refine ⟨ρ', ?_, ?_⟩
        · show evSs _ (.cons f__law_are_divisors_there_l1 .nil) _ = _
          rw [ss_cons]
          have e : evS (cf Pg Gg (n + 1)) f__law_are_divisors_there_l1 _ = .nx ρ' := e
          rw [e]
          rfl
        · exact Le.trans (le_of (by simp)) l
  have iff : (enumD 0 ((dvs b).map PyData.int)).any (rowFits t ((dvs b).map .int)) = decide (ups t b ≠ []) := by
    rw [Bool.eq_iff_iff, List.any_eq_true, decide_eq_true_iff, ups_dvs h]
    constructor
    · rintro ⟨z, hz, q⟩
      obtain ⟨k, y, hk, rfl⟩ := enumD_mem.mp hz
      rw [List.getElem?_map] at hk
      obtain ⟨x, hx, rfl⟩ := Option.map_eq_some_iff.mp hk
      have q : (((dvs b).map PyData.int).drop (k + 1)).any (fits t x) = true := q
      rw [← List.map_drop, List.any_eq_true] at q
      obtain ⟨w, hw, q⟩ := q
      obtain ⟨y, hy, rfl⟩ := List.mem_map.mp hw
      obtain ⟨q1, q2⟩ := Bool.and_eq_true_iff.mp q
      have xm := (mem_dvs b0).mp (List.mem_of_getElem? hx)
      have ym := (mem_dvs b0).mp (List.mem_of_mem_drop hy)
      obtain ⟨kl, hx⟩ := List.getElem?_eq_some_iff.mp hx
      obtain ⟨j, hj⟩ := List.mem_iff_getElem?.mp hy
      rw [List.getElem?_drop] at hj
      obtain ⟨jl, hj⟩ := List.getElem?_eq_some_iff.mp hj
      have := List.pairwise_iff_getElem.mp (dvs_asc b) k (k + 1 + j) kl jl (by omega)
      rw [hx, hj] at this
      exact ⟨x, y, xm.1, this, xm.2, ym.2, of_decide_eq_true q1, of_decide_eq_true q2⟩
    · rintro ⟨x, y, x0, xy, dx, dy, co, dt⟩
      have hx := (mem_dvs b0).mpr ⟨x0, dx⟩
      have hy := (mem_dvs b0).mpr ⟨show 0 < y by omega, dy⟩
      obtain ⟨k, hk⟩ := List.mem_iff_getElem?.mp hx
      obtain ⟨j, hj⟩ := List.mem_iff_getElem?.mp hy
      refine ⟨.tuple [.int (k : Int), .int x], enumD_mem.mpr ⟨k, .int x, by rw [List.getElem?_map, hk]; rfl, rfl⟩, ?_⟩
      show (((dvs b).map PyData.int).drop (k + 1)).any (fits t x) = true
      rw [← List.map_drop, List.any_eq_true]
      obtain ⟨kl, hk'⟩ := List.getElem?_eq_some_iff.mp hk
      obtain ⟨jl, hj'⟩ := List.getElem?_eq_some_iff.mp hj
      have kj : k < j := by
        rcases Nat.lt_or_ge k j with w | w
        · exact w
        · exfalso
          rcases Nat.lt_or_ge j k with w2 | w2
          · have := List.pairwise_iff_getElem.mp (dvs_asc b) j k jl kl w2
            rw [hk', hj'] at this
            omega
          · have : j = k := by omega
            subst this
            rw [hk'] at hj'
            omega
      refine ⟨.int y, List.mem_map.mpr ⟨y, ?_, rfl⟩, ?_⟩
      · refine List.mem_iff_getElem?.mpr ⟨j - (k + 1), ?_⟩
        rw [List.getElem?_drop, show k + 1 + (j - (k + 1)) = j by omega, hj]
      · show (decide (Int.gcd x y = 1) && decide (t ∣ x + y)) = true
        rw [decide_eq_true co, decide_eq_true dt]
        rfl
  rw [iff] at main
  clear hit iff
  have p1 := prx1 (t, b)
  have s1 : evSs (cf Pg Gg (n + 1)) (takeS 1 f__law_are_divisors_there.body) [some (.v (pr (t, b))), none, none, none, none] = .nx [some (.v (pr (t, b))), some (.own ((dvs b).map .int)), none, none, none] := by
    generalize (dvs b).map PyData.int = us at *
    generalize pr (t, b) = v at *
    simp [Pv.lim_n, Pv.addX, Pv.extX, Pv.jx0, Pv.jx1, -List.map_map, -List.map_reverse, -List.map_tail, -List.map_take, -List.map_drop, f__law_are_divisors_there, takeS, p1, ld]
  rw [run_succ (f := f__law_are_divisors_there) rfl, if_pos ⟨rfl, rfl⟩]
  show finR _ (evSs (cf Pg Gg (n + 1)) f__law_are_divisors_there.body [some (.v (pr (t, b))), none, none, none, none]) = _
  rw [ss_split 1, s1, SR.bind_nx]
  show finR _ (evSs (cf Pg Gg (n + 1)) (.cons f__law_are_divisors_there_l2 (.cons (.ret (.k (.bool false))) .nil)) _) = _
  rw [ss_cons]
  rcases main with ⟨z, ρ', e⟩ | ⟨z, ρ', e, l⟩
  · have e : evS (cf Pg Gg (n + 1)) f__law_are_divisors_there_l2 [some (.v (pr (t, b))), some (.own ((dvs b).map .int)), none, none, none] = .ret (.pv (.bool true)) ρ' := e
    rw [z, e]
    rfl
  · have e : evS (cf Pg Gg (n + 1)) f__law_are_divisors_there_l2 [some (.v (pr (t, b))), some (.own ((dvs b).map .int)), none, none, none] = .nx ρ' := e
    rw [z, e]
    simp [finR, outOf]
end
end Lw
namespace Lw
open Pv PySem
noncomputable abbrev C39 : Cfg := cf Pg Gg 39
section
variable {n m : Nat} {t b a c : Int}
theorem red_eq {u v : Int} {x : Int × Int} (hx : Lo x) (hv : 0 < v) (e : x.1 * v = u * x.2) : redP u v = x :=
  lo_same (redP_lo hv) hx (by
    have c := redP_cross (t := u) hv
    have l := redP_lo (t := u) hv
    generalize redP u v = y at *
    have : (y.1 * x.2) * v = (x.1 * y.2) * v := by
      have k1 : (y.1 * x.2) * v = (y.1 * v) * x.2 := by grind
      have k2 : (x.1 * y.2) * v = (x.1 * v) * y.2 := by grind
      rw [k1, k2, c, e]
      grind
    exact Int.eq_of_mul_eq_mul_right (by omega) this)
theorem sum_two (h : Tb t b) (ha : 0 < a) (hc : 0 < c) (e : t * a * c = b * (a + c)) : sumP [a, c] = (t, b) := by
  obtain ⟨s1, s2⟩ := sumP_frS (ps := [a, c]) (fun p hp => by
    simp only [List.mem_cons, List.not_mem_nil, or_false] at hp
    rcases hp with rfl | rfl <;> assumption)
  rw [s1]
  refine red_eq h.lo s2 ?_
  show t * (1 * a * c) = ((0 * a + 1) * c + 1 * a) * b
  have : t * (1 * a * c) = t * a * c := by grind
  rw [this, e]
  grind
theorem ups_size (h : Tb t b) {p : Int × Int} (hp : p ∈ ups t b) : 0 < p.1 ∧ p.1 < p.2 ∧ p.2 ≤ 2000000 := by
  obtain ⟨a, c⟩ := p
  obtain ⟨h1, h2, _⟩ := (mem_ups h).mp hp
  refine ⟨h1, h2, ?_⟩
  obtain ⟨x, hx, e⟩ := List.mem_map.mp hp
  obtain ⟨r1, r2, r3, _⟩ := h.rg (List.mem_filter.mp hx).1
  have ee := congrArg Prod.snd e
  dsimp only at ee
  show c ≤ _
  rw [← ee]
  have b0 : 0 < b := by have := h.t0; have := h.tb; omega
  have bx := Int.mul_le_mul h.b1 r3 (by omega) (by decide)
  have : cb t b x ≤ b * x := Int.ediv_le_self _ (by have := Int.mul_pos b0 r2; omega)
  omega
theorem partsSum (h : Tb t b) {p : Int × Int} (hp : p ∈ ups t b) : run Pg Gg (n + 5) 13 [.v (pr p)] = .ret (.pv (pr (t, b))) none := by
  obtain ⟨h1, h2, h3⟩ := ups_size h hp
  obtain ⟨a, c⟩ := p
  obtain ⟨_, _, e⟩ := (mem_ups h).mp hp
  dsimp only at h1 h2 h3
  have q : Pq [a, c] := ⟨by simp, by simp, fun p hp => by
    simp only [List.mem_cons, List.not_mem_nil, or_false] at hp
    rcases hp with rfl | rfl <;> omega, fun k x y hx hy => by
    match k with
    | 0 => simp at hx hy; omega
    | k + 1 => simp at hy⟩
  have := sumPartsT (n := n) q
  rw [sum_two h h1 (by omega) e] at this
  exact this
theorem isRight (h : Tb t b) (hp : t < b) : run Pg Gg (n + 6) 30 [.v (pr (t, b))] = .ret (.pv (.bool true)) none := by
  have lp := lawPairs (n := n + 4) h
  have tp := twoParts (n := n) h hp
  have ap := arePairs (n := n + 3) h
  have nl : (lps t b).length ≤ 1000000 := by
    unfold lps
    rw [List.length_map]
    have := List.length_filter_le (fun a => isP t b a && decide (a ≤ cb t b a)) (irng (rgA t b) (rgN t b))
    rw [irng_len] at this
    have := rgN_le h
    omega
  have nu : (ups t b).length ≤ 1000000 := by
    rw [← ups_of_lps]
    exact Nat.le_trans (List.length_filter_le ..) nl
  have c1 : evE (cf Pg Gg (n + 5)) f__law_is_right_c1 [some (.v (pr (t, b))), none, none, none] = .ok (.fr ((ups t b).map pr)) [some (.v (pr (t, b))), none, none, none] := by
    have hit : evI (cf Pg Gg (n + 5)) (.of (.call 26 (.cons (.v 0) .nil))) [some (.v (pr (t, b))), none, none, none] = .ok ((lps t b).map pr) [some (.v (pr (t, b))), none, none, none] := by
      generalize (lps t b).map pr = us at *
      generalize pr (t, b) = v at *
      simp [lp, backR, backS]
    unfold f__law_is_right_c1
    rw [e_lc, hit, R.bind_ok, lcGo_f (g := pr) (c := fun p : Int × Int => decide (p.1 < p.2)) (by simp) rfl fun p hp => by
      have v0 := prx0 p
      have v1 := prx1 p
      generalize pr p = w at *
      by_cases z : p.1 < p.2
      · simp [v0, v1, z]
      · simp [v0, v1, z]]
    rw [ups_of_lps]
    have nm : ((ups t b).map pr).length ≤ 1000000 := by rw [List.length_map]; exact nu
    generalize (ups t b).map pr = us at *
    simp [lim_n, nm]
  have so := sortD_pairs (ups_asc (t := t) (b := b))
  have so : bltD .sorted [.list ((ups t b).map pr)] = some (.list ((ups t b).map pr)) := so
  have ne : cmpD .ne (.tuple ((ups t b).map pr)) (.tuple ((ups t b).map pr)) = some false := d_ne (dk_prs _) (dk_prs _) (by decide) rfl
  have pe : cmpD .eq (pr (t, b)) (pr (t, b)) = some true := by rw [pr_eq', decide_eq_true rfl]
  have c2 : evE (cf Pg Gg (n + 5)) f__law_is_right_c2 [some (.v (pr (t, b))), some (.own ((ups t b).map pr)), some (.v (.tuple ((ups t b).map pr))), none] = .ok (.fr ((ups t b).map fun _ => .bool true)) [some (.v (pr (t, b))), some (.own ((ups t b).map pr)), some (.v (.tuple ((ups t b).map pr))), none] := by
    have hit : evI (cf Pg Gg (n + 5)) (.of (.v 2)) [some (.v (pr (t, b))), some (.own ((ups t b).map pr)), some (.v (.tuple ((ups t b).map pr))), none] = .ok ((ups t b).map pr) [some (.v (pr (t, b))), some (.own ((ups t b).map pr)), some (.v (.tuple ((ups t b).map pr))), none] := by
      generalize (ups t b).map pr = us at *
      simp
    unfold f__law_is_right_c2
    rw [e_lc, hit, R.bind_ok, lcGo_1 (g := fun _ => .bool true) (by simp) rfl fun p hp => by
      have ps := partsSum (n := n) h hp
      generalize pr p = w at *
      generalize pr (t, b) = v at *
      generalize (ups t b).map pr = us at *
      simp [ps, pe, backR, backS]]
    have nm : ((ups t b).map fun _ => PyData.bool true).length ≤ 1000000 := by rw [List.length_map]; exact nu
    generalize ((ups t b).map fun _ => PyData.bool true) = us at *
    simp [lim_n, nm]
  have al := all_bt (ups t b)
  have ln : bltD .len [.tuple ((ups t b).map pr)] = some (.int ((ups t b).length : Nat)) := by
    show some (PyData.int (((ups t b).map pr).length : Nat)) = _
    rw [List.length_map]
  have ee : decide (0 < ((ups t b).length : Int)) = decide (ups t b ≠ []) := by
    rw [decide_eq_decide]
    constructor
    · intro h e
      rw [e] at h
      exact absurd h (by decide)
    · intro h
      have := List.length_pos_iff.mpr h
      omega
  have nb : ∀ x : Bool, cmpD .ne (.bool x) (.bool x) = some false := fun x => by cases x <;> kernel_rfl
  rw [run_succ (f := f__law_is_right) rfl, if_pos ⟨rfl, rfl⟩]
  clear nu nl lp
  generalize ((ups t b).map fun _ => PyData.bool true) = u2 at *
  generalize hl : ((ups t b).length : Int) = ll at *
  rw [← ee] at ap
  generalize (ups t b).map pr = us at *
  generalize pr (t, b) = v at *
  generalize hd : decide (0 < ll) = d0 at *
  simp [Pv.lim_n, Pv.addX, Pv.extX, Pv.jx0, Pv.jx1, -List.map_map, -List.map_reverse, -List.map_tail, -List.map_take, -List.map_drop, f__law_is_right, c1, tp, so, ne, ln, ap, nb, hd, c2, al]
/-! ### drawing -/
theorem drB : Dr Pg Gg 3 20 Hd4 [.v (.list [.int 12, .int 60, .int 999])] id (fun d => d ∈ [.int 12, .int 60, .int 999]) := any_dr (jd := 19) rfl dl (by decide) (by decide)
theorem drC : Dr Pg Gg 3 20 Hd4 [.v (.list [.int 40, .int 1000])] id (fun d => d ∈ [.int 40, .int 1000]) := any_dr (jd := 19) rfl dl (by decide) (by decide)
theorem redP_tb {t b : Int} (h0 : 0 < t) (h1 : t < b) (h2 : b ≤ 1000) : Tb (redP t b).1 (redP t b).2 ∧ (redP t b).1 < (redP t b).2 := by
  have g := redP_gcd (t := t) (show 0 < b by omega)
  have c := redP_cross (t := t) (show 0 < b by omega)
  have l := redP_lo (t := t) (show 0 < b by omega)
  generalize redP t b = x at *
  obtain ⟨x0, l2⟩ := l
  have p1 : 0 < x.1 * b := by rw [c]; exact Int.mul_pos h0 x0
  have t0 : 0 < x.1 := Int.pos_of_mul_pos_left p1 (by omega)
  have p2 : x.1 * b < x.2 * b := by
    rw [c, Int.mul_comm x.2 b]
    exact Int.mul_lt_mul_of_pos_right h1 x0
  have p3 : x.1 < x.2 := Int.lt_of_mul_lt_mul_right p2 (by omega)
  exact ⟨⟨t0, by omega, by omega, l2⟩, p3⟩
theorem properD : Dr Pg Gg 4 23 Hd4 [] pr (fun x => Tb x.1 x.2 ∧ x.1 < x.2) := ⟨fun h => by
  obtain ⟨d, h1, e1, q1⟩ := drB.at 3 (by omega) h
  have hq : ∃ m : Int, d = .int m ∧ 0 < m ∧ m ≤ 999 := by
    rcases (by simpa using q1 : d = .int 12 ∨ d = .int 60 ∨ d = .int 999) with rfl | rfl | rfl
    · exact ⟨12, rfl, by decide, by decide⟩
    · exact ⟨60, rfl, by decide, by decide⟩
    · exact ⟨999, rfl, by decide, by decide⟩
  obtain ⟨m, rfl, m0, m1⟩ := hq
  obtain ⟨b, h2, e2, b0, b1⟩ := (dl.dr (many := m) m0 (by omega)).at 3 (by omega) h1
  obtain ⟨t, h3, e3, t0, t1⟩ := (dl.dr (many := 2 + b - 1) (by omega) (by omega)).at 3 (by omega) h2
  have e1 : run Pg Gg 3 20 [.io h.xs, .v (.list [.int 12, .int 60, .int 999])] = .ret (.pv (.int m)) (some (.io h1.xs)) := e1
  have lo := lowS_okG (P := Pg) (gl := Gg) (n := 2) (j := 21) (t := 1 + t) (b := 2 + b) rfl (by omega) (gcd_ok (by omega) (sz_le (n := 20) (by omega) (by decide)))
  refine ⟨redP (1 + t) (2 + b), h3, ?_, redP_tb (by omega) (by omega) (by omega)⟩
  rw [run_succ (f := f__law_proper) rfl, if_pos ⟨rfl, rfl⟩]
  generalize redP (1 + t) (2 + b) = x at *
  simp [Pv.lim_n, Pv.addX, Pv.extX, Pv.jx0, Pv.jx1, -List.map_map, -List.map_reverse, -List.map_tail, -List.map_take, -List.map_drop, f__law_proper, e_cio, cioGo, backR, backS, e1, e2, e3, lo]⟩
/-! ### the body -/
abbrev E0 (s xs : List D) : Pv.Env := [some (.raw s), some (.own xs), none, none, none, none, none, none, none, none]
abbrev E1 (s xs : List D) (tt : D) (one other : Int) (x : Int × Int) : Pv.Env := [some (.raw s), some (.own xs), some (.v tt), none, some (.v (.int one)), some (.v (.int other)), some (.v (pr x)), none, none, none]
variable {s : List D} {tt : D} {one other : Int} {x : Int × Int}
def T9 (i : Nat) : Bool := i == 9
theorem partA (h : Hn Hd4) (tt : D) : ∃ (h' : Hn Hd4) (one other : Int) (x : Int × Int), evSs C39 (takeS 4 f_law_b1) ((E0 s h.xs).set 2 (some (.v tt))) = .nx (E1 s h'.xs tt one other x) := by
  obtain ⟨a0, h1, e1, a1, a2⟩ := (dl.dr (many := 14) (by decide) (by decide)).at 39 (by omega) h
  obtain ⟨b0, h2, e2, b1, b2⟩ := (dl.dr (many := 14) (by decide) (by decide)).at 39 (by omega) h1
  obtain ⟨y, h3, e3, ty, yp⟩ := properD.at 39 (by omega) h2
  have o0 : 2 ≤ 2 + a0 ∧ 2 + a0 ≤ 15 := by omega
  have o1 : 2 + a0 < 2 + a0 + 1 + b0 ∧ 2 + a0 + 1 + b0 ≤ 29 := by omega
  have k1 : ∀ i : Int, binD .add (.int 2) (.int i) = some (.int (2 + i)) := fun _ => rfl
  have ky : binD .add (.int (2 + a0 + 1)) (.int b0) = some (.int (2 + a0 + 1 + b0)) := rfl
  have kz : binD .add (.int (2 + a0)) (.int 1) = some (.int (2 + a0 + 1)) := rfl
  generalize hO : 2 + a0 + 1 + b0 = other at *
  generalize hP : 2 + a0 = one at *
  have fr1 : frS [one, other] = ((0 * one + 1) * other + 1 * one, 1 * one * other) := rfl
  obtain ⟨s1, s2⟩ := sumP_frS (ps := [one, other]) (fun p hp => by
    simp only [List.mem_cons, List.not_mem_nil, or_false] at hp
    rcases hp with rfl | rfl <;> omega)
  rw [fr1] at s1 s2
  have e01 : (0 * one + 1) * other + 1 * one = one + other := by grind
  have e02 : 1 * one * other = one * other := by grind
  rw [e01, e02] at s1
  rw [e02] at s2
  have s2 : 0 < one * other := s2
  have mx : one * other ≤ 15 * 29 := Int.mul_le_mul o0.2 o1.2 (by omega) (by decide)
  have m3 : one + other < one * other := by
    have : 3 * (one - 1) ≤ (other) * (one - 1) := Int.mul_le_mul_of_nonneg_right (by omega) (by omega)
    have : other * (one - 1) = one * other - other := by grind
    have : one * other - other = (one - 1) * other := by grind
    by_cases z : one = 2
    · subst z
      omega
    · have : 2 * other ≤ (one - 1) * other := Int.mul_le_mul_of_nonneg_right (by omega) (by omega)
      omega
  obtain ⟨tb, tp⟩ := redP_tb (t := one + other) (b := one * other) (by omega) m3 (by omega)
  have sm := lawSumT (n := 37) (B := 10) (sq := .tuple [.int one, .int other]) (ps := [one, other]) (by decide) rfl (by simp) (fun p hp => by
    simp only [List.mem_cons, List.not_mem_nil, or_false] at hp
    rcases hp with rfl | rfl <;> exact ⟨by omega, by omega⟩)
  rw [s1] at sm
  have mem : (one, other) ∈ ups (redP (one + other) (one * other)).1 (redP (one + other) (one * other)).2 := (mem_ups tb).mpr ⟨by omega, by omega, by
    have := redP_cross (t := one + other) s2
    grind⟩
  have r1 := isRight (n := 33) tb tp
  have r2 := isRight (n := 33) ty yp
  have t2 := twoParts (n := 34) tb tp
  have ni := pr_notin_t (one, other) (ups (redP (one + other) (one * other)).1 (redP (one + other) (one * other)).2)
  rw [decide_eq_true mem] at ni
  have ni : cmpD .notin (.tuple [.int one, .int other]) _ = _ := ni
  have e3 : run Pg Gg 39 23 [.io h2.xs] = .ret (.pv (pr y)) (some (.io h3.xs)) := e3
  refine ⟨h3, one, other, redP (one + other) (one * other), ?_⟩
  dsimp only [E1]
  clear tb tp mem s1 s2 m3 mx ty yp e01 e02 fr1
  generalize ((ups (redP (one + other) (one * other)).1 (redP (one + other) (one * other)).2).map pr) = us at *
  generalize hx : redP (one + other) (one * other) = x at *
  obtain ⟨x1, x2⟩ := x
  dsimp only at r1 t2
  generalize pr (x1, x2) = px at *
  have r2 : run Pg Gg 39 30 [.v (pr y)] = _ := r2
  generalize pr y = py at *
  simp [Pv.lim_n, Pv.addX, Pv.extX, Pv.jx0, Pv.jx1, -List.map_map, -List.map_reverse, -List.map_tail, -List.map_take, -List.map_drop, -b_add, f_law_b1, takeS, e_cio, cioGo, backR, backS, e1, e2, e3, k1, ky, kz, hP, sm, r1, r2, t2, ni]
end
end Lw
namespace Lw
open Pv PySem
section
variable {n m : Nat} {s : List D} {tt : D} {one other : Int} {x : Int × Int}
theorem tb1 (h1 : 1 ≤ m) (h2 : m ≤ 1000) : Tb 1 (m : Int) := ⟨by decide, by omega, by omega, by simp⟩
theorem lps_un (h1 : 1 ≤ m) (h2 : m ≤ 1000) : (lps 1 (m : Int)).filter (fun p => !decide (p = (2 * (m : Int), 2 * (m : Int)))) = ups 1 (m : Int) := by
  rw [← ups_of_lps]
  refine List.filter_congr fun p hp => ?_
  obtain ⟨a, ha, rfl⟩ := List.mem_map.mp hp
  obtain ⟨h3, h4⟩ := List.mem_filter.mp ha
  obtain ⟨h5, h6⟩ := Bool.and_eq_true_iff.mp h4
  have h6 := of_decide_eq_true h6
  obtain ⟨r1, r2, r3, r4⟩ := (tb1 h1 h2).rg h3
  have e := isP_eq r1 h5
  rw [Bool.eq_iff_iff]
  simp only [Bool.not_eq_true', decide_eq_false_iff_not, decide_eq_true_iff, Prod.mk.injEq]
  constructor
  · intro h
    rcases Int.lt_or_le a (cb 1 (m : Int) a) with w | w
    · exact w
    · exfalso
      have q : cb 1 (m : Int) a = a := by omega
      rw [q] at e
      have : a * a = a * (2 * (m : Int)) := by grind
      have := Int.eq_of_mul_eq_mul_left (show a ≠ 0 by omega) this
      exact h ⟨this, by rw [q]; exact this⟩
  · intro h h'
    omega
theorem partB (h : Hn Hd4) : ∃ (h' : Hn Hd4) (ρ' : Pv.Env), evSs C39 (dropS 4 f_law_b1) (E1 s h.xs tt one other x) = .nx ρ' ∧ Le T9 (E0 s h'.xs) ρ' := by
  obtain ⟨d, h1, e1, q1⟩ := drC.at 39 (by omega) h
  have hq : ∃ m : Int, d = .int m ∧ 0 < m ∧ m ≤ 1000 := by
    rcases (by simpa using q1 : d = .int 40 ∨ d = .int 1000) with rfl | rfl
    · exact ⟨40, rfl, by decide, by decide⟩
    · exact ⟨1000, rfl, by decide, by decide⟩
  obtain ⟨w, rfl, w0, w1⟩ := hq
  obtain ⟨r, h2, e2, r0, r1⟩ := (dl.dr (many := w) w0 (by omega)).at 39 (by omega) h1
  have e1 : run Pg Gg 39 20 [.io h.xs, .v (.list [.int 40, .int 1000])] = .ret (.pv (.int w)) (some (.io h1.xs)) := e1
  obtain ⟨m, hm⟩ : ∃ m : Nat, (m : Int) = 1 + r := ⟨(1 + r).toNat, by omega⟩
  have m1 : 1 ≤ m := by omega
  have m2 : m ≤ 1000 := by omega
  have kk : binD .add (.int 1) (.int r) = some (.int (m : Int)) := by rw [hm]; rfl
  have lp := lawPairs (n := 38) (tb1 m1 m2)
  have lp : run Pg Gg 39 26 [.v (.tuple [.int 1, .int (m : Int)])] = .ret (.fr ((lps 1 (m : Int)).map pr)) none := lp
  have pf := pairsFor (n := 36) m1 m2
  have md := manyDiv (n := 38) m1 m2
  have ll := lps_len m1 m2
  have ln : bltD .len [.list ((lps 1 (m : Int)).map pr)] = some (.int (pfG m m : Nat)) := by
    show some (PyData.int (((lps 1 (m : Int)).map pr).length : Nat)) = _
    rw [List.length_map, ll]
  have mu : binD .mul (.int 2) (.int (pfG m m : Nat)) = some (.int ((2 * pfG m m : Nat) : Int)) := by
    rw [b_mulL (by decide)]
    rfl
  have m2m : binD .mul (.int 2) (.int (m : Int)) = some (.int (2 * (m : Int))) := b_mulL (by decide)
  have aa : binD .add (.int 1) (.int ((2 * pfG m m : Nat) - 1 : Int)) = some (.int ((2 * pfG m m : Nat) : Int)) := by
    show some (PyData.int (1 + ((2 * pfG m m : Nat) - 1 : Int))) = _
    congr 2
    omega
  have so := sortD_pairs (lps_asc (t := 1) (b := (m : Int)))
  have so : bltD .sorted [.list ((lps 1 (m : Int)).map pr)] = some (.list ((lps 1 (m : Int)).map pr)) := so
  have nl : (lps 1 (m : Int)).length ≤ 1000000 := by
    rw [ll, ← pf_len]
    exact Nat.le_trans (List.length_filter_le ..) (by rw [irng_len]; omega)
  have nu : ((ups 1 (m : Int)).map pr).length ≤ 1000000 := by
    rw [List.length_map, ← ups_of_lps]
    exact Nat.le_trans (List.length_filter_le ..) nl
  have c1 : evE C39 f_law_c1 [some (.raw s), some (.own h2.xs), some (.v tt), none, some (.v (.int one)), some (.v (.int other)), some (.v (pr x)), some (.v (.int (m : Int))), some (.own ((lps 1 (m : Int)).map pr)), none] = .ok (.fr ((ups 1 (m : Int)).map pr)) [some (.raw s), some (.own h2.xs), some (.v tt), none, some (.v (.int one)), some (.v (.int other)), some (.v (pr x)), some (.v (.int (m : Int))), some (.own ((lps 1 (m : Int)).map pr)), none] := by
    have hit : evI C39 (.of (.b1 .sorted (.v 8))) [some (.raw s), some (.own h2.xs), some (.v tt), none, some (.v (.int one)), some (.v (.int other)), some (.v (pr x)), some (.v (.int (m : Int))), some (.own ((lps 1 (m : Int)).map pr)), none] = .ok ((lps 1 (m : Int)).map pr) [some (.raw s), some (.own h2.xs), some (.v tt), none, some (.v (.int one)), some (.v (.int other)), some (.v (pr x)), some (.v (.int (m : Int))), some (.own ((lps 1 (m : Int)).map pr)), none] := by
      generalize (lps 1 (m : Int)).map pr = us at *
      simp [so]
    unfold f_law_c1
    rw [e_lc, hit, R.bind_ok, lcGo_f (g := pr) (c := fun p : Int × Int => !decide (p = (2 * (m : Int), 2 * (m : Int)))) (by simp) rfl fun p hp => by
      have ne := pr_ne' p (2 * (m : Int), 2 * (m : Int))
      have ne : cmpD .ne (pr p) (.tuple [.int (2 * (m : Int)), .int (2 * (m : Int))]) = _ := ne
      generalize pr p = w at *
      generalize (lps 1 (m : Int)).map pr = us at *
      by_cases z : p = (2 * (m : Int), 2 * (m : Int))
      · rw [decide_eq_true z] at ne ⊢
        simp [m2m, ne, lim_n]
      · rw [decide_eq_false z] at ne ⊢
        simp [m2m, ne, lim_n]]
    rw [lps_un m1 m2]
    generalize (ups 1 (m : Int)).map pr = us at *
    simp [lim_n, nu]
  have ne : cmpD .ne (.tuple ((ups 1 (m : Int)).map pr)) (.tuple ((ups 1 (m : Int)).map pr)) = some false := d_ne (dk_prs _) (dk_prs _) (by decide) rfl
  have fin : ∀ b : Bool, decide (1 < (m : Int)) = b → evS C39 (atS 7 f_law_b1) [some (.raw s), some (.own h2.xs), some (.v tt), none, some (.v (.int one)), some (.v (.int other)), some (.v (pr x)), some (.v (.int (m : Int))), some (.own ((lps 1 (m : Int)).map pr)), none] = .nx [some (.raw s), some (.own h2.xs), some (.v tt), none, some (.v (.int one)), some (.v (.int other)), some (.v (pr x)), some (.v (.int (m : Int))), some (.own ((lps 1 (m : Int)).map pr)), none] := fun b hb => by
    cases b with
    | true =>
      have tp := twoParts (n := 34) (tb1 m1 m2) (of_decide_eq_true hb)
      have tp : run Pg Gg 39 15 [.v (.tuple [.int 1, .int (m : Int)])] = .ret (.pv (.tuple ((ups 1 (m : Int)).map pr))) none := tp
      have hb := of_decide_eq_true hb
      generalize (lps 1 (m : Int)).map pr = ls at *
      generalize (ups 1 (m : Int)).map pr = us at *
      generalize pr x = px at *
      have hb' : 1 < m := by omega
      simp [Pv.lim_n, Pv.addX, Pv.extX, Pv.jx0, Pv.jx1, -List.map_map, -List.map_reverse, -List.map_tail, -List.map_take, -List.map_drop, f_law_b1, atS, dropS, hb, hb', tp, c1, ne]
    | false =>
      have hb := of_decide_eq_false hb
      generalize (lps 1 (m : Int)).map pr = ls at *
      generalize (ups 1 (m : Int)).map pr = us at *
      generalize pr x = px at *
      have hb' : ¬ 1 < m := by omega
      simp [Pv.lim_n, Pv.addX, Pv.extX, Pv.jx0, Pv.jx1, -List.map_map, -List.map_reverse, -List.map_tail, -List.map_take, -List.map_drop, f_law_b1, atS, dropS, hb, hb']
  have fin := fin _ rfl
  refine ⟨h2, [some (.raw s), some (.own h2.xs), some (.v tt), none, some (.v (.int one)), some (.v (.int other)), some (.v (pr x)), some (.v (.int (m : Int))), some (.own ((lps 1 (m : Int)).map pr)), none], ?_, le_of (by simp [T9])⟩
  have st : evSs C39 (takeS 3 (dropS 4 f_law_b1)) (E1 s h.xs tt one other x) = .nx [some (.raw s), some (.own h2.xs), some (.v tt), none, some (.v (.int one)), some (.v (.int other)), some (.v (pr x)), some (.v (.int (m : Int))), some (.own ((lps 1 (m : Int)).map pr)), none] := by
    dsimp only [E1]
    clear fin c1 ne nu nl so ll hm
    generalize (lps 1 (m : Int)).map pr = ls at *
    generalize (2 * pfG m m : Nat) = z at *
    generalize pfG m m = y at *
    generalize ((z : Int) - 1) = zz at *
    generalize pr x = px at *
    generalize hmm : (m : Int) = mm at *
    simp [Pv.lim_n, Pv.addX, Pv.extX, Pv.jx0, Pv.jx1, -List.map_map, -List.map_reverse, -List.map_tail, -List.map_take, -List.map_drop, -b_add, f_law_b1, takeS, dropS, e_cio, cioGo, backR, backS, e1, e2, kk, lp, pf, md, ln, mu, aa]
  rw [ss_split 3, st, SR.bind_nx]
  show evSs C39 (.cons (atS 7 f_law_b1) .nil) _ = _
  rw [ss_cons, fin]
  rfl
theorem body_ok (h : Hn Hd4) (t : D) : ∃ (h' : Hn Hd4) (ρ1 : Pv.Env), ((putT (E0 s h.xs) (.n 2) t).toS fun _ ρ => evSs C39 f_law_b1 ρ) = .nx ρ1 ∧ Le T9 (E0 s h'.xs) ρ1 := by
  obtain ⟨h1, one, other, x, e1⟩ := partA (s := s) h t
  obtain ⟨h2, ρ2, e2, l2⟩ := partB (s := s) (tt := t) (one := one) (other := other) (x := x) h1
  refine ⟨h2, ρ2, ?_, l2⟩
  show evSs C39 f_law_b1 ((E0 s h.xs).set 2 (some (.v t))) = _
  rw [ss_split 4, e1, SR.bind_nx, e2]
theorem loop_ok (h : Hn Hd4) : ∃ (h' : Hn Hd4) (ρ' : Pv.Env), evS C39 f_law_l1 (E0 s h.xs) = .nx ρ' ∧ Le T9 (E0 s h'.xs) ρ' := by
  have hit : evI C39 (.rng (.cons (.k (.int 3)) .nil)) (E0 s h.xs) = .ok (rangeD 0 3 1) (E0 s h.xs) := i_rngA (ds := [.int 3]) (by simp) (rng1 (by decide))
  obtain ⟨h', ρ', e, l, _⟩ := for_st (T := T9) (C := C39) (b := f_law_b1) (St := Hn Hd4) (fun h => E0 s h.xs) (fun _ _ => True) (t := .n 2) (by rfl) h hit (Le.refl _ _) trivial fun k x σ hx _ => by
    obtain ⟨h', ρ1, e, l⟩ := body_ok (s := s) σ x
    exact ⟨h', ρ1, e, l, trivial⟩
  exact ⟨h', ρ', e, l⟩
end
/-! ### what is odd -/
theorem low39 : C39.low = ⟨run Pg Gg 37, fun _ _ => .bad, fun _ _ => .bad, none, Gg⟩ := rfl
theorem wr39 : ∀ j o, wrdN Gg 39 j o = wrdOf Gg j o := fun j o => rfl
def bad1 : List D := [.none, .tuple [.int 2, .int 4], .tuple [.int 1, .int 0], .list [.int 1, .int 2]]
def bad2 : List D := [.tuple [.int 0, .int 1], .tuple [.int 1, .int 1], .tuple [.int 7, .int 3], .tuple [.int 1, .int 1001]]
def bad3 : List D := [.int 0, .int 1001, .none, .bool true]
theorem w_ratio : wrdOf Gg 25 (.exc 3 none) = .ret (.pv (.str "ratio")) none := wrd_of (w := w__law_word_of) rfl (fun a => rfl)
theorem w_proper : wrdOf Gg 25 (.exc 4 none) = .ret (.pv (.str "proper")) none := wrd_of (w := w__law_word_of) rfl (fun a => rfl)
theorem w_number : wrdOf Gg 25 (.exc 1 none) = .ret (.pv (.str "number")) none := wrd_of (w := w__law_word_of) rfl (fun a => rfl)
theorem o1 : (bad1.all fun x => isExc 3 (runF 70 (fun _ _ => .bad) Pg Gg.g 8 15 [.v x])) = true := by kernel_rfl
theorem o2 : (bad2.all fun x => isExc 4 (runF 70 (fun _ _ => .bad) Pg Gg.g 8 15 [.v x])) = true := by kernel_rfl
theorem o3 : (bad3.all fun x => isExc 1 (runF 70 (fun _ _ => .bad) Pg Gg.g 8 16 [.v x])) = true := by kernel_rfl
theorem dr1 : Dr Pg Gg 3 20 Hd4 [.v (.list bad1)] id (fun d => d ∈ bad1) := any_dr (jd := 19) rfl dl (by decide) (by decide)
theorem dr2 : Dr Pg Gg 3 20 Hd4 [.v (.list bad2)] id (fun d => d ∈ bad2) := any_dr (jd := 19) rfl dl (by decide) (by decide)
theorem dr3 : Dr Pg Gg 3 20 Hd4 [.v (.list bad3)] id (fun d => d ∈ bad3) := any_dr (jd := 19) rfl dl (by decide) (by decide)
theorem end1 : run Pg Gg 39 15 [.v (.tuple [.int 5, .int 6])] = .ret (.pv (.tuple [.tuple [.int 2, .int 3]])) none := run_ofF (K := 70) (n := 10) (wt0 _) (by kernel_rfl) (by nofun) (by decide)
theorem end2 : run Pg Gg 39 16 [.v (.int 6)] = .ret (.pv (.int 5)) none := run_ofF (K := 70) (n := 10) (wt0 _) (by kernel_rfl) (by nofun) (by decide)
theorem end3 : run Pg Gg 39 15 [.v (.tuple [.int 4, .int 5])] = .ret (.pv (.tuple [])) none := run_ofF (K := 70) (n := 10) (wt0 _) (by kernel_rfl) (by nofun) (by decide)
theorem law_true (ns : List Int) (_ : ns.length ≤ 63) : run (plOf L) (glOf L gls nx) 40 (L.length - 1) [.raw (ns.map PyData.int)] = .ret (.pv (.bool true)) none := by
  show run Pg Gg (39 + 1) 31 [.raw (ns.map PyData.int)] = _
  obtain ⟨xs, e, h⟩ := handB_ok (P := Pg) (gl := Gg) (j := 17) (n := 38) (ns := ns) rfl
  obtain ⟨h1, ρ', e2, l⟩ := loop_ok (s := ns.map PyData.int) ⟨xs, h⟩
  replace e : run Pg Gg 39 17 [.raw (ns.map PyData.int)] = .ret (.fr xs) none := e
  have e2 : evS C39 f_law_l1 (E0 _ xs) = .nx ρ' := e2
  obtain ⟨d1, h3, e4, q1⟩ := dr1.at 37 (by omega) h1
  obtain ⟨d2, h4, e5, q2⟩ := dr2.at 37 (by omega) h3
  obtain ⟨d3, h5, e6, q3⟩ := dr3.at 37 (by omega) h4
  have x1 : run Pg Gg 37 15 [.v d1] = .exc 3 none none := runs_exc (f := fun x => [.v x]) o1 (by omega) q1
  have x2 : run Pg Gg 37 15 [.v d2] = .exc 4 none none := runs_exc (f := fun x => [.v x]) o2 (by omega) q2
  have x3 : run Pg Gg 37 16 [.v d3] = .exc 1 none none := runs_exc (f := fun x => [.v x]) o3 (by omega) q3
  have e4 : run Pg Gg 37 20 [.io h1.xs, .v (.list bad1)] = .ret (.pv d1) (some (.io h3.xs)) := e4
  have e5 : run Pg Gg 37 20 [.io h3.xs, .v (.list bad2)] = .ret (.pv d2) (some (.io h4.xs)) := e5
  have e6 : run Pg Gg 37 20 [.io h4.xs, .v (.list bad3)] = .ret (.pv d3) (some (.io h5.xs)) := e6
  have l1 : ∀ ρ, evE C39.low f_law_g2 ρ = .ok (.fr bad1) ρ := fun ρ => rfl
  have l2 : ∀ ρ, evE C39.low f_law_g4 ρ = .ok (.fr bad2) ρ := fun ρ => rfl
  have l3 : ∀ ρ, evE C39.low f_law_g6 ρ = .ok (.fr bad3) ρ := fun ρ => rfl
  have s1 : cmpD .ne (.list [.str "ratio", .str "proper", .str "number"]) (.list [.str "ratio", .str "proper", .str "number"]) = some false := by kernel_rfl
  have z1 : cmpD .eq (.tuple [.tuple [.int 2, .int 3]]) (.tuple [.tuple [.int 2, .int 3]]) = some true := by kernel_rfl
  have z2 : cmpD .eq (.tuple []) (.tuple []) = some true := by kernel_rfl
  have wr := w_ratio
  have wp := w_proper
  have wn := w_number
  have end1 := end1
  have end2 := end2
  have end3 := end3
  generalize ns.map PyData.int = s at *
  obtain ⟨ρ2, e7, _⟩ := rest_ret (T := T9) (C := C39) (s := dropS 2 f_law.body) (x := .pv (.bool true)) (ρ1 := [some (.raw s), some (.own h5.xs), none, some (.v (.list [.str "ratio", .str "proper", .str "number"])), none, none, none, none, none, none]) (by rfl) l (by
    dsimp only [E0]
    rw [low39] at l1 l2 l3
    generalize bad1 = b1 at *
    generalize bad2 = b2 at *
    generalize bad3 = b3 at *
    simp [Pv.lim_n, Pv.addX, Pv.extX, Pv.jx0, Pv.jx1, -List.map_map, -List.map_reverse, -List.map_tail, -List.map_take, -List.map_drop, f_law, dropS, f_law_k3, f_law_k5, f_law_k7, e_lam, low39, wr39, l1, l2, l3, e_cio, cioGo, backR, backS, e4, e5, e6, x1, x2, x3, wr, wp, wn, s1, end1, end2, end3, z1, z2])
  rw [run_succ (f := f_law) rfl, if_pos ⟨rfl, rfl⟩]
  show finR _ (evSs C39 f_law.body [some (.raw s), none, none, none, none, none, none, none, none, none]) = _
  have s1 : evSs C39 (takeS 1 f_law.body) [some (.raw s), none, none, none, none, none, none, none, none, none] = .nx (E0 s xs) := by
    simp [Pv.lim_n, Pv.addX, Pv.extX, Pv.jx0, Pv.jx1, -List.map_map, -List.map_reverse, -List.map_tail, -List.map_take, -List.map_drop, f_law, takeS, crawGo, e]
  rw [ss_split 1, s1, SR.bind_nx]
  show finR _ (evSs C39 (.cons f_law_l1 (dropS 2 f_law.body)) (E0 s xs)) = _
  rw [ss_cons, e2, SR.bind_nx]
  exact congrArg _ e7
end Lw
namespace Lw
open Pv PySem
def loose : List Str := ("MOST_DIGITS" : PySem.Str) :: ("is_integer" : PySem.Str) :: ("is_within" : PySem.Str) :: ("is_sized" : PySem.Str) :: ("are_integers" : PySem.Str) :: ("common" : PySem.Str) :: ("is_ratio" : PySem.Str) :: ("RatioError" : PySem.Str) :: ("NoNumber" : PySem.Str) :: ("NoParts" : PySem.Str) :: ("NoRatio" : PySem.Str) :: ("NotProper" : PySem.Str) :: ("ZERO" : PySem.Str) :: ("check_ratio" : PySem.Str) :: ("made" : PySem.Str) :: ("plus" : PySem.Str) :: ("minus" : PySem.Str) :: ("summed" : PySem.Str) :: ("MOST_BOTTOM" : PySem.Str) :: ("are_parts" : PySem.Str) :: ("check_parts" : PySem.Str) :: ("sum_of_parts" : PySem.Str) :: ("check_proper" : PySem.Str) :: ("two_parts" : PySem.Str) :: ("pairs_for" : PySem.Str) :: ("_law_hand" : PySem.Str) :: ("_law_mixed" : PySem.Str) :: ("_law_draw" : PySem.Str) :: ("_law_any" : PySem.Str) :: ("_law_low" : PySem.Str) :: ("_law_sum" : PySem.Str) :: ("_law_proper" : PySem.Str) :: ("_law_less_part" : PySem.Str) :: ("_law_word_of" : PySem.Str) :: ("_law_pairs" : PySem.Str) :: ("_law_divisors" : PySem.Str) :: ("_law_are_divisors_there" : PySem.Str) :: ("_law_many_divisors" : PySem.Str) :: ("_law_is_right" : PySem.Str) :: []
abbrev Rr : PySem.W.OpenRow := PySem.W.OpenLaw.row PySem.Challenge.rw_ratiohouse_k64_whole_two_parts
theorem bi : AllBi L := ⟨b_is_integer, b_is_within, b_is_sized, b_are_integers, b_common, b_is_ratio, b_check_ratio, b_made, b_plus, b_minus, b_summed, b_are_parts, b_check_parts, b_sum_of_parts, b_check_proper, b_two_parts, b_pairs_for, b__law_hand, b__law_mixed, b__law_draw, b__law_any, b__law_low, b__law_sum, b__law_proper, b__law_less_part, b__law_word_of, b__law_pairs, b__law_divisors, b__law_are_divisors_there, b__law_many_divisors, b__law_is_right, b_law, trivial⟩
theorem okL : L.all (Dt.ok (nmOf L gls exs)) = true := by decide +kernel
theorem runs (w : World) : HandSHeadRun.RunEq Rr (PySem.W.view Rr.prog [44]) (hkOf L gls exs nx 4) (obOf L gls exs nx 4) 4000 Lw.loose w := by
  intro os
  kernel_rfl
end Lw
open PySem PySem.W PySem.Calls PyProof.Rows
theorem PySem.Challenge.cw_ratiohouse_k64_whole_two_parts_holds : PySem.Challenge.rw_ratiohouse_k64_whole_two_parts.Holds := by
  w_on; o_law
  refine HandSHeadRun.head_any (r := Lw.Rr) (q := view Lw.Rr.prog [44]) (H := Pv.hkOf Lw.L Lw.gls Lw.exs Lw.nx 4) (ob := Pv.obOf Lw.L Lw.gls Lw.exs Lw.nx 4) (M := 4000)
    (loose := Lw.loose)
    (d := HandSHeadRun.topDef Lw.Rr.prog 44) (kwd := []) (Pv.ob_eq _ _ _ _ _)
    (by kernel_rfl)
    (fun s => by kernel_rfl)
    Lw.runs
    (by kernel_rfl)
    (by kernel_rfl) (by kernel_rfl)
    (by rfl)
    (by first | assumption | decide +kernel)
    (by decide +kernel)
    ⟨rfl, rfl, rfl, rfl, rfl, by decide +kernel⟩
    ?hw ?hc
  case hw => w_witness2
  case hc =>
    exact Pv.law_walk (k := 40) (j := 31) (tl := Lw.d_law) (sn := "script") rfl (by decide) (by kernel_rfl) ⟨rfl, by decide, by decide⟩ rfl rfl Lw.bi Lw.okL (by kernel_rfl) Lw.law_true
