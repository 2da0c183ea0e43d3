import PyProof.Rows.All
import Wide.All
import OpenK.AllK
import Wide.FinOn
import PySem.Str
import HandS.ForMost
import HandS.Conv
import HandS.Zip
import HandS.TupAny
import HandS.Rev
import HandS.Defaults
import HandS.TupSets
import HandS.ExcOwn
import HandS.ExcValue
import KE.KeyNested
import KE.KDictKeyed
import KE.SortData
import KE.DataEq
import KE.DataCmp
import KE.DataMinMax
import KE.DataFind
import KE.DataIsa
import KE.DataAny
import HandS.Style
import HandS.TupMul
import PyProof.SumAny
import HandS.Head0
import HandS.Head1
import HandS.Head2
import HandS.HeadEnd
import HandS.HeadHook1
import HandS.HeadHook2
import PySem.Challenge.RW_windheld_k29_whole_all_sondes_that_land
set_option Elab.async false
set_option linter.all false
set_option autoImplicit false
set_option maxRecDepth 100000
set_option maxHeartbeats 0
/-! Plain values and plain programs: an evaluator without a heap. -/
namespace PV
open PySem
/-- plain data; `w` stands for the one shared thing that draws are taken from, `scr` for the list of numbers that is given from outside -/
inductive D where
  | non | bl (b : Bool) | int (i : Int) | str (x : Str)
  | tup (l : List D) | lst (l : List D) | dct (l : List (D × D)) | w | scr (l : List Int)
mutual
def eqD : D → D → Bool
  | .non, b => match b with | .non => true | _ => false
  | .bl a, b => match b with | .bl c => a == c | .int j => (if a then 1 else 0) == j | _ => false
  | .int a, b => match b with | .bl c => a == (if c then 1 else 0) | .int j => a == j | _ => false
  | .str a, b => match b with | .str c => decide (a = c) | _ => false
  | .tup a, b => match b with | .tup c => eqL a c | _ => false
  | .lst a, b => match b with | .lst c => eqL a c | _ => false
  | .dct a, b => match b with | .dct c => a.length == c.length && eqK a c | _ => false
  | .w, _ => false
  | .scr _, _ => false
termination_by structural a => a
def eqL : List D → List D → Bool
  | [], b => match b with | [] => true | _ => false
  | x :: xs, b => match b with | y :: ys => eqD x y && eqL xs ys | _ => false
termination_by structural a => a
def eqK : List (D × D) → List (D × D) → Bool
  | [], _ => true
  | p :: r, c => eqP p c && eqK r c
termination_by structural a => a
def eqP : D × D → List (D × D) → Bool
  | (k, v), c => match c.find? (fun q => eqD k q.1) with | some q => eqD v q.2 | none => false
termination_by structural a => a
end
mutual
/-- how deep a value is -/
def dep : D → Nat
  | .tup a => depL a + 1
  | .lst a => depL a + 1
  | .dct a => depK a + 1
  | _ => 0
termination_by structural a => a
def depL : List D → Nat
  | [] => 0
  | x :: xs => max (dep x) (depL xs)
termination_by structural a => a
def depK : List (D × D) → Nat
  | [] => 0
  | p :: r => max (depP p) (depK r)
termination_by structural a => a
def depP : D × D → Nat
  | (k, v) => max (dep k) (dep v)
termination_by structural a => a
end
mutual
/-- the two can be put in order, place by place -/
def alk : D → D → Bool
  | .non, b => match b with | .non => true | _ => false
  | .bl _, b => match b with | .bl _ => true | _ => false
  | .int _, b => match b with | .int _ => true | _ => false
  | .str _, b => match b with | .str _ => true | _ => false
  | .tup a, b => match b with | .tup c => alkL a c | _ => false
  | .lst a, b => match b with | .lst c => alkL a c | _ => false
  | .dct _, _ => false
  | .w, _ => false
  | .scr _, _ => false
termination_by structural a => a
def alkL : List D → List D → Bool
  | [], _ => true
  | x :: xs, b => match b with | y :: ys => alk x y && alkL xs ys | [] => true
termination_by structural a => a
end
mutual
/-- x < y, of values that are alike -/
def ltD : D → D → Bool
  | .bl a, b => match b with | .bl c => !a && c | _ => false
  | .int a, b => match b with | .int c => decide (a < c) | _ => false
  | .str a, b => match b with | .str c => decide (a.cps.toList < c.cps.toList) | _ => false
  | .tup a, b => match b with | .tup c => ltL a c | _ => false
  | .lst a, b => match b with | .lst c => ltL a c | _ => false
  | _, _ => false
termination_by structural a => a
def ltL : List D → List D → Bool
  | [], b => match b with | [] => false | _ => true
  | x :: xs, b => match b with | [] => false | y :: ys => if eqD x y then ltL xs ys else ltD x y
termination_by structural a => a
end
mutual
/-- no dict, no shared thing within -/
def flat : D → Bool
  | .tup a => flatL a
  | .lst a => flatL a
  | .dct _ => false
  | .w => false
  | .scr _ => false
  | _ => true
termination_by structural a => a
def flatL : List D → Bool
  | [] => true
  | x :: xs => flat x && flatL xs
termination_by structural a => a
end
mutual
/-- what may be a key: numbers, texts, None, tuples of these -/
def keyD : D → Bool
  | .non => true
  | .int _ => true
  | .str _ => true
  | .tup a => keyL a
  | _ => false
termination_by structural a => a
def keyL : List D → Bool
  | [] => true
  | x :: xs => keyD x && keyL xs
termination_by structural a => a
end
/-- a run: what comes back, an exception, nothing that is told, or a number drawn below n -/
inductive M (α : Type) where
  | ret (a : α)
  | exc (c : Str) (v : D)
  | bad
  | draw (n : Int) (k : Int → M α)
def M.bind {α β : Type} : M α → (α → M β) → M β
  | .ret a, f => f a
  | .exc c v, _ => .exc c v
  | .bad, _ => .bad
  | .draw n k, f => .draw n fun i => (k i).bind f
instance : Monad M where
  pure := M.ret
  bind := M.bind
section
variable {α β γ : Type}
@[simp] theorem pure_eq (a : α) : (pure a : M α) = .ret a := rfl
@[simp] theorem ret_bind (a : α) (f : α → M β) : (M.ret a >>= f) = f a := rfl
@[simp] theorem bad_bind (f : α → M β) : (M.bad >>= f) = .bad := rfl
@[simp] theorem exc_bind (c : Str) (v : D) (f : α → M β) : (M.exc c v >>= f) = .exc c v := rfl
@[simp] theorem draw_bind (n : Int) (k : Int → M α) (f : α → M β) : (M.draw n k >>= f) = .draw n fun i => k i >>= f := rfl
theorem bind_asc (m : M α) (f : α → M β) (g : β → M γ) : ((m >>= f) >>= g) = (m >>= fun a => f a >>= g) := by
  induction m with
  | ret a => rfl
  | exc c v => rfl
  | bad => rfl
  | draw n k ih => simp only [draw_bind, ih]
@[simp] theorem bind_ret (m : M α) : (m >>= fun a => M.ret a) = m := by
  induction m with
  | ret a => rfl
  | exc c v => rfl
  | bad => rfl
  | draw n k ih => simp only [draw_bind, ih]
/-- whatever is drawn: the end is of P, an exception of E -/
def M.post (P : α → Prop) (E : Str → D → Prop) : M α → Prop
  | .ret a => P a
  | .exc c v => E c v
  | .bad => False
  | .draw n k => 0 < n ∧ ∀ i : Int, 0 ≤ i → i < n → (k i).post P E
theorem post_bind {P : β → Prop} {E : Str → D → Prop} (m : M α) (f : α → M β) : (m >>= f).post P E ↔ m.post (fun a => (f a).post P E) E := by
  induction m with
  | ret a => exact Iff.rfl
  | exc c v => exact Iff.rfl
  | bad => exact Iff.rfl
  | draw n k ih => exact and_congr_right fun _ => forall_congr' fun i => forall_congr' fun _ => forall_congr' fun _ => ih i
theorem post_false {m : M α} {E : Str → D → Prop} (h : m.post (fun _ => False) E) (hE : ∀ c v, ¬ E c v) : False := by
  induction m with
  | ret a => exact h
  | exc c v => exact hE _ _ h
  | bad => exact h
  | draw n k ih => exact ih 0 (h.2 0 (Int.le_refl _) h.1)
theorem post_mono {P P' : α → Prop} {E E' : Str → D → Prop} {m : M α} (h : m.post P E) (hP : ∀ a, P a → P' a) (hE : ∀ c v, E c v → E' c v) : m.post P' E' := by
  induction m with
  | ret a => exact hP _ h
  | exc c v => exact hE _ _ h
  | bad => exact h
  | draw n k ih => exact ⟨h.1, fun i h1 h2 => ih i (h.2 i h1 h2)⟩
end
abbrev Env := List (Option (Bool × D))
abbrev Ex := Env → M D
inductive Out where
  | nx (e : Env) | rt (d : D) | bk (e : Env)
abbrev St := Env → M Out
abbrev Tgt := D → Env → M Env
abbrev Its := Env → M (List D)
def LIM : Nat := 1000000
def SML : Int := 4611686018427387904
def W64 : Int := 18446744073709551616
def W30 : Int := 1073741824
def DEP : Nat := 40
/-! ### values -/
def ck {α : Type} (c : Prop) [Decidable c] (m : M α) : M α := if c then m else .bad
def truth : D → M Bool
  | .bl b => .ret b
  | _ => .bad
def small (i : Int) : Prop := -W64 < i ∧ i < W64
instance (i : Int) : Decidable (small i) := inferInstanceAs (Decidable (_ ∧ _))
def dAdd : D → D → M D
  | .int a, .int b => .ret (.int (a + b))
  | .lst a, .lst b => ck (a.length + b.length ≤ LIM) (.ret (.lst (a ++ b)))
  | .tup a, .tup b => ck (a.length + b.length ≤ LIM) (.ret (.tup (a ++ b)))
  | .str a, .str b => ck (a.cps.size + b.cps.size ≤ LIM) (.ret (.str ⟨a.cps ++ b.cps⟩))
  | _, _ => .bad
def dSub : D → D → M D
  | .int a, .int b => .ret (.int (a - b))
  | _, _ => .bad
def dMul : D → D → M D
  | .int a, .int b => ck (small a ∨ small b) (.ret (.int (a * b)))
  | .lst a, .int k => ck (k ≤ 1000000 ∧ -SML ≤ k ∧ a.length * k.toNat ≤ LIM) (.ret (.lst (List.replicate k.toNat a).flatten))
  | .tup a, .int k => ck (2 ≤ k ∧ k ≤ 1000 ∧ a.length ≤ 1000 ∧ 0 < a.length) (.ret (.tup (List.replicate k.toNat a).flatten))
  | _, _ => .bad
def dFdiv : D → D → M D
  | .int a, .int b => if 0 < b then ck (b < W30) (.ret (.int (a / b))) else ck (b < 0 ∧ -W30 < b) (.ret (.int (a.fdiv b)))
  | _, _ => .bad
def dMod : D → D → M D
  | .int a, .int b => if 0 < b then .ret (.int (a % b)) else ck (b < 0) (.ret (.int (a.fmod b)))
  | _, _ => .bad
def dPow : D → D → M D
  | .int a, .int b => ck (0 ≤ b ∧ b ≤ 1000 ∧ small a) (.ret (.int (a ^ b.toNat)))
  | _, _ => .bad
def dAnd : D → D → M D
  | .int a, .int b => ck (b = 1 ∧ 0 ≤ a) (.ret (.int (a % 2)))
  | _, _ => .bad
def dShl : D → D → M D
  | .int a, .int b => ck (0 ≤ b ∧ b ≤ 1000 ∧ small a) (.ret (.int (a * 2 ^ b.toNat)))
  | _, _ => .bad
def dShr : D → D → M D
  | .int a, .int b => ck (0 ≤ b) (.ret (.int (a / 2 ^ b.toNat)))
  | _, _ => .bad
def dNeg : D → M D
  | .int a => .ret (.int (-a))
  | _ => .bad
def dNot : D → M D
  | .bl b => .ret (.bl (!b))
  | _ => .bad
def notNon : D → Bool
  | .non => false
  | _ => true
/-- == is told of these -/
def eqOk (x y : D) : Prop := flat x = true ∧ flat y = true ∧ min (dep x) (dep y) ≤ DEP
instance (x y : D) : Decidable (eqOk x y) := inferInstanceAs (Decidable (_ ∧ _))
def dEq (x y : D) : M Bool := ck (eqOk x y) (.ret (eqD x y))
/-- order is told of these -/
def ordC (x y : D) : Prop := flat x = true ∧ flat y = true ∧ alk x y = true ∧ alk y x = true ∧ notNon x = true ∧ min (dep x) (dep y) ≤ DEP
instance (x y : D) : Decidable (ordC x y) := inferInstanceAs (Decidable (_ ∧ _))
/-! ### sequences, dicts -/
def isSeq : D → Option (List D)
  | .lst l => some l
  | .tup l => some l
  | _ => none
def lookK (k : D) : List (D × D) → Option D
  | [] => none
  | (a, v) :: r => if eqD k a then some v else lookK k r
def putK (k v : D) : List (D × D) → List (D × D)
  | [] => [(k, v)]
  | (a, u) :: r => if eqD k a then (a, v) :: r else (a, u) :: putK k v r
def delK (k : D) : List (D × D) → List (D × D)
  | [] => []
  | (a, u) :: r => if eqD k a then r else (a, u) :: delK k r
/-- may stand as a key -/
def okK (k : D) : Bool := keyD k && decide (dep k ≤ 8)
def ixN (n : Nat) (i : Int) : Option Nat := if 0 ≤ i then (if i < n then some i.toNat else none) else if -(n : Int) ≤ i then some (i + n).toNat else none
def getI {α : Type} (l : List α) (i : Int) : Option α := (ixN l.length i).bind fun j => l[j]?
def ofOpt {α : Type} : Option α → M α
  | some a => .ret a
  | none => .bad
def dIdx : D → D → M D
  | .lst l, .int i => ofOpt (getI l i)
  | .tup l, .int i => ofOpt (getI l i)
  | .str x, .int i => match getI x.cps.toList i with | some c => ck (x.cps.size ≤ LIM) (.ret (.str ⟨#[c]⟩)) | none => .bad
  | .scr l, .int i => match getI l i with | some n => .ret (.int n) | none => .bad
  | _, _ => .bad
/-- a slice's bound -/
def sIx (n d : Nat) : Option Int → Nat
  | none => d
  | some v => if v < 0 then (v + (n : Int)).toNat else min v.toNat n
def cut {α : Type} (xs : List α) (lo hi : Option Int) : List α := (xs.drop (sIx xs.length 0 lo)).take (sIx xs.length xs.length hi - sIx xs.length 0 lo)
def dSlc (x : D) (lo hi : Option Int) : M D :=
  match x with
  | .lst l => .ret (.lst (cut l lo hi))
  | .tup l => .ret (.tup (cut l lo hi))
  | .str s => ck (s.cps.size ≤ LIM) (.ret (.str ⟨(cut s.cps.toList lo hi).toArray⟩))
  | _ => .bad
def dRev : D → M D
  | .lst l => .ret (.lst l.reverse)
  | _ => .bad
def dIn (x : D) : D → M Bool
  | .lst l => ck (flat x = true ∧ flatL l = true ∧ min (depL l) (dep x) ≤ DEP) (.ret (l.any fun y => eqD y x))
  | .tup l => ck (flat x = true ∧ flatL l = true ∧ min (depL l) (dep x) ≤ DEP) (.ret (l.any fun y => eqD y x))
  | _ => .bad
/-! ### what is walked -/
def dItems : D → M (List D)
  | .lst l => .ret l
  | .tup l => .ret l
  | .str s => .ret (s.cps.toList.map fun c => .str ⟨#[c]⟩)
  | _ => .bad
def rng (lo : Int) (n : Nat) (c : Int) : List D := (List.range n).map fun k => D.int (lo + (Int.ofNat k) * c)
def dRange : List D → M (List D)
  | [.int j] => ck (-SML ≤ j ∧ j < SML) (.ret (rng 0 j.toNat 1))
  | [.int i, .int j] => ck (-SML ≤ i ∧ i < SML ∧ -SML ≤ j ∧ j < SML) (.ret (rng i (j - i).toNat 1))
  | [.int i, .int j, .int c] => ck (c = -1 ∧ -SML ≤ i ∧ i < SML ∧ -SML ≤ j ∧ j < SML) (.ret (rng i (i - j).toNat (-1)))
  | _ => .bad
def dZip : D → D → M (List D)
  | .lst a, .lst b => .ret ((a.zip b).map fun p => .tup [p.1, p.2])
  | .tup a, .tup b => .ret ((a.zip b).map fun p => .tup [p.1, p.2])
  | _, _ => .bad
def dEnum : D → M (List D)
  | .lst a => .ret (a.zipIdx.map fun p => .tup [.int (p.2 : Nat), p.1])
  | _ => .bad
/-! ### sorting -/
def insD (lt : D → D → Bool) (x : D) : List D → List D
  | [] => [x]
  | y :: r => if lt y x then y :: insD lt x r else x :: y :: r
def sortD (lt : D → D → Bool) : List D → List D
  | [] => []
  | x :: r => insD lt x (sortD lt r)
def allAlk (l : List D) : Bool := l.all fun x => l.all fun y => alk x y
def headTup : D → Bool
  | .tup (_ :: _) => true
  | _ => false
def notTup : D → Bool
  | .tup _ => false
  | .non => false
  | _ => true
def sortable (l : List D) : Bool := l.all headTup || l.all notTup
def ordOk (l : List D) : Prop := allAlk l = true ∧ sortable l = true ∧ depL l ≤ DEP
instance (l : List D) : Decidable (ordOk l) := inferInstanceAs (Decidable (_ ∧ _))
/-- each once, the first of equal ones -/
def dedup : List D → List D
  | [] => []
  | x :: r => x :: (dedup r).filter fun y => !eqD x y
def firstLt (lt : D → D → Bool) : D → List D → D
  | x, [] => x
  | x, y :: r => firstLt lt (if lt y x then y else x) r
/-! ### built-in functions, by values -/
def pLen : List D → M D
  | [.lst l] => .ret (.int l.length)
  | [.tup l] => .ret (.int l.length)
  | [.str s] => ck (s.cps.size ≤ LIM) (.ret (.int s.cps.size))
  | [.scr l] => .ret (.int l.length)
  | _ => .bad
def pAbs : List D → M D
  | [.int i] => .ret (.int (if i < 0 then -i else i))
  | _ => .bad
def pInt : List D → M D
  | [.int i] => .ret (.int i)
  | [.bl b] => .ret (.int (if b then 1 else 0))
  | _ => .bad
def intsOf : List D → Option (List Int)
  | [] => some []
  | .int i :: r => (intsOf r).map (i :: ·)
  | _ => none
def lstsOf : List D → Option (List (List D))
  | [] => some []
  | .lst l :: r => (lstsOf r).map (l :: ·)
  | _ => none
def blsOf : List D → Option (List Bool)
  | [] => some []
  | .bl b :: r => (blsOf r).map (b :: ·)
  | _ => none
def pSum : List D → M D
  | [.lst l] => match intsOf l with | some ns => .ret (.int ns.sum) | none => .bad
  | _ => .bad
/-- sum(x, []) -/
def pSumL : D → M D
  | .lst l => match lstsOf l with | some ls => ck (ls.flatten.length ≤ LIM) (.ret (.lst ls.flatten)) | none => .bad
  | _ => .bad
def pMin : List D → M D
  | [x] => match isSeq x with
    | some (y :: r) => ck (allAlk (y :: r) = true ∧ (y :: r).all notNon = true ∧ depL (y :: r) ≤ DEP) (.ret (firstLt ltD y r))
    | _ => .bad
  | _ => .bad
def pMax : List D → M D
  | [x] => match isSeq x with
    | some (y :: r) => ck (allAlk (y :: r) = true ∧ (y :: r).all notNon = true ∧ depL (y :: r) ≤ DEP) (.ret (firstLt (fun a b => ltD b a) y r))
    | _ => .bad
  | _ => .bad
def pTuple : List D → M D
  | [.lst l] => .ret (.tup l)
  | [.tup l] => .ret (.tup l)
  | _ => .bad
def pairsOf : List D → Option (List (D × D))
  | [] => some []
  | .tup [k, v] :: r => (pairsOf r).map ((k, v) :: ·)
  | _ => none
def putAll (acc : List (D × D)) : List (D × D) → List (D × D)
  | [] => acc
  | (k, v) :: r => putAll (putK k v acc) r
def pList : List D → M D
  | [.lst l] => .ret (.lst l)
  | [.tup l] => .ret (.lst l)
  | _ => .bad
def pDict : List D → M D
  | [.lst l] => match pairsOf l with | some ps => ck (ps.all (fun p => okK p.1) = true) (.ret (.dct (putAll [] ps))) | none => .bad
  | [.dct l] => .ret (.dct l)
  | _ => .bad
def pSorted : List D → M D
  | [.lst l] => ck (ordOk l) (.ret (.lst (sortD ltD l)))
  | _ => .bad
def isI : D → Bool
  | .int _ => true
  | _ => false
/-- a tuple of numbers, not empty -/
def isTI : D → Bool
  | .tup (x :: r) => isI x && r.all isI
  | _ => false
/-- sorted(set(x)) -/
def pSortSet : List D → M D
  | [.lst l] => ck (l.all isTI = true ∧ l.length ≤ 60) (.ret (.lst (sortD ltD (dedup l))))
  | _ => .bad
/-- len(set(x)) -/
def pLenSet : List D → M D
  | [.lst l] => ck (l.all isTI = true ∧ l.length ≤ 60) (.ret (.int (dedup l).length))
  | _ => .bad
def pAll : List D → M D
  | [.lst l] => match blsOf l with | some bs => .ret (.bl (bs.all id)) | none => .bad
  | _ => .bad
def pAny : List D → M D
  | [.lst l] => match blsOf l with | some bs => .ret (.bl (bs.any id)) | none => .bad
  | _ => .bad
def pIsInt : List D → M D
  | [.int _] => .ret (.bl true)
  | [.bl _] => .ret (.bl true)
  | [.w] => .bad
  | [.scr _] => .bad
  | [_] => .ret (.bl false)
  | _ => .bad
def pIsBool : List D → M D
  | [.bl _] => .ret (.bl true)
  | [.w] => .bad
  | [.scr _] => .bad
  | [_] => .ret (.bl false)
  | _ => .bad
def pIsStr : List D → M D
  | [.str _] => .ret (.bl true)
  | [.w] => .bad
  | [.scr _] => .bad
  | [_] => .ret (.bl false)
  | _ => .bad
def pIsTup : List D → M D
  | [.tup _] => .ret (.bl true)
  | [.w] => .bad
  | [.scr _] => .bad
  | [_] => .ret (.bl false)
  | _ => .bad
def pIsDct : List D → M D
  | [.dct _] => .ret (.bl true)
  | [.w] => .bad
  | [.scr _] => .bad
  | [_] => .ret (.bl false)
  | _ => .bad
/-- x.get(k), x.get(k, d) -/
def mGet : List D → M D
  | [.dct l, k] => ck (okK k = true) (.ret ((lookK k l).getD .non))
  | [.dct l, k, d] => ck (okK k = true) (.ret ((lookK k l).getD d))
  | _ => .bad
def mIndex : List D → M D
  | [.lst l, x] => ck (flat x = true ∧ flatL l = true ∧ min (depL l) (dep x) ≤ DEP) (match l.findIdx? fun y => eqD y x with | some j => .ret (.int (j : Nat)) | none => .bad)
  | _ => .bad
def mCount : List D → M D
  | [x, y] => match isSeq x with
    | some l => ck (flat y = true ∧ flatL l = true ∧ min (depL l) (dep y) ≤ DEP) (.ret (.int ((l.countP fun z => eqD z y : Nat) : Int)))
    | none => .bad
  | _ => .bad
/-! ### expressions -/
def eVar (i : Nat) : Ex := fun env => match env[i]? with | some (some (false, d)) => .ret d | _ => .bad
def eVarB (i : Nat) : Ex := fun env => match env[i]? with | some (some (_, d)) => .ret d | _ => .bad
def eLit (d : D) : Ex := fun _ => .ret d
def eAll : List Ex → Env → M (List D)
  | [], _ => .ret []
  | e :: es, env => e env >>= fun d => eAll es env >>= fun ds => .ret (d :: ds)
def eTup (es : List Ex) : Ex := fun env => eAll es env >>= fun ds => .ret (.tup ds)
def eLst (es : List Ex) : Ex := fun env => eAll es env >>= fun ds => .ret (.lst ds)
def eDct0 : Ex := fun _ => .ret (.dct [])
def eDct1 (k v : Ex) : Ex := fun env => k env >>= fun a => v env >>= fun b => ck (okK a = true) (.ret (.dct [(a, b)]))
def eBin (o : D → D → M D) (a b : Ex) : Ex := fun env => a env >>= fun x => b env >>= fun y => o x y
def eUn (o : D → M D) (a : Ex) : Ex := fun env => a env >>= fun x => o x
def bl (m : M Bool) : M D := m >>= fun b => .ret (.bl b)
def oEq (x y : D) : M D := bl (dEq x y)
def oNe (x y : D) : M D := dEq x y >>= fun b => .ret (.bl (!b))
def oLt (x y : D) : M D := ck (ordC x y) (.ret (.bl (ltD x y)))
def oGt (x y : D) : M D := ck (ordC x y) (.ret (.bl (ltD y x)))
def oLe (x y : D) : M D := ck (ordC x y) (.ret (.bl (!ltD y x)))
def oGe (x y : D) : M D := ck (ordC x y) (.ret (.bl (!ltD x y)))
def oIn (x y : D) : M D := bl (dIn x y)
def oNotIn (x y : D) : M D := dIn x y >>= fun b => .ret (.bl (!b))
def isNon : D → Bool
  | .non => true
  | _ => false
/-- x is c, c one of None, True, False -/
def oIs (c : D) (x : D) : M D :=
  match c, x with
  | .non, x => .ret (.bl (isNon x))
  | .bl a, .bl b => .ret (.bl (decide (b = a)))
  | _, _ => .bad
def oIsNot (c : D) (x : D) : M D :=
  match c, x with
  | .non, x => .ret (.bl (!isNon x))
  | .bl a, .bl b => .ret (.bl (!decide (b = a)))
  | _, _ => .bad
/-- a o b p c -/
def eChain (o p : D → D → M D) (a b c : Ex) : Ex := fun env => a env >>= fun x => b env >>= fun y => o x y >>= fun t => truth t >>= fun k => if k = true then c env >>= fun z => p y z else .ret (.bl false)
def eAnd (a b : Ex) : Ex := fun env => a env >>= fun x => truth x >>= fun k => if k = true then b env else .ret (.bl false)
def eOr (a b : Ex) : Ex := fun env => a env >>= fun x => truth x >>= fun k => if k = true then .ret (.bl true) else b env
def eIte (c a b : Ex) : Ex := fun env => c env >>= fun x => truth x >>= fun k => if k = true then a env else b env
def part : Option Ex → Env → M (Option Int)
  | none, _ => .ret none
  | some e, env => e env >>= fun d => match d with | .int i => .ret (some i) | _ => .bad
def eSlc (a : Ex) (lo hi : Option Ex) : Ex := fun env => a env >>= fun x => part lo env >>= fun l => part hi env >>= fun h => dSlc x l h
def ePrim (p : List D → M D) (es : List Ex) : Ex := fun env => eAll es env >>= fun ds => p ds
def eCall (F : List D → M D) (es : List Ex) : Ex := fun env => eAll es env >>= fun ds => F ds
def eListOf (i : Its) : Ex := fun env => i env >>= fun l => .ret (.lst l)
def eTupOf (i : Its) : Ex := fun env => i env >>= fun l => .ret (.tup l)
/-- dict(zip(a, b)) -/
def eDictZip (a b : Ex) : Ex := fun env => a env >>= fun x => b env >>= fun y => match isSeq x, isSeq y with
  | some k, some v => ck (k.all okK = true) (.ret (.dct (putAll [] (k.zip v))))
  | _, _ => .bad
def iVal (e : Ex) : Its := fun env => e env >>= fun d => dItems d
def iRng (es : List Ex) : Its := fun env => eAll es env >>= fun ds => dRange ds
def iZip (a b : Ex) : Its := fun env => a env >>= fun x => b env >>= fun y => dZip x y
def iEnum (a : Ex) : Its := fun env => a env >>= fun x => dEnum x
/-! ### targets -/
def tName (i : Nat) : Tgt := fun d env => .ret (env.set i (some (false, d)))
def tAll : List Tgt → List D → Env → M Env
  | [], [], env => .ret env
  | t :: ts, d :: ds, env => t d env >>= fun env' => tAll ts ds env'
  | _, _, _ => .bad
def tTup (ts : List Tgt) : Tgt := fun d env => match d with | .tup l => ck (l.length = ts.length) (tAll ts l env) | _ => .bad
def setItem (c k v : D) : M D :=
  match c with
  | .lst l => match k with
    | .int i => match ixN l.length i with | some j => .ret (.lst (l.set j v)) | none => .bad
    | _ => .bad
  | _ => .bad
/-- x[e] = .. of an owned x -/
def tSub (i : Nat) (e : Ex) : Tgt := fun d env => e env >>= fun k => match env[i]? with
  | some (some (true, c)) => setItem c k d >>= fun c' => .ret (env.set i (some (true, c')))
  | _ => .bad
/-! ### list comprehensions -/
def tests : List Ex → Env → M Bool
  | [], _ => .ret true
  | c :: cs, env => c env >>= fun x => truth x >>= fun k => if k = true then tests cs env else .ret false
def fold (body : D → List D → M (List D)) : List D → List D → M (List D)
  | [], acc => .ret acc
  | x :: xs, acc => body x acc >>= fun acc' => fold body xs acc'
/-- the slots of a block's own names, forgotten -/
def wipeE (env : Env) : List Nat → Env
  | [] => env
  | v :: vs => (wipeE env vs).set v none
structure Gen where
  own : List Nat
  tgt : Tgt
  it : Its
  ifs : List Ex
def comp (elt : Ex) : List Gen → Env → List D → M (List D)
  | [], env, acc => elt env >>= fun y => ck (acc.length < LIM) (.ret (acc ++ [y]))
  | g :: gs, env, acc => g.it env >>= fun xs => fold (fun x acc => g.tgt x (wipeE env g.own) >>= fun env' => tests g.ifs env' >>= fun k => if k = true then comp elt gs env' acc else .ret acc) xs acc
def eLc (elt : Ex) (gs : List Gen) : Ex := fun env => comp elt gs env [] >>= fun l => .ret (.lst l)
/-! ### statements -/
def fz (is : List Nat) (env : Env) : Env := is.foldl (fun e i => match e[i]? with | some (some (_, d)) => e.set i (some (false, d)) | _ => e) env
def sFz (is : List Nat) (s : St) : St := fun env => s (fz is env)
def sNop : St := fun env => .ret (.nx env)
def sSeq (a b : St) : St := fun env => a env >>= fun o => match o with
  | .nx e => b e
  | .rt d => .ret (.rt d)
  | .bk e => .ret (.bk e)
def sBlk : List St → St
  | [] => sNop
  | [a] => a
  | a :: b :: r => sSeq a (sBlk (b :: r))
def sTgt (t : Tgt) (e : Ex) : St := fun env => e env >>= fun d => t d env >>= fun env' => .ret (.nx env')
def isMut : D → Bool
  | .lst _ => true
  | .dct _ => true
  | _ => false
def sOwn (i : Nat) (e : Ex) : St := fun env => e env >>= fun d => .ret (.nx (env.set i (some (isMut d, d))))
/-- a, b, .. = x, y, ..: each its own (true: new and owned) -/
def setAll : List (Bool × Nat) → List D → Env → Env
  | (o, i) :: r, d :: ds, env => setAll r ds (env.set i (some (o && isMut d, d)))
  | _, _, env => env
def sPar (is : List (Bool × Nat)) (es : List Ex) : St := fun env => eAll es env >>= fun ds => .ret (.nx (setAll is ds env))
/-- of ints only: a list would be changed in its place -/
def augI (o : D → D → M D) : D → D → M D
  | .int a, .int b => o (.int a) (.int b)
  | _, _ => .bad
def sAug (i : Nat) (o : D → D → M D) (e : Ex) : St := fun env => eVarB i env >>= fun x => e env >>= fun y => augI o x y >>= fun z => .ret (.nx (env.set i (some (false, z))))
def sIf (c : Ex) (a b : St) : St := fun env => c env >>= fun x => truth x >>= fun k => if k = true then a env else b env
def forGo (t : Tgt) (body : St) : List D → Env → M Out
  | [], env => .ret (.nx env)
  | x :: xs, env => t x env >>= fun env' => body env' >>= fun o => match o with
    | .nx e => forGo t body xs e
    | .rt d => .ret (.rt d)
    | .bk e => .ret (.nx e)
def sFor (t : Tgt) (it : Its) (body : St) : St := fun env => it env >>= fun xs => forGo t body xs env
def whileGo (c : Ex) (body : St) : Nat → Env → M Out
  | 0, _ => .bad
  | n + 1, env => c env >>= fun x => truth x >>= fun k => if k = true then body env >>= fun o => match o with
      | .nx e => whileGo c body n e
      | .rt d => .ret (.rt d)
      | .bk e => .ret (.nx e)
    else .ret (.nx env)
def FUEL : Nat := 100000
def sWhile (c : Ex) (body : St) : St := fun env => whileGo c body FUEL env
def sRet (e : Ex) : St := fun env => e env >>= fun d => .ret (.rt d)
def sRetN : St := fun _ => .ret (.rt .non)
def sBrk : St := fun env => .ret (.bk env)
/-- x.m(e) as a statement, x owned -/
def sMut (i : Nat) (f : D → D → M D) (e : Ex) : St := fun env => e env >>= fun d => match env[i]? with
  | some (some (true, c)) => f c d >>= fun c' => .ret (.nx (env.set i (some (true, c'))))
  | _ => .bad
def fAppend : D → D → M D
  | .lst l, d => ck (l.length < LIM) (.ret (.lst (l ++ [d])))
  | _, _ => .bad
def fExtend : D → D → M D
  | .lst l, .lst r => ck (l.length + r.length ≤ LIM) (.ret (.lst (l ++ r)))
  | _, _ => .bad
def fDel : D → D → M D
  | .dct l, k => ck (okK k = true ∧ (lookK k l).isSome = true) (.ret (.dct (delK k l)))
  | _, _ => .bad
def fUpd : D → D → M D
  | .dct l, .dct r => ck (l.length + r.length ≤ LIM ∧ 0 < l.length) (.ret (.dct (putAll l r)))
  | _, _ => .bad
/-- t = x.pop() -/
def sPop (t : Tgt) (i : Nat) : St := fun env => match env[i]? with
  | some (some (true, .lst l)) => match l.getLast? with
    | some d => t d (env.set i (some (true, .lst l.dropLast))) >>= fun env' => .ret (.nx env')
    | none => .bad
  | _ => .bad
/-! ### defs -/
def run (n : Nat) (body : St) (args : List D) : M D :=
  body (args.map (fun d => some (false, d)) ++ List.replicate (n - args.length) none) >>= fun o => match o with
  | .nx _ => .ret .non
  | .rt d => .ret d
  | .bk _ => .bad
/-- a number below n, from the shared thing -/
def fDraw : List D → M D
  | [.w, .int n] => ck (0 < n) (.draw n fun i => .ret (.int i))
  | _ => .bad
/-- the shared thing, made of a list of numbers -/
def eMkw (e : Ex) : Ex := fun env => e env >>= fun d => match d with
  | .lst l => ck (l.all (fun x => match x with | .int i => decide (0 ≤ i ∧ i < 997) | _ => false) = true) (.ret .w)
  | _ => .bad
abbrev noE : Str → D → Prop := fun _ _ => False
/-- whatever is drawn: it ends, and says True -/
structure Safe (m : M D) : Prop where
  ok : m.post (fun d => d = .bl true) noE
end PV
/-! plain facts: sorting, rows of numbers -/
namespace PV
theorem mem_insD {lt : D → D → Bool} {x a : D} : ∀ {l : List D}, a ∈ insD lt x l ↔ a = x ∨ a ∈ l
  | [] => by simp [insD]
  | y :: r => by
    unfold insD
    by_cases h : lt y x = true
    · rw [if_pos h, List.mem_cons, mem_insD, List.mem_cons]
      constructor <;> (intro h; rcases h with h | h | h <;> simp [h])
    · rw [if_neg h]; simp
theorem mem_sortD {lt : D → D → Bool} {a : D} : ∀ {l : List D}, a ∈ sortD lt l ↔ a ∈ l
  | [] => Iff.rfl
  | x :: r => by
    show a ∈ insD lt x (sortD lt r) ↔ _
    rw [mem_insD, mem_sortD, List.mem_cons]
theorem perm_insD {lt : D → D → Bool} {x : D} : ∀ {l : List D}, (insD lt x l).Perm (x :: l)
  | [] => .refl _
  | y :: r => by
    unfold insD
    by_cases h : lt y x = true
    · rw [if_pos h]
      exact (perm_insD.cons y).trans (.swap _ _ _)
    · rw [if_neg h]
theorem perm_sortD {lt : D → D → Bool} : ∀ {l : List D}, (sortD lt l).Perm l
  | [] => .refl _
  | x :: r => perm_insD.trans (perm_sortD.cons x)
/-- in order -/
theorem pw_sortD {lt : D → D → Bool} (P : D → Prop) (htr : ∀ a b c, P a → P b → P c → lt b a = false → lt c b = false → lt c a = false) (has : ∀ a b, P a → P b → lt a b = true → lt b a = false) :
    ∀ l : List D, (∀ a ∈ l, P a) → (sortD lt l).Pairwise fun a b => lt b a = false
  | [], _ => .nil
  | x :: r, h => by
    have ih := pw_sortD P htr has r fun a ha => h a (List.mem_cons_of_mem _ ha)
    have hP : ∀ a ∈ sortD lt r, P a := fun a ha => h a (List.mem_cons_of_mem _ (mem_sortD.mp ha))
    have hx := h x List.mem_cons_self
    show (insD lt x (sortD lt r)).Pairwise _
    revert ih hP
    generalize sortD lt r = l
    intro ih hP
    induction l with
    | nil => exact List.pairwise_singleton _ _
    | cons y l ihl =>
      unfold insD
      obtain ⟨p1, p2⟩ := List.pairwise_cons.mp ih
      have hy := hP y List.mem_cons_self
      by_cases c : lt y x = true
      · rw [if_pos c]
        refine List.pairwise_cons.mpr ⟨fun z hz => ?_, ihl p2 fun a ha => hP a (List.mem_cons_of_mem _ ha)⟩
        rcases mem_insD.mp hz with rfl | hz
        · exact has _ _ hy hx c
        · exact p1 z hz
      · rw [if_neg c]
        have c' : lt y x = false := by simpa using c
        refine List.pairwise_cons.mpr ⟨fun z hz => ?_, ih⟩
        rcases List.mem_cons.mp hz with rfl | hz
        · exact c'
        · exact htr _ _ _ hx hy (hP z (List.mem_cons_of_mem _ hz)) c' (p1 z hz)
theorem mem_dedup {a : D} : ∀ {l : List D}, a ∈ dedup l → a ∈ l
  | x :: r, h => by
    unfold dedup at h
    rcases List.mem_cons.mp h with rfl | h
    · exact List.mem_cons_self
    · exact List.mem_cons_of_mem _ (mem_dedup (List.mem_filter.mp h).1)
/-! ### tuples of numbers -/
def dTI (ns : List Int) : D := .tup (ns.map D.int)
theorem isI_all : ∀ {l : List D}, l.all isI = true → ∃ ns : List Int, l = ns.map D.int
  | [], _ => ⟨[], rfl⟩
  | x :: r, h => by
    rw [List.all_cons, Bool.and_eq_true] at h
    obtain ⟨ns, rfl⟩ := isI_all h.2
    cases x with
    | int i => exact ⟨i :: ns, rfl⟩
    | _ => simp [isI] at h
theorem isTI_of {x : D} (h : isTI x = true) : ∃ ns, ns ≠ [] ∧ x = dTI ns := by
  cases x with
  | tup l =>
    cases l with
    | nil => simp [isTI] at h
    | cons y r =>
      simp only [isTI, Bool.and_eq_true] at h
      cases y with
      | int i =>
        obtain ⟨ns, rfl⟩ := isI_all h.2
        exact ⟨i :: ns, by simp, rfl⟩
      | _ => simp [isI] at h
  | _ => simp [isTI] at h
theorem isTI_all : ∀ {l : List D}, l.all isTI = true → ∃ nss : List (List Int), (∀ ns ∈ nss, ns ≠ []) ∧ l = nss.map dTI
  | [], _ => ⟨[], by simp, rfl⟩
  | x :: r, h => by
    rw [List.all_cons, Bool.and_eq_true] at h
    obtain ⟨nss, hn, rfl⟩ := isTI_all h.2
    obtain ⟨ns, hne, rfl⟩ := isTI_of h.1
    exact ⟨ns :: nss, fun m hm => (List.mem_cons.mp hm).elim (fun e => by rw [e]; exact hne) (hn m), rfl⟩
theorem eqL_ints : ∀ a b : List Int, eqL (a.map D.int) (b.map D.int) = decide (a = b)
  | [], [] => rfl
  | [], _ :: _ => rfl
  | _ :: _, [] => rfl
  | x :: a, y :: b => by
    simp only [List.map_cons, eqL, eqD, eqL_ints a b, List.cons.injEq]
    by_cases h : x = y <;> by_cases h2 : a = b <;> simp [h, h2]
theorem eq_dTI (a b : List Int) : eqD (dTI a) (dTI b) = decide (a = b) := by
  unfold dTI
  simp only [eqD]
  exact eqL_ints a b
theorem ltL_ints : ∀ a b : List Int, ltL (a.map D.int) (b.map D.int) = decide (a < b)
  | [], [] => by simp [ltL]
  | [], _ :: _ => by simp [ltL]
  | _ :: _, [] => by simp [ltL]
  | x :: a, y :: b => by
    simp only [List.map_cons, ltL, eqD, ltD, ltL_ints a b]
    by_cases h : x = y
    · subst h
      simp [List.cons_lt_cons_iff]
    · simp [List.cons_lt_cons_iff, h]
theorem lt_dTI (a b : List Int) : ltD (dTI a) (dTI b) = decide (a < b) := by
  unfold dTI
  simp only [ltD]
  exact ltL_ints a b
theorem dTI_inj {a b : List Int} (h : dTI a = dTI b) : a = b := by
  have := eq_dTI a b
  rw [h] at this
  have e : eqD (dTI b) (dTI b) = true := by rw [eq_dTI]; simp
  rw [e] at this
  exact of_decide_eq_true this.symm
theorem alkL_ints : ∀ a b : List Int, alkL (a.map D.int) (b.map D.int) = true
  | [], _ => by simp [alkL]
  | _ :: _, [] => by simp [alkL]
  | x :: a, y :: b => by simp [alkL, alk, alkL_ints a b]
theorem alk_dTI (a b : List Int) : alk (dTI a) (dTI b) = true := by
  unfold dTI
  simp only [alk]
  exact alkL_ints a b
theorem flatL_ints : ∀ a : List Int, flatL (a.map D.int) = true
  | [] => rfl
  | x :: a => by simp [flatL, flat, flatL_ints a]
theorem flat_dTI (a : List Int) : flat (dTI a) = true := by
  unfold dTI
  simp only [flat]
  exact flatL_ints a
theorem depL_ints : ∀ a : List Int, depL (a.map D.int) = 0
  | [] => rfl
  | x :: a => by simp [depL, dep, depL_ints a]
theorem dep_dTI (a : List Int) : dep (dTI a) = 1 := by
  unfold dTI
  simp only [dep, depL_ints]
theorem dedup_TI : ∀ nss : List (List Int), ∃ ms : List (List Int), dedup (nss.map dTI) = ms.map dTI ∧ ms.Nodup ∧ ∀ m, m ∈ ms ↔ m ∈ nss
  | [] => ⟨[], rfl, .nil, fun m => Iff.rfl⟩
  | x :: r => by
    obtain ⟨ms, e, hn, hm⟩ := dedup_TI r
    refine ⟨x :: ms.filter (fun y => !decide (x = y)), ?_, ?_, fun m => ?_⟩
    · show dTI x :: (dedup (r.map dTI)).filter (fun y => !eqD (dTI x) y) = _
      rw [e, List.map_cons, List.filter_map]
      congr 2
      apply List.filter_congr
      intro y _
      show (!eqD (dTI x) (dTI y)) = _
      rw [eq_dTI]
    · refine List.nodup_cons.mpr ⟨fun h => ?_, hn.filter _⟩
      have := (List.mem_filter.mp h).2
      simp at this
    · rw [List.mem_cons, List.mem_cons, List.mem_filter, hm]
      by_cases h : m = x
      · simp [h]
      · have h' : ¬ x = m := fun e => h e.symm
        simp [h, h']
/-- sorted rows of numbers: of the same rows the same -/
theorem sort_TI {l1 l2 : List D} (h1 : ∀ a ∈ l1, ∃ ns, a = dTI ns) (h2 : ∀ a ∈ l2, ∃ ns, a = dTI ns) (p : l1.Perm l2) : sortD ltD l1 = sortD ltD l2 := by
  have has : ∀ a b : D, (∃ ns, a = dTI ns) → (∃ ns, b = dTI ns) → ltD a b = true → ltD b a = false := by
    rintro _ _ ⟨x, rfl⟩ ⟨y, rfl⟩ h
    rw [lt_dTI] at h ⊢
    have h := of_decide_eq_true h
    exact decide_eq_false fun h' => List.lt_irrefl _ (List.lt_trans h h')
  have htr : ∀ a b c : D, (∃ ns, a = dTI ns) → (∃ ns, b = dTI ns) → (∃ ns, c = dTI ns) → ltD b a = false → ltD c b = false → ltD c a = false := by
    rintro _ _ _ ⟨x, rfl⟩ ⟨y, rfl⟩ ⟨z, rfl⟩ h h'
    rw [lt_dTI] at h h' ⊢
    have h := of_decide_eq_false h
    have h' := of_decide_eq_false h'
    refine decide_eq_false fun k => ?_
    rcases Std.lt_trichotomy x y with c | c | c
    · exact h' (List.lt_trans k c)
    · exact h' (c ▸ k)
    · exact h c
  refine List.Perm.eq_of_pairwise (le := fun a b => ltD b a = false) (fun a b ha hb => ?_) (pw_sortD _ htr has l1 h1) (pw_sortD _ htr has l2 h2) (perm_sortD.trans (p.trans perm_sortD.symm))
  obtain ⟨x, rfl⟩ := h1 a (mem_sortD.mp ha)
  obtain ⟨y, rfl⟩ := h2 b (mem_sortD.mp hb)
  intro k1 k2
  rw [lt_dTI] at k1 k2
  have k1 := of_decide_eq_false k1
  have k2 := of_decide_eq_false k2
  rcases Std.lt_trichotomy x y with c | c | c
  · exact absurd c k2
  · rw [c]
  · exact absurd c k1
/-! ### what is equal to itself -/
mutual
theorem eq_refl_D : ∀ d : D, flat d = true → eqD d d = true
  | .non, _ => rfl
  | .bl b, _ => by simp [eqD]
  | .int i, _ => by simp [eqD]
  | .str x, _ => by simp [eqD]
  | .tup l, h => by
    simp only [flat] at h
    simp only [eqD]
    exact eq_refl_L l h
  | .lst l, h => by
    simp only [flat] at h
    simp only [eqD]
    exact eq_refl_L l h
  | .dct _, h => by simp [flat] at h
  | .w, h => by simp [flat] at h
  | .scr _, h => by simp [flat] at h
termination_by structural a => a
theorem eq_refl_L : ∀ l : List D, flatL l = true → eqL l l = true
  | [], _ => rfl
  | x :: xs, h => by
    simp only [flatL, Bool.and_eq_true] at h
    simp only [eqL, eq_refl_D x h.1, eq_refl_L xs h.2, Bool.and_self]
termination_by structural a => a
end
theorem ne_self {d : D} (hf : flat d = true) (hd : dep d ≤ DEP) : oNe d d = .ret (.bl false) := by
  have h : dEq d d = .ret true := by
    unfold dEq ck
    rw [if_pos ⟨hf, hf, by rw [Nat.min_self]; exact hd⟩, eq_refl_D d hf]
  unfold oNe
  rw [h]
  rfl
theorem eq_self {d : D} (hf : flat d = true) (hd : dep d ≤ DEP) : oEq d d = .ret (.bl true) := by
  have h : dEq d d = .ret true := by
    unfold dEq ck
    rw [if_pos ⟨hf, hf, by rw [Nat.min_self]; exact hd⟩, eq_refl_D d hf]
  unfold oEq bl
  rw [h]
  rfl
theorem flatL_of {l : List D} (h : ∀ d ∈ l, flat d = true) : flatL l = true := by
  induction l with
  | nil => rfl
  | cons x r ih =>
    simp only [flatL, h x List.mem_cons_self, ih fun d hd => h d (List.mem_cons_of_mem _ hd), Bool.and_self]
theorem depL_of {l : List D} {n : Nat} (h : ∀ d ∈ l, dep d ≤ n) : depL l ≤ n := by
  induction l with
  | nil => exact Nat.zero_le _
  | cons x r ih =>
    simp only [depL]
    have h1 := h x List.mem_cons_self
    have h2 := ih fun d hd => h d (List.mem_cons_of_mem _ hd)
    omega
end PV
/-! how plain data stand in the heap -/
namespace PV
open PySem PySem.Spec PyProof.Rows L2
/-! ### keys -/
mutual
def toKey : D → NestedKey
  | .int i => .num i
  | .str x => .text x
  | .tup a => .tup (toKeys a)
  | _ => .none
termination_by structural a => a
def toKeys : List D → List NestedKey
  | [] => []
  | x :: xs => toKey x :: toKeys xs
termination_by structural a => a
end
/-! ### as the library's data -/
mutual
def toPy : D → PyData
  | .non => .none
  | .bl b => .bool b
  | .int i => .int i
  | .str x => .str x
  | .tup a => .tuple (toPys a)
  | .lst a => .list (toPys a)
  | _ => .none
termination_by structural a => a
def toPys : List D → List PyData
  | [] => []
  | x :: xs => toPy x :: toPys xs
termination_by structural a => a
end
/-- the object at a, as it is -/
def objO (a : Addr) (o : Obj) : HO := .ext fun h => h.get? a = some o
/-- the shared thing at a: a dict of a list of numbers (at l) and a number -/
def wHas (P : Program) (w : World) (a l : Addr) (h : Heap) : Prop :=
  ∃ k : Int, ∃ t : Tok, 0 ≤ k ∧ (a == sysModules) = false ∧ h.DictOf (mixKind P w) a [(Sum.inr (Str.ofString "draws"), .ref l), (Sum.inr (Str.ofString "at"), .int k t)]
def wO (P : Program) (w : World) (a l : Addr) : HO := .ext (wHas P w a l)
def isDraw (i : Int) : Prop := 0 ≤ i ∧ i < 997
/-- a list that is read only: locked, or written in the text -/
def ScrAt (K : PySem.W.Frag) (H : Hp) (a : Addr) (xs : List V) : Prop := (∃ o, H a = some (.frz o (.lst xs))) ∨ SqL K (fun _ => none) a xs
theorem ScrAt.sq {K : PySem.W.Frag} {H : Hp} {a : Addr} {xs : List V} (h : ScrAt K H a xs) : SqL K H a xs := by
  rcases h with ⟨o, h⟩ | h
  · exact .inl (.inr ⟨o, h⟩)
  · exact Same.seq (fun _ _ z => by cases z) h
theorem ScrAt.of {K : PySem.W.Frag} {H : Hp} {a : Addr} {xs : List V} (ho : Only H) (h : SqL K H a xs) : ScrAt K H a xs := by
  rcases h with (h | h) | h
  · rcases ho a with q | ⟨o, ys, q⟩
    · rw [h] at q; cases q
    · rw [h] at q; cases q
  · exact .inl h
  · exact .inr (.inr h)
section
variable (P : Program) (w : World) (K : PySem.W.Frag) (H : Hp) (O : Addr → Prop)
mutual
/-- the value v stands for the plain datum; nothing changeable in it is of O -/
def Rep : D → V → Prop
  | .non, v => v = .non
  | .bl b, v => v = .bl b
  | .int i, v => v = .int i
  | .str x, v => v = .str x
  | .tup ds, v => ∃ a vs, v = .ref a ∧ SqT K H a vs ∧ RepL ds vs
  | .lst ds, v => ∃ a vs, v = .ref a ∧ ¬ O a ∧ H a = some (.lst vs) ∧ RepL ds vs
  | .dct kvs, v => ∃ a o es ep, v = .ref a ∧ ¬ O a ∧ H a = some (objO a o) ∧ (a == sysModules) = false ∧ o.ExactDict ∧ o.data = .dict es ep ∧ RepK kvs es.toList
  | .w, v => ∃ (a l : Addr) (ns : List Int), v = .ref a ∧ ¬ O a ∧ ¬ O l ∧ H a = some (wO P w a l) ∧ H l = some (.lst (ns.map V.int)) ∧ ∀ n ∈ ns, isDraw n
  | .scr ns, v => ∃ a, v = .ref a ∧ ScrAt K H a (ns.map V.int)
termination_by structural a => a
def RepL : List D → List V → Prop
  | [], vs => vs = []
  | d :: ds, vs => ∃ v r, vs = v :: r ∧ Rep d v ∧ RepL ds r
termination_by structural a => a
def RepK : List (D × D) → List DictEntry → Prop
  | [], es => es = []
  | p :: r, es => ∃ e es', es = e :: es' ∧ RepP p e ∧ RepK r es'
termination_by structural a => a
def RepP : D × D → DictEntry → Prop
  | (k, v), e => okK k = true ∧ e.hash = (toKey k).hash w ∧ (∃ kv, RelV kv e.key ∧ Rep k kv) ∧ ∃ vv, RelV vv e.val ∧ Rep v vv
termination_by structural a => a
end
end
section
variable {P : Program} {w : World} {K : PySem.W.Frag} {H H' : Hp} {O O' : Addr → Prop}
theorem seqT_same {a : Addr} {xs : List V} (e : Same H H') (h : SqT K H a xs) : SqT K H' a xs := by
  rcases h with (h | ⟨o, h⟩) | h
  · exact .inl (.inl (e _ _ h))
  · exact .inl (.inr ⟨o, e _ _ h⟩)
  · exact .inr h
/-- how a standing value is carried over: what is asked of the objects -/
structure Carry (K : PySem.W.Frag) (H H' : Hp) (O O' : Addr → Prop) : Prop where
  tup : ∀ a xs, SqT K H a xs → SqT K H' a xs
  lst : ∀ a xs, ¬ O a → H a = some (.lst xs) → ¬ O' a ∧ H' a = some (.lst xs)
  scr : ∀ a xs, ScrAt K H a xs → ScrAt K H' a xs
  obj : ∀ a o, ¬ O a → H a = some (objO a o) → ¬ O' a ∧ H' a = some (objO a o)
  ext : ∀ (P : Program) (w : World) (a l : Addr) (xs : List V), ¬ O a → ¬ O l → H a = some (wO P w a l) → H l = some (.lst xs) → ¬ O' a ∧ ¬ O' l ∧ H' a = some (wO P w a l) ∧ H' l = some (.lst xs)
mutual
theorem Rep.carry (c : Carry K H H' O O') : ∀ (d : D) (v : V), Rep P w K H O d v → Rep P w K H' O' d v
  | .non, _, h => h
  | .bl _, _, h => h
  | .int _, _, h => h
  | .str _, _, h => h
  | .tup ds, _, h => by
    obtain ⟨a, vs, e, s, r⟩ := h
    exact ⟨a, vs, e, c.tup _ _ s, RepL.carry c ds vs r⟩
  | .lst ds, _, h => by
    obtain ⟨a, vs, e, n, s, r⟩ := h
    obtain ⟨n', s'⟩ := c.lst _ _ n s
    exact ⟨a, vs, e, n', s', RepL.carry c ds vs r⟩
  | .dct ks, _, h => by
    obtain ⟨a, o, es, ep, e, n, s, m, x, dd, r⟩ := h
    obtain ⟨n', s'⟩ := c.obj _ _ n s
    exact ⟨a, o, es, ep, e, n', s', m, x, dd, RepK.carry c ks _ r⟩
  | .w, _, h => by
    obtain ⟨a, l, ns, e, n, n2, s, s2, r⟩ := h
    obtain ⟨m, m2, t, t2⟩ := c.ext P w a l _ n n2 s s2
    exact ⟨a, l, ns, e, m, m2, t, t2, r⟩
  | .scr ns, _, h => by
    obtain ⟨a, e, s⟩ := h
    exact ⟨a, e, c.scr _ _ s⟩
termination_by structural a => a
theorem RepL.carry (c : Carry K H H' O O') : ∀ (d : List D) (v : List V), RepL P w K H O d v → RepL P w K H' O' d v
  | [], _, h => h
  | d :: ds, _, h => by
    obtain ⟨v, r, e, h1, h2⟩ := h
    exact ⟨v, r, e, Rep.carry c d v h1, RepL.carry c ds r h2⟩
termination_by structural a => a
theorem RepK.carry (c : Carry K H H' O O') : ∀ (d : List (D × D)) (v : List DictEntry), RepK P w K H O d v → RepK P w K H' O' d v
  | [], _, h => h
  | d :: ds, _, h => by
    obtain ⟨v, r, e, h1, h2⟩ := h
    exact ⟨v, r, e, RepP.carry c d v h1, RepK.carry c ds r h2⟩
termination_by structural a => a
theorem RepP.carry (c : Carry K H H' O O') : ∀ (d : D × D) (v : DictEntry), RepP P w K H O d v → RepP P w K H' O' d v
  | (k, x), _, h => by
    obtain ⟨h0, h1, ⟨kv, r1, h2⟩, ⟨vv, r2, h3⟩⟩ := h
    exact ⟨h0, h1, ⟨kv, r1, Rep.carry c k kv h2⟩, ⟨vv, r2, Rep.carry c x vv h3⟩⟩
termination_by structural a => a
end
theorem Carry.same (e : Same H H') (hO : ∀ a, O' a → O a) : Carry K H H' O O' where
  tup := fun _ _ h => seqT_same e h
  lst := fun _ _ n h => ⟨fun z => n (hO _ z), e _ _ h⟩
  scr := fun _ _ h => h.elim (fun ⟨o, h⟩ => .inl ⟨o, e _ _ h⟩) .inr
  obj := fun _ _ n h => ⟨fun z => n (hO _ z), e _ _ h⟩
  ext := fun _ _ _ _ _ n n2 h h2 => ⟨fun z => n (hO _ z), fun z => n2 (hO _ z), e _ _ h, e _ _ h2⟩
theorem Rep.same {d : D} {v : V} (h : Rep P w K H O d v) (e : Same H H') : Rep P w K H' O d v := Rep.carry (.same e fun _ z => z) d v h
theorem RepL.same {d : List D} {v : List V} (h : RepL P w K H O d v) (e : Same H H') : RepL P w K H' O d v := RepL.carry (.same e fun _ z => z) d v h
theorem RepK.same {d : List (D × D)} {v : List DictEntry} (h : RepK P w K H O d v) (e : Same H H') : RepK P w K H' O d v := RepK.carry (.same e fun _ z => z) d v h
theorem Rep.anti {d : D} {v : V} (h : Rep P w K H O d v) (hO : ∀ a, O' a → O a) : Rep P w K H O' d v := Rep.carry (.same (Same.refl H) hO) d v h
theorem RepL.anti {d : List D} {v : List V} (h : RepL P w K H O d v) (hO : ∀ a, O' a → O a) : RepL P w K H O' d v := RepL.carry (.same (Same.refl H) hO) d v h
theorem RepK.anti {d : List (D × D)} {v : List DictEntry} (h : RepK P w K H O d v) (hO : ∀ a, O' a → O a) : RepK P w K H O' d v := RepK.carry (.same (Same.refl H) hO) d v h
theorem rd_some {a : Addr} {u : HO} (h : Rd H a u) (q : H a = none) : False := by
  rcases h with h | ⟨o, h⟩ <;> (rw [h] at q; cases q)
theorem some_no {a : Addr} {u : HO} (h : H a = some u) (q : H a = none) : False := by rw [h] at q; cases q
theorem ne_O {a p : Addr} (n : ¬ O a) (hO : O p) : a ≠ p := by
  intro e
  subst e
  exact n hO
theorem rd_upd {a p : Addr} {u o : HO} (ne : a ≠ p) (h : Rd H a u) : Rd (upd H p o) a u := by
  rcases h with h | ⟨v, h⟩
  · exact .inl (by rw [upd_ne ne]; exact h)
  · exact .inr ⟨v, by rw [upd_ne ne]; exact h⟩
/-- more may be kept out: what is not tracked -/
theorem Carry.more (hn : ∀ a, O' a → O a ∨ H a = none) : Carry K H H O O' where
  tup := fun _ _ h => h
  lst := fun a xs n h => ⟨fun z => (hn a z).elim n (some_no h), h⟩
  scr := fun _ _ h => h
  obj := fun a o n h => ⟨fun z => (hn a z).elim n (some_no h), h⟩
  ext := fun P w a l xs n n2 h h2 => ⟨fun z => (hn a z).elim n (some_no h), fun z => (hn l z).elim n2 (some_no h2), h, h2⟩
/-- what is changed -/
def chg : HO → Bool
  | .lst _ => true
  | .ext _ => true
  | _ => false
/-- an object of O is written -/
theorem Carry.write {p : Addr} {o u : HO} (hO : O p) (hp : H p = some u) (hc : chg u = true) (hS : ∀ a, O' a → O a) : Carry K H (upd H p o) O O' where
  tup := fun a xs h => by
    rcases h with h | h
    · refine .inl (rd_upd (fun e => ?_) h)
      subst e
      rcases h with h | ⟨_, h⟩
      · rw [hp] at h; cases h; cases hc
      · rw [hp] at h; cases h; cases hc
    · exact .inr h
  lst := fun a xs n h => ⟨fun z => n (hS _ z), (upd_ne (ne_O n hO)).trans h⟩
  scr := fun a xs h => h.elim (fun ⟨v, h⟩ => .inl ⟨v, (upd_ne (fun e => by
    subst e
    rw [hp] at h; cases h; cases hc)).trans h⟩) .inr
  obj := fun a o n h => ⟨fun z => n (hS _ z), (upd_ne (ne_O n hO)).trans h⟩
  ext := fun P w a l xs n n2 h h2 => ⟨fun z => n (hS _ z), fun z => n2 (hS _ z), (upd_ne (ne_O n hO)).trans h, (upd_ne (ne_O n2 hO)).trans h2⟩
theorem RepL.length : ∀ {d : List D} {v : List V}, RepL P w K H O d v → v.length = d.length
  | [], _, h => by cases h; rfl
  | d :: ds, _, h => by
    obtain ⟨v, r, rfl, _, h2⟩ := h
    rw [List.length_cons, List.length_cons, RepL.length h2]
theorem RepL.get : ∀ {d : List D} {v : List V} {i : Nat} {x : D}, RepL P w K H O d v → d[i]? = some x → ∃ y, v[i]? = some y ∧ Rep P w K H O x y
  | [], _, _, _, _, e => by simp at e
  | d :: ds, _, 0, x, h, e => by
    obtain ⟨v, r, rfl, h1, h2⟩ := h
    simp at e; subst e
    exact ⟨v, rfl, h1⟩
  | d :: ds, _, i + 1, x, h, e => by
    obtain ⟨v, r, rfl, h1, h2⟩ := h
    obtain ⟨y, e1, e2⟩ := RepL.get (i := i) (x := x) h2 (by simpa using e)
    exact ⟨y, by simpa using e1, e2⟩
theorem RepL.append : ∀ {d d' : List D} {v v' : List V}, RepL P w K H O d v → RepL P w K H O d' v' → RepL P w K H O (d ++ d') (v ++ v')
  | [], _, _, _, h, h' => by cases h; exact h'
  | d :: ds, _, _, _, h, h' => by
    obtain ⟨v, r, rfl, h1, h2⟩ := h
    exact ⟨v, _, rfl, h1, RepL.append h2 h'⟩
theorem RepL.one {d : D} {v : V} (h : Rep P w K H O d v) : RepL P w K H O [d] [v] := ⟨v, [], rfl, h, rfl⟩
theorem RepL.set {x : D} {y : V} (hx : Rep P w K H O x y) : ∀ {d : List D} {v : List V} (i : Nat), RepL P w K H O d v → RepL P w K H O (d.set i x) (v.set i y)
  | [], _, _, h => by cases h; exact rfl
  | d :: ds, _, 0, h => by
    obtain ⟨v, r, rfl, h1, h2⟩ := h
    exact ⟨y, r, rfl, hx, h2⟩
  | d :: ds, _, i + 1, h => by
    obtain ⟨v, r, rfl, h1, h2⟩ := h
    exact ⟨v, _, rfl, h1, RepL.set hx i h2⟩
theorem RepL.take : ∀ {d : List D} {v : List V} (n : Nat), RepL P w K H O d v → RepL P w K H O (d.take n) (v.take n)
  | _, _, 0, _ => by rw [List.take_zero, List.take_zero]; exact rfl
  | [], _, n + 1, h => by cases h; exact rfl
  | d :: ds, _, n + 1, h => by
    obtain ⟨v, r, rfl, h1, h2⟩ := h
    exact ⟨v, _, rfl, h1, RepL.take n h2⟩
theorem RepL.drop : ∀ {d : List D} {v : List V} (n : Nat), RepL P w K H O d v → RepL P w K H O (d.drop n) (v.drop n)
  | _, _, 0, h => h
  | [], _, n + 1, h => by cases h; exact rfl
  | d :: ds, _, n + 1, h => by
    obtain ⟨v, r, rfl, h1, h2⟩ := h
    exact RepL.drop n h2
theorem RepL.reverse : ∀ {d : List D} {v : List V}, RepL P w K H O d v → RepL P w K H O d.reverse v.reverse
  | [], _, h => by cases h; exact rfl
  | d :: ds, _, h => by
    obtain ⟨v, r, rfl, h1, h2⟩ := h
    rw [List.reverse_cons, List.reverse_cons]
    exact RepL.append (RepL.reverse h2) (.one h1)
theorem RepL.of_get : ∀ {d : List D} {v : List V}, v.length = d.length → (∀ (i : Nat) (x : D) (y : V), d[i]? = some x → v[i]? = some y → Rep P w K H O x y) → RepL P w K H O d v
  | [], [], _, _ => rfl
  | [], _ :: _, e, _ => by simp at e
  | _ :: _, [], e, _ => by simp at e
  | d :: ds, v :: vs, e, h => ⟨v, vs, rfl, h 0 d v rfl rfl, RepL.of_get (by simpa using e) fun i x y h1 h2 => h (i + 1) x y (by simpa using h1) (by simpa using h2)⟩
theorem RepL.ints (ns : List Int) : RepL P w K H O (ns.map D.int) (ns.map V.int) := by
  induction ns with
  | nil => exact rfl
  | cons n r ih => exact ⟨.int n, _, rfl, rfl, ih⟩
/-- a list or a dict that may be of O itself -/
def RepB (P : Program) (w : World) (K : PySem.W.Frag) (H : Hp) (O : Addr → Prop) : D → V → Prop
  | .lst ds, v => ∃ a vs, v = .ref a ∧ H a = some (.lst vs) ∧ RepL P w K H O ds vs
  | .dct kvs, v => ∃ a o es ep, v = .ref a ∧ H a = some (objO a o) ∧ (a == sysModules) = false ∧ o.ExactDict ∧ o.data = .dict es ep ∧ RepK P w K H O kvs es.toList
  | d, v => Rep P w K H O d v
theorem Rep.b {d : D} {v : V} (h : Rep P w K H O d v) : RepB P w K H O d v := by
  cases d with
  | lst l => obtain ⟨a, vs, e, _, s, r⟩ := h; exact ⟨a, vs, e, s, r⟩
  | dct l => obtain ⟨a, o, es, ep, e, _, r⟩ := h; exact ⟨a, o, es, ep, e, r⟩
  | _ => exact h
theorem RepB.same {d : D} {v : V} (h : RepB P w K H O d v) (e : Same H H') : RepB P w K H' O d v := by
  cases d with
  | lst l => obtain ⟨a, vs, e1, s, r⟩ := h; exact ⟨a, vs, e1, e _ _ s, r.same e⟩
  | dct l => obtain ⟨a, o, es, ep, e1, s, m, x, dd, r⟩ := h; exact ⟨a, o, es, ep, e1, e _ _ s, m, x, dd, r.same e⟩
  | _ => exact Rep.same h e
theorem RepB.anti {d : D} {v : V} (h : RepB P w K H O d v) (hO : ∀ a, O' a → O a) : RepB P w K H O' d v := by
  cases d with
  | lst l => obtain ⟨a, vs, e1, s, r⟩ := h; exact ⟨a, vs, e1, s, r.anti hO⟩
  | dct l => obtain ⟨a, o, es, ep, e1, s, m, x, dd, r⟩ := h; exact ⟨a, o, es, ep, e1, s, m, x, dd, r.anti hO⟩
  | _ => exact Rep.anti h hO
end
end PV
/-! plain data as the library's data and keys -/
namespace PV
open PySem PySem.Spec PyProof.Rows L2
mutual
theorem plain_toPy : ∀ d : D, flat d = true → (toPy d).plain = true
  | .non, _ => rfl
  | .bl _, _ => rfl
  | .int _, _ => rfl
  | .str _, _ => rfl
  | .tup l, h => by
    simp only [flat] at h
    simp only [toPy, PyData.plain]
    exact plain_toPys l h
  | .lst l, h => by
    simp only [flat] at h
    simp only [toPy, PyData.plain]
    exact plain_toPys l h
  | .dct _, h => by simp [flat] at h
  | .w, h => by simp [flat] at h
  | .scr _, h => by simp [flat] at h
termination_by structural a => a
theorem plain_toPys : ∀ l : List D, flatL l = true → PyData.plainAll (toPys l) = true
  | [], _ => rfl
  | x :: xs, h => by
    simp only [flatL, Bool.and_eq_true] at h
    simp only [toPys, PyData.plainAll, plain_toPy x h.1, plain_toPys xs h.2, Bool.and_self]
termination_by structural a => a
end
mutual
theorem depth_toPy : ∀ d : D, flat d = true → (toPy d).depth = dep d
  | .non, _ => rfl
  | .bl _, _ => rfl
  | .int _, _ => rfl
  | .str _, _ => rfl
  | .tup l, h => by
    simp only [flat] at h
    simp only [toPy, PyData.depth, dep, depth_toPys l h]
  | .lst l, h => by
    simp only [flat] at h
    simp only [toPy, PyData.depth, dep, depth_toPys l h]
  | .dct _, h => by simp [flat] at h
  | .w, h => by simp [flat] at h
  | .scr _, h => by simp [flat] at h
termination_by structural a => a
theorem depth_toPys : ∀ l : List D, flatL l = true → PyData.depthAll (toPys l) = depL l
  | [], _ => rfl
  | x :: xs, h => by
    simp only [flatL, Bool.and_eq_true] at h
    simp only [toPys, PyData.depthAll, depL, depth_toPy x h.1, depth_toPys xs h.2]
termination_by structural a => a
end
mutual
theorem eqv_toPy : ∀ (a b : D), flat a = true → flat b = true → PyData.eqv (toPy a) (toPy b) = eqD a b
  | .non, b, _, hb => by cases b <;> first | (simp [flat] at hb; done) | simp [toPy, PyData.eqv, eqD]
  | .bl x, b, _, hb => by cases b <;> first | (simp [flat] at hb; done) | simp [toPy, PyData.eqv, eqD]
  | .int x, b, _, hb => by cases b <;> first | (simp [flat] at hb; done) | simp [toPy, PyData.eqv, eqD]
  | .str x, b, _, hb => by
    cases b with
    | str y =>
      simp only [toPy, PyData.eqv, eqD]
      exact (Bool.beq_eq_decide_eq x y)
    | dct _ => simp [flat] at hb
    | w => simp [flat] at hb
    | scr _ => simp [flat] at hb
    | _ => simp [toPy, PyData.eqv, eqD]
  | .tup x, b, ha, hb => by
    cases b with
    | tup y =>
      simp only [flat] at ha hb
      simp only [toPy, PyData.eqv, eqD]
      exact eqv_toPys x y ha hb
    | dct _ => simp [flat] at hb
    | w => simp [flat] at hb
    | scr _ => simp [flat] at hb
    | _ => simp [toPy, PyData.eqv, eqD]
  | .lst x, b, ha, hb => by
    cases b with
    | lst y =>
      simp only [flat] at ha hb
      simp only [toPy, PyData.eqv, eqD]
      exact eqv_toPys x y ha hb
    | dct _ => simp [flat] at hb
    | w => simp [flat] at hb
    | scr _ => simp [flat] at hb
    | _ => simp [toPy, PyData.eqv, eqD]
  | .dct _, _, ha, _ => by simp [flat] at ha
  | .w, _, ha, _ => by simp [flat] at ha
  | .scr _, _, ha, _ => by simp [flat] at ha
termination_by structural a => a
theorem eqv_toPys : ∀ (a b : List D), flatL a = true → flatL b = true → PyData.eqvAll (toPys a) (toPys b) = eqL a b
  | [], b, _, _ => by cases b <;> simp [toPys, PyData.eqvAll, eqL]
  | x :: xs, b, ha, hb => by
    cases b with
    | nil => simp [toPys, PyData.eqvAll, eqL]
    | cons y ys =>
      simp only [flatL, Bool.and_eq_true] at ha hb
      simp only [toPys, PyData.eqvAll, eqL, eqv_toPy x y ha.1 hb.1, eqv_toPys xs ys ha.2 hb.2]
termination_by structural a => a
end
mutual
theorem flat_of_alk : ∀ (a : D), alk a a = true → flat a = true
  | .non, _ => rfl
  | .bl _, _ => rfl
  | .int _, _ => rfl
  | .str _, _ => rfl
  | .tup x, h => by
    simp only [alk] at h
    simp only [flat]
    exact flatL_of_alk x h
  | .lst x, h => by
    simp only [alk] at h
    simp only [flat]
    exact flatL_of_alk x h
  | .dct _, h => by simp [alk] at h
  | .w, h => by simp [alk] at h
  | .scr _, h => by simp [alk] at h
termination_by structural a => a
theorem flatL_of_alk : ∀ (a : List D), alkL a a = true → flatL a = true
  | [], _ => rfl
  | x :: xs, h => by
    simp only [alkL, Bool.and_eq_true] at h
    simp only [flatL, flat_of_alk x h.1, flatL_of_alk xs h.2, Bool.and_self]
termination_by structural a => a
end
mutual
theorem alike_toPy : ∀ (a b : D), alk a b = true → PySem.W.alike (toPy a) (toPy b) = true
  | .non, b, h => by cases b <;> first | (simp [alk] at h; done) | simp [toPy, PySem.W.alike]
  | .bl x, b, h => by cases b <;> first | (simp [alk] at h; done) | simp [toPy, PySem.W.alike]
  | .int x, b, h => by cases b <;> first | (simp [alk] at h; done) | simp [toPy, PySem.W.alike]
  | .str x, b, h => by cases b <;> first | (simp [alk] at h; done) | simp [toPy, PySem.W.alike]
  | .tup x, b, h => by
    cases b with
    | tup y =>
      simp only [alk] at h
      simp only [toPy, PySem.W.alike]
      exact alike_toPys x y h
    | _ => simp [alk] at h
  | .lst x, b, h => by
    cases b with
    | lst y =>
      simp only [alk] at h
      simp only [toPy, PySem.W.alike]
      exact alike_toPys x y h
    | _ => simp [alk] at h
  | .dct _, _, h => by simp [alk] at h
  | .w, _, h => by simp [alk] at h
  | .scr _, _, h => by simp [alk] at h
termination_by structural a => a
theorem alike_toPys : ∀ (a b : List D), alkL a b = true → PySem.W.alikeAll (toPys a) (toPys b) = true
  | [], b, _ => by simp [toPys, PySem.W.alikeAll]
  | x :: xs, b, h => by
    cases b with
    | nil => simp [toPys, PySem.W.alikeAll]
    | cons y ys =>
      simp only [alkL, Bool.and_eq_true] at h
      simp only [toPys, PySem.W.alikeAll, alike_toPy x y h.1, alike_toPys xs ys h.2, Bool.and_self]
termination_by structural a => a
end
mutual
theorem eqv_alk : ∀ (a b : D), alk a b = true → PyData.eqv (toPy a) (toPy b) = eqD a b
  | .non, b, h => by cases b <;> first | (simp [alk] at h; done) | simp [toPy, PyData.eqv, eqD]
  | .bl x, b, h => by cases b <;> first | (simp [alk] at h; done) | simp [toPy, PyData.eqv, eqD]
  | .int x, b, h => by cases b <;> first | (simp [alk] at h; done) | simp [toPy, PyData.eqv, eqD]
  | .str x, b, h => by
    cases b with
    | str y =>
      simp only [toPy, PyData.eqv, eqD]
      exact (Bool.beq_eq_decide_eq x y)
    | _ => simp [alk] at h
  | .tup x, b, h => by
    cases b with
    | tup y =>
      simp only [alk] at h
      simp only [toPy, PyData.eqv, eqD]
      exact eqv_alkL x y h
    | _ => simp [alk] at h
  | .lst x, b, h => by
    cases b with
    | lst y =>
      simp only [alk] at h
      simp only [toPy, PyData.eqv, eqD]
      exact eqv_alkL x y h
    | _ => simp [alk] at h
  | .dct _, _, h => by simp [alk] at h
  | .w, _, h => by simp [alk] at h
  | .scr _, _, h => by simp [alk] at h
termination_by structural a => a
theorem eqv_alkL : ∀ (a b : List D), alkL a b = true → PyData.eqvAll (toPys a) (toPys b) = eqL a b
  | [], b, _ => by cases b <;> simp [toPys, PyData.eqvAll, eqL]
  | x :: xs, b, h => by
    cases b with
    | nil => simp [toPys, PyData.eqvAll, eqL]
    | cons y ys =>
      simp only [alkL, Bool.and_eq_true] at h
      simp only [toPys, PyData.eqvAll, eqL, eqv_alk x y h.1, eqv_alkL xs ys h.2]
termination_by structural a => a
end
mutual
theorem lt_toPy : ∀ (a b : D), alk a b = true → PySem.W.dataLt (toPy a) (toPy b) = ltD a b
  | .non, b, h => by
    cases b with
    | non => simp only [toPy, PySem.W.dataLt, PySem.W.keyToks, ltD]; exact PyProof.Rows.lex_irrefl (O := itemOrd) []
    | _ => simp [alk] at h
  | .bl x, b, h => by
    cases b with
    | bl y => simp only [toPy, ltD, PySem.W.dataLt_bool]; cases x <;> cases y <;> rfl
    | _ => simp [alk] at h
  | .int x, b, h => by
    cases b with
    | int y => simp only [toPy, ltD, PySem.W.dataLt_int]
    | _ => simp [alk] at h
  | .str x, b, h => by
    cases b with
    | str y => simp only [toPy, ltD, PySem.W.dataLt_str]
    | _ => simp [alk] at h
  | .tup x, b, h => by
    cases b with
    | tup y =>
      simp only [alk] at h
      simp only [toPy, ltD, PySem.W.dataLt_tuple]
      exact lt_toPys x y h
    | _ => simp [alk] at h
  | .lst x, b, h => by
    cases b with
    | lst y =>
      simp only [alk] at h
      simp only [toPy, ltD, PySem.W.dataLt_list]
      exact lt_toPys x y h
    | _ => simp [alk] at h
  | .dct _, _, h => by simp [alk] at h
  | .w, _, h => by simp [alk] at h
  | .scr _, _, h => by simp [alk] at h
termination_by structural a => a
theorem lt_toPys : ∀ (a b : List D), alkL a b = true → PyProof.Rows.lexLt itemOrd (PySem.W.keyToksAll (toPys a)) (PySem.W.keyToksAll (toPys b)) = ltL a b
  | [], b, _ => by
    cases b with
    | nil => simp only [toPys, ltL]; exact PyProof.Rows.lex_irrefl (O := itemOrd) _
    | cons y ys => simp only [toPys, ltL, PySem.W.keyToksAll, PyProof.Rows.lexLt]; simp [itemOrd, itemLt]
  | x :: xs, b, h => by
    cases b with
    | nil => simp only [toPys, ltL, PySem.W.keyToksAll, PyProof.Rows.lexLt]; simp [itemOrd, itemLt]
    | cons y ys =>
      simp only [alkL, Bool.and_eq_true] at h
      simp only [toPys, ltL]
      rw [PySem.W.dataLt_cons (alike_toPy x y h.1), eqv_alk x y h.1, lt_toPys xs ys h.2, lt_toPy x y h.1]
termination_by structural a => a
end
theorem toPys_map : ∀ l : List D, toPys l = l.map toPy
  | [] => rfl
  | x :: xs => by rw [toPys, List.map_cons, toPys_map xs]
/-! ### values that read so -/
section
variable {X : Cx} {pins : List (Addr × Obj)} {σ : L2.St} {H : Hp} {s : Shared} {O : Addr → Prop}
mutual
theorem Rep.reads (I : Inv X pins σ H s) : ∀ (d : D) (v : V) (u : Value), flat d = true → Rep X.prog X.w X.K H O d v → RelV v u → ∃ as, Reads s.heap u (toPy d) as
  | .non, v, u, _, h, r => by
    cases h
    cases r
    exact ⟨_, .none⟩
  | .bl b, v, u, _, h, r => by
    cases h
    cases r
    exact ⟨_, .bool b⟩
  | .int i, v, u, _, h, r => by
    cases h
    obtain ⟨t, rfl⟩ := r
    exact ⟨_, .int i t⟩
  | .str x, v, u, _, h, r => by
    cases h
    obtain ⟨t, rfl⟩ := r
    exact ⟨_, .str x t⟩
  | .tup ds, v, u, hf, h, r => by
    obtain ⟨a, vs, e, hs, hr⟩ := h
    subst e
    cases r
    simp only [flat] at hf
    obtain ⟨its, rv, ⟨o, e1, e2, n, e3⟩, _⟩ := I.tuple hs
    obtain ⟨as, q⟩ := RepL.reads I ds vs its hf hr rv
    exact ⟨_, by rw [toPy]; exact .tuple e1 e2 e3 (by simpa using q)⟩
  | .lst ds, v, u, hf, h, r => by
    obtain ⟨a, vs, e, _, hs, hr⟩ := h
    subst e
    cases r
    simp only [flat] at hf
    obtain ⟨its, rv, ⟨o, n, e1, e2, _, e3⟩, _⟩ := I.list (SqL.of hs)
    obtain ⟨as, q⟩ := RepL.reads I ds vs its hf hr rv
    exact ⟨_, by rw [toPy]; exact .list e1 e2 e3 (by simpa using q)⟩
  | .dct _, _, _, hf, _, _ => by simp [flat] at hf
  | .w, _, _, hf, _, _ => by simp [flat] at hf
  | .scr _, _, _, hf, _, _ => by simp [flat] at hf
termination_by structural a => a
theorem RepL.reads (I : Inv X pins σ H s) : ∀ (ds : List D) (vs : List V) (us : List Value), flatL ds = true → RepL X.prog X.w X.K H O ds vs → Vals vs us → ∃ as, ReadsAll s.heap us (toPys ds) as
  | [], vs, us, _, h, r => by
    cases h
    cases r
    exact ⟨_, .nil⟩
  | d :: ds, vs, us, hf, h, r => by
    obtain ⟨v, w, e, h1, h2⟩ := h
    subst e
    simp only [flatL, Bool.and_eq_true] at hf
    cases r with
    | cons q1 q2 =>
      obtain ⟨as, p1⟩ := Rep.reads I d v _ hf.1 h1 q1
      obtain ⟨bs, p2⟩ := RepL.reads I ds w _ hf.2 h2 q2
      exact ⟨_, by rw [toPys]; exact .cons p1 p2⟩
termination_by structural a => a
end
theorem RepB.reads (I : Inv X pins σ H s) {d : D} {v : V} {u : Value} (hf : flat d = true) (h : RepB X.prog X.w X.K H O d v) (r : RelV v u) : ∃ as, Reads s.heap u (toPy d) as := by
  cases d with
  | lst ds =>
    obtain ⟨a, vs, e, hs, hr⟩ := h
    subst e
    cases r
    simp only [flat] at hf
    obtain ⟨its, rv, ⟨o, n, e1, e2, _, e3⟩, _⟩ := I.list (SqL.of hs)
    obtain ⟨as, q⟩ := RepL.reads I ds vs its hf hr rv
    exact ⟨_, by rw [toPy]; exact .list e1 e2 e3 (by simpa using q)⟩
  | dct _ => simp [flat] at hf
  | _ => exact Rep.reads (O := O) I _ v u hf h r
mutual
theorem Rep.key (I : Inv X pins σ H s) : ∀ (d : D) (v : V) (u : Value), keyD d = true → Rep X.prog X.w X.K H O d v → RelV v u → NestedIs s.heap (toKey d) u
  | .non, v, u, _, h, r => by
    cases h
    cases r
    exact .none
  | .bl b, v, u, hf, h, r => by simp [keyD] at hf
  | .int i, v, u, _, h, r => by
    cases h
    obtain ⟨t, rfl⟩ := r
    exact .int i t
  | .str x, v, u, _, h, r => by
    cases h
    obtain ⟨t, rfl⟩ := r
    exact .text x t
  | .tup ds, v, u, hf, h, r => by
    obtain ⟨a, vs, e, hs, hr⟩ := h
    subst e
    cases r
    simp only [keyD] at hf
    obtain ⟨its, rv, ⟨o, e1, e2, n, e3⟩, _⟩ := I.tuple hs
    exact .tup e1 e2 e3 (by simpa using RepL.key I ds vs its hf hr rv)
  | .lst _, _, _, hf, _, _ => by simp [keyD] at hf
  | .dct _, _, _, hf, _, _ => by simp [keyD] at hf
  | .w, _, _, hf, _, _ => by simp [keyD] at hf
  | .scr _, _, _, hf, _, _ => by simp [keyD] at hf
termination_by structural a => a
theorem RepL.key (I : Inv X pins σ H s) : ∀ (ds : List D) (vs : List V) (us : List Value), keyL ds = true → RepL X.prog X.w X.K H O ds vs → Vals vs us → NestedAll s.heap (toKeys ds) us
  | [], vs, us, _, h, r => by
    cases h
    cases r
    exact .nil
  | d :: ds, vs, us, hf, h, r => by
    obtain ⟨v, w, e, h1, h2⟩ := h
    subst e
    simp only [keyL, Bool.and_eq_true] at hf
    cases r with
    | cons q1 q2 => exact .cons (Rep.key I d v _ hf.1 h1 q1) (RepL.key I ds w _ hf.2 h2 q2)
termination_by structural a => a
end
end
mutual
theorem key_depth : ∀ d : D, keyD d = true → (toKey d).depth = dep d
  | .non, _ => rfl
  | .bl _, h => by simp [keyD] at h
  | .int _, _ => rfl
  | .str _, _ => rfl
  | .tup l, h => by
    simp only [keyD] at h
    simp only [toKey, NestedKey.depth, dep, keys_depth l h]
  | .lst _, h => by simp [keyD] at h
  | .dct _, h => by simp [keyD] at h
  | .w, h => by simp [keyD] at h
  | .scr _, h => by simp [keyD] at h
termination_by structural a => a
theorem keys_depth : ∀ l : List D, keyL l = true → NestedKey.depthAll (toKeys l) = depL l
  | [], _ => rfl
  | x :: xs, h => by
    simp only [keyL, Bool.and_eq_true] at h
    simp only [toKeys, NestedKey.depthAll, depL, key_depth x h.1, keys_depth xs h.2]
termination_by structural a => a
end
mutual
theorem key_eq : ∀ a b : D, keyD a = true → keyD b = true → NestedKey.beq (toKey a) (toKey b) = eqD a b
  | .non, b, _, hb => by cases b <;> first | (simp [keyD] at hb; done) | simp [toKey, NestedKey.beq, eqD]
  | .bl _, b, ha, _ => by simp [keyD] at ha
  | .int x, b, _, hb => by
    cases b with
    | int y =>
      simp only [toKey, NestedKey.beq, eqD]
      exact (Bool.beq_eq_decide_eq x y).symm
    | bl _ => simp [keyD] at hb
    | lst _ => simp [keyD] at hb
    | dct _ => simp [keyD] at hb
    | w => simp [keyD] at hb
    | scr _ => simp [keyD] at hb
    | _ => simp [toKey, NestedKey.beq, eqD]
  | .str x, b, _, hb => by cases b <;> first | (simp [keyD] at hb; done) | simp [toKey, NestedKey.beq, eqD]
  | .tup x, b, ha, hb => by
    cases b with
    | tup y =>
      simp only [keyD] at ha hb
      simp only [toKey, NestedKey.beq, eqD]
      exact keys_eq x y ha hb
    | bl _ => simp [keyD] at hb
    | lst _ => simp [keyD] at hb
    | dct _ => simp [keyD] at hb
    | w => simp [keyD] at hb
    | scr _ => simp [keyD] at hb
    | _ => simp [toKey, NestedKey.beq, eqD]
  | .lst _, _, ha, _ => by simp [keyD] at ha
  | .dct _, _, ha, _ => by simp [keyD] at ha
  | .w, _, ha, _ => by simp [keyD] at ha
  | .scr _, _, ha, _ => by simp [keyD] at ha
termination_by structural a => a
theorem keys_eq : ∀ a b : List D, keyL a = true → keyL b = true → NestedKey.beqAll (toKeys a) (toKeys b) = eqL a b
  | [], b, _, _ => by cases b <;> simp [toKeys, NestedKey.beqAll, eqL]
  | x :: xs, b, ha, hb => by
    cases b with
    | nil => simp [toKeys, NestedKey.beqAll, eqL]
    | cons y ys =>
      simp only [keyL, Bool.and_eq_true] at ha hb
      simp only [toKeys, NestedKey.beqAll, eqL, key_eq x y ha.1 hb.1, keys_eq xs ys ha.2 hb.2]
termination_by structural a => a
end
end PV
/-! readings by the evaluator; operators -/
namespace PV
open PySem PySem.Spec PyProof.Rows L2
theorem post_ck {α : Type} {c : Prop} [Decidable c] {m : M α} {P : α → Prop} {E : Str → D → Prop} : (ck c m).post P E ↔ c ∧ m.post P E := by
  unfold ck
  by_cases h : c
  · rw [if_pos h]; exact ⟨fun q => ⟨h, q⟩, fun q => q.2⟩
  · rw [if_neg h]; exact ⟨fun q => False.elim q, fun q => (h q.1).elim⟩
/-- an evaluation that can be run has a run -/
def Dom (H : Hp) (O : Addr → Prop) : Prop := ∀ a, O a → ∃ u, H a = some u ∧ chg u = true
theorem Dom.same {H H' : Hp} {O : Addr → Prop} (h : Dom H O) (e : Same H H') : Dom H' O := fun a z =>
  let ⟨u, q, c⟩ := h a z
  ⟨u, e _ _ q, c⟩
theorem Dom.not {H : Hp} {O : Addr → Prop} {a : Addr} (h : Dom H O) (q : H a = none) : ¬ O a := fun z => by
  obtain ⟨u, e, _⟩ := h a z
  rw [q] at e
  cases e
theorem Dom.none {H : Hp} : Dom H (fun _ => False) := fun _ z => z.elim
section
variable (P : Program) (w : World) (K : PySem.W.Frag)
/-- the slots hold what the plain frame says -/
def RelX (H : Hp) (O : Addr → Prop) (σ : L2.St) (env : Env) : Prop :=
  ∀ (i : Nat) (own : Bool) (d : D), env[i]? = some (some (own, d)) → ∃ v, σ[i]? = some (some v) ∧ RepB P w K H O d v ∧ (own = false → Rep P w K H O d v)
def RepBL (H : Hp) (O : Addr → Prop) : List D → List V → Prop
  | [], vs => vs = []
  | d :: ds, vs => ∃ v r, vs = v :: r ∧ RepB P w K H O d v ∧ RepBL H O ds r
/-- an expression, a test, arguments, as the evaluator says -/
def tE (c : Ex) : TE := fun σ H Q => ∃ O env, Dom H O ∧ RelX P w K H O σ env ∧ (c env).post (fun d => ∀ v H', Same H H' → Rep P w K H' O d v → Q v H') noE
def tB (c : Ex) : TE := fun σ H Q => ∃ O env, Dom H O ∧ RelX P w K H O σ env ∧ (c env).post (fun d => ∀ v H', Same H H' → RepB P w K H' O d v → Q v H') noE
def tT (c : Ex) : TT := fun σ H Q => ∃ O env, Dom H O ∧ RelX P w K H O σ env ∧ (c env >>= truth).post (fun k => ∀ H', Same H H' → Q k H') noE
def tA (cs : List Ex) : TA := fun σ H Q => ∃ O env, Dom H O ∧ RelX P w K H O σ env ∧ (eAll cs env).post (fun ds => ∀ vs H', Same H H' → RepL P w K H' O ds vs → Q vs H') noE
def tAB (cs : List Ex) : TA := fun σ H Q => ∃ O env, Dom H O ∧ RelX P w K H O σ env ∧ (eAll cs env).post (fun ds => ∀ vs H', Same H H' → RepBL P w K H' O ds vs → Q vs H') noE
/-- what a value is wanted to be -/
def rOp (o : D → D → M D) : R2 := fun x y H Q => ∃ O dx dy, Dom H O ∧ RepB P w K H O dx x ∧ RepB P w K H O dy y ∧ (o dx dy).post (fun d => ∀ v H', Same H H' → Rep P w K H' O d v → Q v H') noE
def rUn (o : D → M D) : V → Hp → VK → Prop := fun x H Q => ∃ O dx, Dom H O ∧ RepB P w K H O dx x ∧ (o dx).post (fun d => ∀ v H', Same H H' → Rep P w K H' O d v → Q v H') noE
def rPr (p : List D → M D) : List V → Hp → VK → Prop := fun xs H Q => ∃ O ds, Dom H O ∧ RepBL P w K H O ds xs ∧ (p ds).post (fun d => ∀ v H', Same H H' → Rep P w K H' O d v → Q v H') noE
end
section
variable {P : Program} {w : World} {K : PySem.W.Frag} {H H' : Hp} {O : Addr → Prop} {σ : L2.St} {env : Env}
theorem RelX.same (h : RelX P w K H O σ env) (e : Same H H') : RelX P w K H' O σ env := fun i own d z =>
  let ⟨v, h1, h2, h3⟩ := h i own d z
  ⟨v, h1, h2.same e, fun q => (h3 q).same e⟩
theorem RepBL.same : ∀ {ds : List D} {vs : List V}, RepBL P w K H O ds vs → Same H H' → RepBL P w K H' O ds vs
  | [], _, h, _ => h
  | _ :: _, _, ⟨v, r, e, h1, h2⟩, q => ⟨v, r, e, h1.same q, h2.same q⟩
theorem RepL.bl : ∀ {ds : List D} {vs : List V}, RepL P w K H O ds vs → RepBL P w K H O ds vs
  | [], _, h => h
  | _ :: _, _, ⟨v, r, e, h1, h2⟩ => ⟨v, r, e, h1.b, h2.bl⟩
end
section
variable {X : Cx}
theorem _root_.L2.PE.imp {e : Expr} {t t' : TE} (h : PE X e t) (i : ∀ σ H Q, t' σ H Q → t σ H Q) : PE X e t' := ⟨fun pins s σ H Q I q => h.run pins s σ H Q I (i σ H Q q)⟩
theorem _root_.L2.PT.imp {e : Expr} {t t' : TT} (h : PT X e t) (i : ∀ σ H Q, t' σ H Q → t σ H Q) : PT X e t' := ⟨fun pins s σ H Q I q => h.run pins s σ H Q I (i σ H Q q)⟩
theorem _root_.L2.PW.imp {e : Expr} {t t' : TT} (h : PW X e t) (i : ∀ σ H Q, t' σ H Q → t σ H Q) : PW X e t' := ⟨fun wh pins s σ H Q I q => h.run wh pins s σ H Q I (i σ H Q q)⟩
theorem _root_.L2.PA.imp {e : List Expr} {t t' : TA} (h : PA X e t) (i : ∀ σ H Q, t' σ H Q → t σ H Q) : PA X e t' := ⟨fun pos pins s σ H Q I q => h.run pos pins s σ H Q I (i σ H Q q)⟩
/-- this expression is that evaluation -/
abbrev HE (X : Cx) (e : Expr) (c : Ex) : Prop := PE X e (tE X.prog X.w X.K c)
abbrev HB (X : Cx) (e : Expr) (c : Ex) : Prop := PE X e (tB X.prog X.w X.K c)
abbrev HT (X : Cx) (e : Expr) (c : Ex) : Prop := PT X e (tT X.prog X.w X.K c)
abbrev HA (X : Cx) (e : List Expr) (c : List Ex) : Prop := PA X e (tA X.prog X.w X.K c)
abbrev HAB (X : Cx) (e : List Expr) (c : List Ex) : Prop := PA X e (tAB X.prog X.w X.K c)
theorem _root_.L2.PE.hb {e : Expr} {c : Ex} (h : HE X e c) : HB X e c := h.imp fun σ H Q ⟨O, env, h1, h2, h3⟩ => ⟨O, env, h1, h2, post_mono h3 (fun d q v H' s r => q v H' s r.b) fun _ _ z => z⟩
theorem _root_.L2.PA.hb {e : List Expr} {c : List Ex} (h : HA X e c) : HAB X e c := h.imp fun σ H Q ⟨O, env, h1, h2, h3⟩ => ⟨O, env, h1, h2, post_mono h3 (fun d q v H' s r => q v H' s r.bl) fun _ _ z => z⟩
/-! ### names, constants -/
theorem e_var {i : Nat} {x : Str} {pos : Pos} (hN : X.N[i]? = some x) (hv : Vis X.env.scope x) (hd : (x == ("__debug__" : Str)) = false) (hcd : (x == ("__classdict__" : Str)) = false) : HE X (.Name x pos) (eVar i) :=
  (pe_var hN hv hd hcd).imp fun σ H Q ⟨O, env, h1, h2, h3⟩ => by
    unfold eVar at h3
    cases e : env[i]? with
    | none => rw [e] at h3; exact h3.elim
    | some z =>
      rw [e] at h3
      cases z with
      | none => exact h3.elim
      | some q =>
        obtain ⟨own, d⟩ := q
        cases own with
        | true => exact h3.elim
        | false =>
          obtain ⟨v, e1, _, r⟩ := h2 i false d e
          exact ⟨v, e1, h3 v H (Same.refl H) (r rfl)⟩
theorem e_varB {i : Nat} {x : Str} {pos : Pos} (hN : X.N[i]? = some x) (hv : Vis X.env.scope x) (hd : (x == ("__debug__" : Str)) = false) (hcd : (x == ("__classdict__" : Str)) = false) : HB X (.Name x pos) (eVarB i) :=
  (pe_var hN hv hd hcd).imp fun σ H Q ⟨O, env, h1, h2, h3⟩ => by
    unfold eVarB at h3
    cases e : env[i]? with
    | none => rw [e] at h3; exact h3.elim
    | some z =>
      rw [e] at h3
      cases z with
      | none => exact h3.elim
      | some q =>
        obtain ⟨own, d⟩ := q
        obtain ⟨v, e1, r, _⟩ := h2 i own d e
        exact ⟨v, e1, h3 v H (Same.refl H) r⟩
theorem e_lit {e : Expr} {v : V} {d : D} (h : PE X e (tC v)) (hd : ∀ H O, Rep X.prog X.w X.K H O d v) : HE X e (eLit d) :=
  h.imp fun σ H Q ⟨O, env, h1, h2, h3⟩ => h3 v H (Same.refl H) (hd H O)
theorem e_int {i : Int} {j pos} : HE X (.Constant (.int i) j pos) (eLit (.int i)) := e_lit pe_int fun _ _ => rfl
theorem e_bool {b : Bool} {j pos} : HE X (.Constant (.bool b) j pos) (eLit (.bl b)) := e_lit pe_bl fun _ _ => rfl
theorem e_none {j pos} : HE X (.Constant .none j pos) (eLit .non) := e_lit pe_non fun _ _ => rfl
theorem e_str {x : Str} {j pos} : HE X (.Constant (.str x) j pos) (eLit (.str x)) := e_lit pe_str fun _ _ => rfl
/-! ### operators on two values -/
theorem e_bin {op : Operator} {o : D → D → M D} {a b : Expr} {ca cb : Ex} {pos : Pos} (ho : OpR X (binaryOp op) (rOp X.prog X.w X.K o)) (ha : HB X a ca) (hb : HB X b cb) : HE X (.BinOp a op b pos) (eBin o ca cb) :=
  (pe_op ho ha hb).imp fun σ H Q ⟨O, env, h1, h2, h3⟩ => by
    unfold eBin at h3
    rw [post_bind] at h3
    refine ⟨O, env, h1, h2, post_mono h3 (fun dx h4 x H1 s1 r1 => ?_) fun _ _ z => z⟩
    rw [post_bind] at h4
    refine ⟨O, env, h1.same s1, h2.same s1, post_mono h4 (fun dy h5 y H2 s2 r2 => ?_) fun _ _ z => z⟩
    exact ⟨O, dx, dy, (h1.same s1).same s2, r1.same s2, r2, post_mono h5 (fun d q v H' s r => q v H' ((s1.trans s2).trans s) r) fun _ _ z => z⟩
theorem e_cmp {op : CmpOp} {o : D → D → M D} {a b : Expr} {ca cb : Ex} {pos : Pos} (ho : OpR X (compareOp op) (rOp X.prog X.w X.K o)) (ha : HB X a ca) (hb : HB X b cb) (hm : behindInMarks op b = false) : HE X (.Compare a [op] [b] pos) (eBin o ca cb) :=
  (pe_cmpR ho ha hb hm).imp fun σ H Q ⟨O, env, h1, h2, h3⟩ => by
    unfold eBin at h3
    rw [post_bind] at h3
    refine ⟨O, env, h1, h2, post_mono h3 (fun dx h4 x H1 s1 r1 => ?_) fun _ _ z => z⟩
    rw [post_bind] at h4
    refine ⟨O, env, h1.same s1, h2.same s1, post_mono h4 (fun dy h5 y H2 s2 r2 => ?_) fun _ _ z => z⟩
    exact ⟨O, dx, dy, (h1.same s1).same s2, r1.same s2, r2, post_mono h5 (fun d q v H' s r => q v H' ((s1.trans s2).trans s) r) fun _ _ z => z⟩
/-- the end of a test: a truth value stands for itself -/
theorem truth_end {d : D} {H1 : Hp} {O : Addr → Prop} {R : Bool → Prop} {v : V} (h : (truth d).post R noE) (r : Rep X.prog X.w X.K H1 O d v) : ∃ k, v = .bl k ∧ R k := by
  cases d with
  | bl b => exact ⟨b, r, h⟩
  | _ => exact h.elim
theorem t_cmp {op : CmpOp} {o : D → D → M D} {a b : Expr} {ca cb : Ex} {pos : Pos} (ho : OpR X (compareOp op) (rOp X.prog X.w X.K o)) (ha : HB X a ca) (hb : HB X b cb) (hm : behindInMarks op b = false) : HT X (.Compare a [op] [b] pos) (eBin o ca cb) :=
  (pt_cmpR ho ha hb hm).imp fun σ H Q ⟨O, env, h1, h2, h3⟩ => by
    unfold eBin at h3
    rw [bind_asc, post_bind] at h3
    refine ⟨O, env, h1, h2, post_mono h3 (fun dx h4 x H1 s1 r1 => ?_) fun _ _ z => z⟩
    rw [bind_asc, post_bind] at h4
    refine ⟨O, env, h1.same s1, h2.same s1, post_mono h4 (fun dy h5 y H2 s2 r2 => ?_) fun _ _ z => z⟩
    rw [post_bind] at h5
    refine ⟨O, dx, dy, (h1.same s1).same s2, r1.same s2, r2, post_mono h5 (fun d q v H' s r => ?_) fun _ _ z => z⟩
    obtain ⟨k, e, q⟩ := truth_end q r
    exact ⟨k, e, q H' ((s1.trans s2).trans s)⟩
theorem e_un {op : UnaryOp} {o : D → M D} {a : Expr} {ca : Ex} {pos : Pos} (ho : UnR X (unaryOp op) (rUn X.prog X.w X.K o)) (ha : HB X a ca) : HE X (.UnaryOp op a pos) (eUn o ca) :=
  (pe_un ho ha).imp fun σ H Q ⟨O, env, h1, h2, h3⟩ => by
    unfold eUn at h3
    rw [post_bind] at h3
    refine ⟨O, env, h1, h2, post_mono h3 (fun dx h4 x H1 s1 r1 => ?_) fun _ _ z => z⟩
    exact ⟨O, dx, h1.same s1, r1, post_mono h4 (fun d q v H' s r => q v H' (s1.trans s) r) fun _ _ z => z⟩
/-- an operator that calls with a constant: x is c -/
theorem e_isC {op : CmpOp} {o : D → M D} {a b : Expr} {ca : Ex} {pos : Pos} {c : V} (ho : OpR X (compareOp op) (fun x y H Q => y = c ∧ rUn X.prog X.w X.K o x H Q)) (ha : HB X a ca) (hb : PE X b (tC c)) (hm : behindInMarks op b = false) :
    HE X (.Compare a [op] [b] pos) (eUn o ca) :=
  (pe_cmpR ho ha hb hm).imp fun σ H Q ⟨O, env, h1, h2, h3⟩ => by
    unfold eUn at h3
    rw [post_bind] at h3
    refine ⟨O, env, h1, h2, post_mono h3 (fun dx h4 x H1 s1 r1 => ?_) fun _ _ z => z⟩
    exact ⟨rfl, O, dx, h1.same s1, r1, post_mono h4 (fun d q v H' s r => q v H' (s1.trans s) r) fun _ _ z => z⟩
theorem t_isC {op : CmpOp} {o : D → M D} {a b : Expr} {ca : Ex} {pos : Pos} {c : V} (ho : OpR X (compareOp op) (fun x y H Q => y = c ∧ rUn X.prog X.w X.K o x H Q)) (ha : HB X a ca) (hb : PE X b (tC c)) (hm : behindInMarks op b = false) :
    HT X (.Compare a [op] [b] pos) (eUn o ca) :=
  (pt_cmpR ho ha hb hm).imp fun σ H Q ⟨O, env, h1, h2, h3⟩ => by
    unfold eUn at h3
    rw [bind_asc, post_bind] at h3
    refine ⟨O, env, h1, h2, post_mono h3 (fun dx h4 x H1 s1 r1 => ?_) fun _ _ z => z⟩
    rw [post_bind] at h4
    refine ⟨rfl, O, dx, h1.same s1, r1, post_mono h4 (fun d q v H' s r => ?_) fun _ _ z => z⟩
    obtain ⟨k, e, q⟩ := truth_end q r
    exact ⟨k, e, q H' (s1.trans s)⟩
/-- an expression of another form, as a test -/
theorem t_val {e : Expr} {c : Ex} (h : HE X e c) (he : ∀ whole, isTrue e X.env whole = (do let v ← whole; standAt e.pos; holding [v] (truthy v))) : HT X e c :=
  (pt_val h he).imp fun σ H Q ⟨O, env, h1, h2, h3⟩ => by
    rw [post_bind] at h3
    refine ⟨O, env, h1, h2, post_mono h3 (fun d q v H' s r => ?_) fun _ _ z => z⟩
    obtain ⟨k, e, q⟩ := truth_end q r
    exact ⟨k, e, q H' s⟩
theorem t_not {a : Expr} {ca : Ex} {pos : Pos} (ha : HT X a ca) : HT X (.UnaryOp .Not a pos) (eUn dNot ca) :=
  (pt_not ha).imp fun σ H Q ⟨O, env, h1, h2, h3⟩ => by
    unfold eUn at h3
    rw [bind_asc, post_bind] at h3
    refine ⟨O, env, h1, h2, ?_⟩
    rw [post_bind]
    refine post_mono h3 (fun d q => ?_) fun _ _ z => z
    cases d with
    | bl b => exact q
    | _ => exact q.elim
theorem e_not {a : Expr} {ca : Ex} {pos : Pos} (ha : HE X a ca) : HE X (.UnaryOp .Not a pos) (eUn dNot ca) :=
  (pe_not ha).imp fun σ H Q ⟨O, env, h1, h2, h3⟩ => by
    unfold eUn at h3
    rw [post_bind] at h3
    refine ⟨O, env, h1, h2, post_mono h3 (fun d q v H' s r => ?_) fun _ _ z => z⟩
    cases d with
    | bl b =>
      have r' : v = V.bl b := r
      exact ⟨b, r', q (.bl (!b)) H' s rfl⟩
    | _ => exact q.elim
/-! ### and, or -/
theorem post_ite {α : Type} {k : Bool} {a b : M α} {R : α → Prop} {E : Str → D → Prop} : (if k = true then a else b).post R E ↔ if k = true then a.post R E else b.post R E := by
  cases k <;> exact Iff.rfl
theorem e_and {a b : Expr} {rest : List Expr} {ca cb : Ex} {pos : Pos} (ha : HE X a ca) (hb : HE X (.BoolOp .And (b :: rest) pos) cb) : HE X (.BoolOp .And (a :: b :: rest) pos) (eAnd ca cb) :=
  (pe_and ha hb).imp fun σ H Q ⟨O, env, h1, h2, h3⟩ => by
    unfold eAnd at h3
    rw [post_bind] at h3
    refine ⟨O, env, h1, h2, post_mono h3 (fun d q v H' s r => ?_) fun _ _ z => z⟩
    rw [post_bind] at q
    obtain ⟨k, e, q⟩ := truth_end q r
    refine ⟨k, e, ?_⟩
    cases k with
    | true => exact ⟨O, env, h1.same s, h2.same s, post_mono q (fun d q v H2 s2 r => q v H2 (s.trans s2) r) fun _ _ z => z⟩
    | false => exact q (.bl false) H' s rfl
theorem e_or {a b : Expr} {rest : List Expr} {ca cb : Ex} {pos : Pos} (ha : HE X a ca) (hb : HE X (.BoolOp .Or (b :: rest) pos) cb) : HE X (.BoolOp .Or (a :: b :: rest) pos) (eOr ca cb) :=
  (pe_or ha hb).imp fun σ H Q ⟨O, env, h1, h2, h3⟩ => by
    unfold eOr at h3
    rw [post_bind] at h3
    refine ⟨O, env, h1, h2, post_mono h3 (fun d q v H' s r => ?_) fun _ _ z => z⟩
    rw [post_bind] at q
    obtain ⟨k, e, q⟩ := truth_end q r
    refine ⟨k, e, ?_⟩
    cases k with
    | true => exact q (.bl true) H' s rfl
    | false => exact ⟨O, env, h1.same s, h2.same s, post_mono q (fun d q v H2 s2 r => q v H2 (s.trans s2) r) fun _ _ z => z⟩
abbrev HW (X : Cx) (e : Expr) (c : Ex) : Prop := PW X e (tT X.prog X.w X.K c)
theorem w_and {a b : Expr} {rest : List Expr} {ca cb : Ex} {pos : Pos} (ha : HT X a ca) (hb : HW X (.BoolOp .And (b :: rest) pos) cb) : HW X (.BoolOp .And (a :: b :: rest) pos) (eAnd ca cb) :=
  (pw_and ha hb).imp fun σ H Q ⟨O, env, h1, h2, h3⟩ => by
    unfold eAnd at h3
    rw [bind_asc, post_bind] at h3
    refine ⟨O, env, h1, h2, ?_⟩
    rw [post_bind]
    refine post_mono h3 (fun d q => ?_) fun _ _ z => z
    rw [bind_asc, post_bind] at q
    refine post_mono q (fun k q H' s => ?_) fun _ _ z => z
    cases k with
    | true => exact ⟨O, env, h1.same s, h2.same s, post_mono q (fun k q H2 s2 => q H2 (s.trans s2)) fun _ _ z => z⟩
    | false => exact q H' s
theorem w_or {a b : Expr} {rest : List Expr} {ca cb : Ex} {pos : Pos} (ha : HT X a ca) (hb : HW X (.BoolOp .Or (b :: rest) pos) cb) : HW X (.BoolOp .Or (a :: b :: rest) pos) (eOr ca cb) :=
  (pw_or ha hb).imp fun σ H Q ⟨O, env, h1, h2, h3⟩ => by
    unfold eOr at h3
    rw [bind_asc, post_bind] at h3
    refine ⟨O, env, h1, h2, ?_⟩
    rw [post_bind]
    refine post_mono h3 (fun d q => ?_) fun _ _ z => z
    rw [bind_asc, post_bind] at q
    refine post_mono q (fun k q H' s => ?_) fun _ _ z => z
    cases k with
    | true => exact q H' s
    | false => exact ⟨O, env, h1.same s, h2.same s, post_mono q (fun k q H2 s2 => q H2 (s.trans s2)) fun _ _ z => z⟩
theorem e_ite {c a b : Expr} {cc ca cb : Ex} {pos : Pos} (hc : HT X c cc) (ha : HE X a ca) (hb : HE X b cb) : HE X (.IfExp c a b pos) (eIte cc ca cb) :=
  (pe_ifExp hc ha hb).imp fun σ H Q ⟨O, env, h1, h2, h3⟩ => by
    unfold eIte at h3
    rw [← bind_asc, post_bind] at h3
    refine ⟨O, env, h1, h2, post_mono h3 (fun k q H' s => ?_) fun _ _ z => z⟩
    cases k with
    | true => exact ⟨O, env, h1.same s, h2.same s, post_mono q (fun d q v H2 s2 r => q v H2 (s.trans s2) r) fun _ _ z => z⟩
    | false => exact ⟨O, env, h1.same s, h2.same s, post_mono q (fun d q v H2 s2 r => q v H2 (s.trans s2) r) fun _ _ z => z⟩
/-- a o b p c -/
theorem e_chain {op op' : CmpOp} {o p : D → D → M D} {a b c : Expr} {ca cb cc : Ex} {pos : Pos} (ho : OpR X (compareOp op) (rOp X.prog X.w X.K o)) (ho' : OpR X (compareOp op') (rOp X.prog X.w X.K p)) (ha : HB X a ca) (hb : HB X b cb) (hc : HB X c cc)
    (hm : lastMarks [op, op'] [b, c] = false) : HE X (.Compare a [op, op'] [b, c] pos) (eChain o p ca cb cc) :=
  (pe_chain ho ho' ha hb hc hm).imp fun σ H Q ⟨O, env, h1, h2, h3⟩ => by
    unfold eChain at h3
    rw [post_bind] at h3
    refine ⟨O, env, h1, h2, post_mono h3 (fun dx h4 x H1 s1 r1 => ?_) fun _ _ z => z⟩
    rw [post_bind] at h4
    refine ⟨O, env, h1.same s1, h2.same s1, post_mono h4 (fun dy h5 y H2 s2 r2 => ?_) fun _ _ z => z⟩
    rw [post_bind] at h5
    have s12 := s1.trans s2
    refine ⟨O, dx, dy, h1.same s12, r1.same s2, r2, post_mono h5 (fun d q v H' s r => ?_) fun _ _ z => z⟩
    rw [post_bind] at q
    obtain ⟨k, e, q⟩ := truth_end q r
    refine ⟨k, e, ?_⟩
    have s13 := s12.trans s
    cases k with
    | true =>
      have q : (cc env >>= fun z => p dy z).post _ noE := q
      rw [post_bind] at q
      refine ⟨O, env, h1.same s13, h2.same s13, post_mono q (fun dz h6 z H4 s4 r4 => ?_) fun _ _ z => z⟩
      exact ⟨O, dy, dz, (h1.same s13).same s4, (r2.same s).same s4, r4, post_mono h6 (fun d q v H' s r => q v H' ((s13.trans s4).trans s) r) fun _ _ z => z⟩
    | false => exact q (.bl false) H' s13 rfl
theorem t_chain {op op' : CmpOp} {o p : D → D → M D} {a b c : Expr} {ca cb cc : Ex} {pos : Pos} (ho : OpR X (compareOp op) (rOp X.prog X.w X.K o)) (ho' : OpR X (compareOp op') (rOp X.prog X.w X.K p)) (ha : HB X a ca) (hb : HB X b cb) (hc : HB X c cc)
    (hm : lastMarks [op, op'] [b, c] = false) : HT X (.Compare a [op, op'] [b, c] pos) (eChain o p ca cb cc) :=
  (pt_chain ho ho' ha hb hc hm).imp fun σ H Q ⟨O, env, h1, h2, h3⟩ => by
    unfold eChain at h3
    rw [bind_asc, post_bind] at h3
    refine ⟨O, env, h1, h2, post_mono h3 (fun dx h4 x H1 s1 r1 => ?_) fun _ _ z => z⟩
    rw [bind_asc, post_bind] at h4
    refine ⟨O, env, h1.same s1, h2.same s1, post_mono h4 (fun dy h5 y H2 s2 r2 => ?_) fun _ _ z => z⟩
    rw [bind_asc, post_bind] at h5
    have s12 := s1.trans s2
    refine ⟨O, dx, dy, h1.same s12, r1.same s2, r2, post_mono h5 (fun d q v H' s r => ?_) fun _ _ z => z⟩
    rw [bind_asc, post_bind] at q
    obtain ⟨k, e, q⟩ := truth_end q r
    refine ⟨k, e, ?_⟩
    have s13 := s12.trans s
    cases k with
    | true =>
      have q : ((cc env >>= fun z => p dy z) >>= truth).post _ noE := q
      rw [bind_asc, post_bind] at q
      refine ⟨O, env, h1.same s13, h2.same s13, post_mono q (fun dz h6 z H4 s4 r4 => ?_) fun _ _ z => z⟩
      rw [post_bind] at h6
      refine ⟨O, dy, dz, (h1.same s13).same s4, (r2.same s).same s4, r4, post_mono h6 (fun d q v H' s r => ?_) fun _ _ z => z⟩
      obtain ⟨k, e, q⟩ := truth_end q r
      exact ⟨k, e, q H' ((s13.trans s4).trans s)⟩
    | false => exact ⟨false, rfl, q H' s13⟩
/-! ### arguments -/
theorem a_nil : HA X [] [] := pa_nil.imp fun σ H Q ⟨O, env, h1, h2, h3⟩ => h3 [] H (Same.refl H) rfl
theorem a_cons {e : Expr} {es : List Expr} {c : Ex} {cs : List Ex} (ha : HE X e c) (hr : HA X es cs) (hs : starEach (e :: es) X.env = (false, eval e X.env) :: starEach es X.env) : HA X (e :: es) (c :: cs) :=
  (pa_cons ha hr hs).imp fun σ H Q ⟨O, env, h1, h2, h3⟩ => by
    unfold eAll at h3
    rw [post_bind] at h3
    refine ⟨O, env, h1, h2, post_mono h3 (fun dx h4 x H1 s1 r1 => ?_) fun _ _ z => z⟩
    rw [post_bind] at h4
    refine ⟨O, env, h1.same s1, h2.same s1, post_mono h4 (fun ds h5 vs H2 s2 r2 => ?_) fun _ _ z => z⟩
    exact h5 (x :: vs) H2 (s1.trans s2) ⟨x, vs, rfl, r1.same s2, r2⟩
theorem ab_nil : HAB X [] [] := a_nil.hb
theorem ab_cons {e : Expr} {es : List Expr} {c : Ex} {cs : List Ex} (ha : HB X e c) (hr : HAB X es cs) (hs : starEach (e :: es) X.env = (false, eval e X.env) :: starEach es X.env) : HAB X (e :: es) (c :: cs) :=
  (pa_cons ha hr hs).imp fun σ H Q ⟨O, env, h1, h2, h3⟩ => by
    unfold eAll at h3
    rw [post_bind] at h3
    refine ⟨O, env, h1, h2, post_mono h3 (fun dx h4 x H1 s1 r1 => ?_) fun _ _ z => z⟩
    rw [post_bind] at h4
    refine ⟨O, env, h1.same s1, h2.same s1, post_mono h4 (fun ds h5 vs H2 s2 r2 => ?_) fun _ _ z => z⟩
    exact h5 (x :: vs) H2 (s1.trans s2) ⟨x, vs, rfl, r1.same s2, r2⟩
end
end PV
/-! each operator does what the evaluator says -/
namespace PV
open PySem PySem.Spec PyProof.Rows L2
theorem lim_size {n : Nat} (h : n ≤ LIM) : n ≤ sizeLine := by
  rw [sizeLine_eq]
  unfold LIM at h
  omega
theorem lim_size1 {n : Nat} (h : n < LIM) : n < sizeLine := by
  rw [sizeLine_eq]
  unfold LIM at h
  omega
theorem Room.c {k : Nat} {A : Around} (r : Room k A) : A.units + 200 < cLine := by
  have := r.un
  omega
section
variable {X : Cx} {H : Hp} {O : Addr → Prop}
/-- a value of no objects -/
theorem same_new {p : Addr} {o : HO} (h : H p = none) : Same H (upd H p o) := fun b x e => by
  rw [upd_ne (ne_of_none e h)]
  exact e
theorem dom_new {p : Addr} (hD : Dom H O) (h : H p = none) : ¬ O p := hD.not h
/-- a new list, a new tuple of what stands -/
theorem rep_lst {p : Addr} {ds : List D} {vs : List V} (hD : Dom H O) (h : H p = none) (r : RepL X.prog X.w X.K H O ds vs) : Rep X.prog X.w X.K (upd H p (.lst vs)) O (.lst ds) (.ref p) :=
  ⟨p, vs, rfl, dom_new hD h, upd_same, r.same (same_new h)⟩
theorem rep_tup {p : Addr} {ds : List D} {vs : List V} (h : H p = none) (r : RepL X.prog X.w X.K H O ds vs) : Rep X.prog X.w X.K (upd H p (.tup vs)) O (.tup ds) (.ref p) :=
  ⟨p, vs, rfl, .inl (.inl upd_same), r.same (same_new h)⟩
theorem op_dAdd : OpR X (binaryOp .Add) (rOp X.prog X.w X.K dAdd) := by
  intro pins s σ H x y v u Q I rx ry h
  obtain ⟨O, dx, dy, hD, hx, hy, h⟩ := h
  cases dx with
  | int a =>
    cases dy with
    | int b => exact op_add pins s σ H x y v u Q I rx ry ⟨a, b, hx, hy, h _ H (Same.refl H) rfl⟩
    | _ => exact h.elim
  | lst a =>
    cases dy with
    | lst b =>
      unfold dAdd at h
      rw [post_ck] at h
      obtain ⟨p, xs, e1, h1, r1⟩ := hx
      obtain ⟨q, ys, e2, h2, r2⟩ := hy
      refine op_cat pins s σ H x y v u Q I rx ry ⟨p, q, xs, ys, e1, e2, h1, h2, lim_size ?_, fun z hz => ?_⟩
      · rw [r1.length, r2.length]; exact h.1
      · exact h.2 _ _ (same_new hz) (rep_lst hD hz (r1.append r2))
    | _ => exact h.elim
  | tup a =>
    cases dy with
    | tup b =>
      unfold dAdd at h
      rw [post_ck] at h
      obtain ⟨p, xs, e1, h1, r1⟩ := hx
      obtain ⟨q, ys, e2, h2, r2⟩ := hy
      have l1 := r1.length
      have l2 := r2.length
      refine op_catA pins s σ H x y v u Q I rx ry ⟨p, q, xs, ys, e1, e2, h1, h2, lim_size ?_, fun e => ?_, fun n e => ?_, fun _ _ z hz => ?_⟩
      · rw [l1, l2]; exact h.1
      · subst e
        have : a = [] := List.length_eq_zero_iff.mp l1.symm
        subst this
        exact h.2 _ H (Same.refl H) ⟨q, ys, rfl, h2, r2⟩
      · subst e
        have : b = [] := List.length_eq_zero_iff.mp l2.symm
        subst this
        exact h.2 _ H (Same.refl H) ⟨p, xs, rfl, h1, by rw [List.append_nil]; exact r1⟩
      · exact h.2 _ _ (same_new hz) (rep_tup hz (r1.append r2))
    | _ => exact h.elim
  | str a =>
    cases dy with
    | str b =>
      unfold dAdd at h
      rw [post_ck] at h
      exact op_add_str pins s σ H x y v u Q I rx ry ⟨a, b, hx, hy, lim_size h.1, h.2 _ H (Same.refl H) rfl⟩
    | _ => exact h.elim
  | _ => exact h.elim
theorem op_dSub : OpR X (binaryOp .Sub) (rOp X.prog X.w X.K dSub) := by
  intro pins s σ H x y v u Q I rx ry h
  obtain ⟨O, dx, dy, hD, hx, hy, h⟩ := h
  cases dx with
  | int a =>
    cases dy with
    | int b => exact op_sub pins s σ H x y v u Q I rx ry ⟨a, b, hx, hy, h _ H (Same.refl H) rfl⟩
    | _ => exact h.elim
  | _ => exact h.elim
theorem small_of {a : Int} (h : small a) : -(2 ^ 64) < a ∧ a < 2 ^ 64 := by
  unfold small W64 at h
  exact ⟨by have := h.1; omega, by have := h.2; omega⟩
theorem small_abs {a : Int} (h : small a) : a.natAbs < 2 ^ 64 := by
  have := small_of h
  omega
theorem flat_one {α : Type} (l : List α) : (List.replicate 1 l).flatten = l := by simp
theorem RepL.rep {ds : List D} {vs : List V} (r : RepL X.prog X.w X.K H O ds vs) : ∀ n : Nat, RepL X.prog X.w X.K H O (List.replicate n ds).flatten (List.replicate n vs).flatten
  | 0 => rfl
  | n + 1 => by
    rw [List.replicate_succ, List.replicate_succ, List.flatten_cons, List.flatten_cons]
    exact r.append (RepL.rep r n)
theorem op_dMul : OpR X (binaryOp .Mult) (rOp X.prog X.w X.K dMul) := by
  intro pins s σ H x y v u Q I rx ry h
  obtain ⟨O, dx, dy, hD, hx, hy, h⟩ := h
  cases dx with
  | int a =>
    cases dy with
    | int b =>
      unfold dMul at h
      rw [post_ck] at h
      refine op_mul pins s σ H x y v u Q I rx ry ⟨a, b, hx, hy, ?_, h.2 _ H (Same.refl H) rfl⟩
      exact h.1.elim (fun z => .inl (small_of z)) fun z => .inr (small_of z)
    | _ => exact h.elim
  | lst a =>
    cases dy with
    | int k =>
      unfold dMul at h
      rw [post_ck] at h
      obtain ⟨p, xs, e1, h1, r1⟩ := hx
      have l1 := r1.length
      have b1 : -SML ≤ k := h.1.2.1
      unfold SML at b1
      refine op_rep pins s σ H x y v u Q I rx ry ⟨p, k, xs, e1, hy, h1, by omega, by have := h.1.1; omega, lim_size ?_, fun z hz => ?_⟩
      · rw [l1]; exact h.1.2.2
      · exact h.2 _ _ (same_new hz) (rep_lst hD hz (r1.rep _))
    | _ => exact h.elim
  | tup a =>
    cases dy with
    | int k =>
      unfold dMul at h
      rw [post_ck] at h
      obtain ⟨p, xs, e1, h1, r1⟩ := hx
      have l1 := r1.length
      refine op_repT pins s σ H x y v u Q I rx ry ⟨p, k, xs, e1, hy, h1, ?_, h.1.1, h.1.2.1, by rw [l1]; exact h.1.2.2.1, fun z hz => ?_⟩
      · intro e
        subst e
        have := h.1.2.2.2
        rw [← l1] at this
        exact absurd this (Nat.lt_irrefl 0)
      · exact h.2 _ _ (same_new hz) (rep_tup hz (r1.rep _))
    | _ => exact h.elim
  | _ => exact h.elim
theorem op_dFdiv : OpR X (binaryOp .FloorDiv) (rOp X.prog X.w X.K dFdiv) := by
  intro pins s σ H x y v u Q I rx ry h
  obtain ⟨O, dx, dy, hD, hx, hy, h⟩ := h
  cases dx with
  | int a =>
    cases dy with
    | int b =>
      by_cases hb : 0 < b
      · simp only [dFdiv, if_pos hb, post_ck] at h
        have h1 := h.1
        unfold W30 at h1
        exact op_fdiv pins s σ H x y v u Q I rx ry ⟨a, b, hx, hy, ⟨hb, h1⟩, h.2 _ H (Same.refl H) rfl⟩
      · simp only [dFdiv, if_neg hb, post_ck] at h
        have h1 := h.1
        unfold W30 at h1
        exact op_fdivN pins s σ H x y v u Q I rx ry ⟨a, b, hx, hy, ⟨by omega, by omega⟩, h.2 _ H (Same.refl H) rfl⟩
    | _ => exact h.elim
  | _ => exact h.elim
theorem op_dMod : OpR X (binaryOp .Mod) (rOp X.prog X.w X.K dMod) := by
  intro pins s σ H x y v u Q I rx ry h
  obtain ⟨O, dx, dy, hD, hx, hy, h⟩ := h
  cases dx with
  | int a =>
    cases dy with
    | int b =>
      by_cases hb : 0 < b
      · simp only [dMod, if_pos hb] at h
        exact op_mod pins s σ H x y v u Q I rx ry ⟨a, b, hx, hy, hb, h _ H (Same.refl H) rfl⟩
      · simp only [dMod, if_neg hb, post_ck] at h
        exact op_modN pins s σ H x y v u Q I rx ry ⟨a, b, hx, hy, by have := h.1; omega, h.2 _ H (Same.refl H) rfl⟩
    | _ => exact h.elim
  | _ => exact h.elim
theorem op_dPow : OpR X (binaryOp .Pow) (rOp X.prog X.w X.K dPow) := by
  intro pins s σ H x y v u Q I rx ry h
  obtain ⟨O, dx, dy, hD, hx, hy, h⟩ := h
  cases dx with
  | int a =>
    cases dy with
    | int b =>
      unfold dPow at h
      rw [post_ck] at h
      exact op_pow pins s σ H x y v u Q I rx ry ⟨a, b, hx, hy, ⟨h.1.1, by have := h.1.2.1; omega, small_abs h.1.2.2⟩, h.2 _ H (Same.refl H) rfl⟩
    | _ => exact h.elim
  | _ => exact h.elim
theorem op_dShl : OpR X (binaryOp .LShift) (rOp X.prog X.w X.K dShl) := by
  intro pins s σ H x y v u Q I rx ry h
  obtain ⟨O, dx, dy, hD, hx, hy, h⟩ := h
  cases dx with
  | int a =>
    cases dy with
    | int b =>
      unfold dShl at h
      rw [post_ck] at h
      exact op_shl pins s σ H x y v u Q I rx ry ⟨a, b, hx, hy, ⟨h.1.1, by have := h.1.2.1; omega, small_abs h.1.2.2⟩, h.2 _ H (Same.refl H) rfl⟩
    | _ => exact h.elim
  | _ => exact h.elim
theorem op_dShr : OpR X (binaryOp .RShift) (rOp X.prog X.w X.K dShr) := by
  intro pins s σ H x y v u Q I rx ry h
  obtain ⟨O, dx, dy, hD, hx, hy, h⟩ := h
  cases dx with
  | int a =>
    cases dy with
    | int b =>
      unfold dShr at h
      rw [post_ck] at h
      exact op_shr pins s σ H x y v u Q I rx ry ⟨a, b, hx, hy, h.1, h.2 _ H (Same.refl H) rfl⟩
    | _ => exact h.elim
  | _ => exact h.elim
theorem un_dNeg : UnR X (unaryOp .USub) (rUn X.prog X.w X.K dNeg) := by
  intro pins s σ H x v Q I rx h
  obtain ⟨O, dx, hD, hx, h⟩ := h
  cases dx with
  | int a => exact un_neg pins s σ H x v Q I rx ⟨a, hx, h _ H (Same.refl H) rfl⟩
  | _ => exact h.elim
/-! ### comparisons -/
theorem un_min {A : Around} {a b : Nat} (hu : A.units + 64 < cLine) (h : min a b ≤ DEP) : A.units + min a b < cLine := by
  unfold DEP at h
  omega
theorem ep_bl {pins : List (Addr × Obj)} {s : Shared} {σ : L2.St} {Q : VK} {b : Bool} (I : Inv X pins σ H s) (h : Q (.bl b) H) : EP X pins σ Q (.bool b) s := ⟨.bl b, H, I, rfl, h⟩
theorem op_oEq (hu : X.A.units + 64 < cLine) : OpR X (compareOp .Eq) (rOp X.prog X.w X.K oEq) := by
  intro pins s σ H x y v u Q I rx ry h
  obtain ⟨O, dx, dy, hD, hx, hy, h⟩ := h
  unfold oEq bl dEq at h
  rw [post_bind, post_ck] at h
  obtain ⟨⟨f1, f2, hd⟩, h⟩ := h
  obtain ⟨as, q1⟩ := hx.reads I f1 rx
  obtain ⟨bs, q2⟩ := hy.reads I f2 ry
  refine PySem.SeqAt.eq_plain q1 q2 (plain_toPy dx f1) (plain_toPy dy f2) (by rw [depth_toPy dx f1, depth_toPy dy f2]; exact un_min hu hd) ?_
  rw [eqv_toPy dx dy f1 f2]
  exact ep_bl I (h _ H (Same.refl H) rfl)
theorem op_oNe (hu : X.A.units + 64 < cLine) : OpR X (compareOp .NotEq) (rOp X.prog X.w X.K oNe) := by
  intro pins s σ H x y v u Q I rx ry h
  obtain ⟨O, dx, dy, hD, hx, hy, h⟩ := h
  unfold oNe dEq at h
  rw [post_bind, post_ck] at h
  obtain ⟨⟨f1, f2, hd⟩, h⟩ := h
  obtain ⟨as, q1⟩ := hx.reads I f1 rx
  obtain ⟨bs, q2⟩ := hy.reads I f2 ry
  refine PySem.SeqAt.ne_plain q1 q2 (plain_toPy dx f1) (plain_toPy dy f2) (by rw [depth_toPy dx f1, depth_toPy dy f2]; exact un_min hu hd) ?_
  rw [eqv_toPy dx dy f1 f2]
  exact ep_bl I (h _ H (Same.refl H) rfl)
theorem py_notNon {d : D} (hf : flat d = true) (h : notNon d = true) : toPy d ≠ .none := by
  cases d with
  | non => simp [notNon] at h
  | dct _ => simp [flat] at hf
  | w => simp [flat] at hf
  | scr _ => simp [flat] at hf
  | _ => intro e; simp [toPy] at e
theorem op_oLt (hu : X.A.units + 64 < cLine) : OpR X (compareOp .Lt) (rOp X.prog X.w X.K oLt) := by
  intro pins s σ H x y v u Q I rx ry h
  obtain ⟨O, dx, dy, hD, hx, hy, h⟩ := h
  unfold oLt at h
  rw [post_ck] at h
  obtain ⟨⟨f1, f2, a1, a2, n, hd⟩, h⟩ := h
  obtain ⟨as, q1⟩ := hx.reads I f1 rx
  obtain ⟨bs, q2⟩ := hy.reads I f2 ry
  refine PySem.W.lt_data q1 q2 (alike_toPy dx dy a1) (py_notNon f1 n) (by rw [depth_toPy dx f1, depth_toPy dy f2]; exact un_min hu hd) ?_
  rw [lt_toPy dx dy a1]
  exact ep_bl I (h _ H (Same.refl H) rfl)
theorem op_oGt (hu : X.A.units + 64 < cLine) : OpR X (compareOp .Gt) (rOp X.prog X.w X.K oGt) := by
  intro pins s σ H x y v u Q I rx ry h
  obtain ⟨O, dx, dy, hD, hx, hy, h⟩ := h
  unfold oGt at h
  rw [post_ck] at h
  obtain ⟨⟨f1, f2, a1, a2, n, hd⟩, h⟩ := h
  obtain ⟨as, q1⟩ := hx.reads I f1 rx
  obtain ⟨bs, q2⟩ := hy.reads I f2 ry
  refine PySem.W.gt_data q1 q2 (alike_toPy dx dy a1) (py_notNon f1 n) (by rw [depth_toPy dx f1, depth_toPy dy f2]; exact un_min hu hd) ?_
  rw [lt_toPy dy dx a2]
  exact ep_bl I (h _ H (Same.refl H) rfl)
theorem op_oLe (hu : X.A.units + 64 < cLine) : OpR X (compareOp .LtE) (rOp X.prog X.w X.K oLe) := by
  intro pins s σ H x y v u Q I rx ry h
  obtain ⟨O, dx, dy, hD, hx, hy, h⟩ := h
  unfold oLe at h
  rw [post_ck] at h
  obtain ⟨⟨f1, f2, a1, a2, n, hd⟩, h⟩ := h
  obtain ⟨as, q1⟩ := hx.reads I f1 rx
  obtain ⟨bs, q2⟩ := hy.reads I f2 ry
  refine PySem.W.le_data q1 q2 (alike_toPy dx dy a1) (py_notNon f1 n) (by rw [depth_toPy dx f1, depth_toPy dy f2]; exact un_min hu hd) ?_
  rw [lt_toPy dy dx a2]
  exact ep_bl I (h _ H (Same.refl H) rfl)
theorem op_oGe (hu : X.A.units + 64 < cLine) : OpR X (compareOp .GtE) (rOp X.prog X.w X.K oGe) := by
  intro pins s σ H x y v u Q I rx ry h
  obtain ⟨O, dx, dy, hD, hx, hy, h⟩ := h
  unfold oGe at h
  rw [post_ck] at h
  obtain ⟨⟨f1, f2, a1, a2, n, hd⟩, h⟩ := h
  obtain ⟨as, q1⟩ := hx.reads I f1 rx
  obtain ⟨bs, q2⟩ := hy.reads I f2 ry
  refine PySem.W.ge_data q1 q2 (alike_toPy dx dy a1) (py_notNon f1 n) (by rw [depth_toPy dx f1, depth_toPy dy f2]; exact un_min hu hd) ?_
  rw [lt_toPy dx dy a1]
  exact ep_bl I (h _ H (Same.refl H) rfl)
/-- None or not -/
theorem non_iff {d : D} {v : V} (r : RepB X.prog X.w X.K H O d v) : decide (v = .non) = isNon d := by
  cases d with
  | non => cases r; rfl
  | bl _ => cases r; rfl
  | int _ => cases r; rfl
  | str _ => cases r; rfl
  | tup _ => obtain ⟨a, vs, e, _⟩ := r; subst e; rfl
  | lst _ => obtain ⟨a, vs, e, _⟩ := r; subst e; rfl
  | dct _ => obtain ⟨a, _, _, _, e, _⟩ := r; subst e; rfl
  | w => obtain ⟨a, _, _, e, _⟩ := r; subst e; rfl
  | scr _ => obtain ⟨a, e, _⟩ := r; subst e; rfl
theorem op_isNon : OpR X (compareOp .Is) (fun x y H Q => y = .non ∧ rUn X.prog X.w X.K (oIs .non) x H Q) := by
  intro pins s σ H x y v u Q I rx ry h
  obtain ⟨e, O, dx, hD, hx, h⟩ := h
  exact op_isN pins s σ H x y v u Q I rx ry ⟨e, by rw [non_iff hx]; exact h _ H (Same.refl H) rfl⟩
theorem op_notNon : OpR X (compareOp .IsNot) (fun x y H Q => y = .non ∧ rUn X.prog X.w X.K (oIsNot .non) x H Q) := by
  intro pins s σ H x y v u Q I rx ry h
  obtain ⟨e, O, dx, hD, hx, h⟩ := h
  exact op_notN pins s σ H x y v u Q I rx ry ⟨e, by rw [non_iff hx]; exact h _ H (Same.refl H) rfl⟩
theorem op_isBool (a : Bool) : OpR X (compareOp .Is) (fun x y H Q => y = .bl a ∧ rUn X.prog X.w X.K (oIs (.bl a)) x H Q) := by
  intro pins s σ H x y v u Q I rx ry h
  obtain ⟨e, O, dx, hD, hx, h⟩ := h
  cases dx with
  | bl b => exact op_isBl pins s σ H x y v u Q I rx ry ⟨b, a, hx, e, h _ H (Same.refl H) rfl⟩
  | _ => exact h.elim
theorem op_notBool (a : Bool) : OpR X (compareOp .IsNot) (fun x y H Q => y = .bl a ∧ rUn X.prog X.w X.K (oIsNot (.bl a)) x H Q) := by
  intro pins s σ H x y v u Q I rx ry h
  obtain ⟨e, O, dx, hD, hx, h⟩ := h
  cases dx with
  | bl b => exact op_notBl pins s σ H x y v u Q I rx ry ⟨b, a, hx, e, h _ H (Same.refl H) rfl⟩
  | _ => exact h.elim
end
end PV
/-! places, slices, displays, calls -/
namespace PV
open PySem PySem.Spec PyProof.Rows L2
theorem ixN_eq (n : Nat) (i : Int) : PV.ixN n i = L2.ixN n i := rfl
theorem sIx_eq (n d : Nat) : ∀ o : Option Int, PV.sIx n d o = HT.sIx n d o
  | none => rfl
  | some _ => rfl
theorem getI_rep {P : Program} {w : World} {K : PySem.W.Frag} {H : Hp} {O : Addr → Prop} {ds : List D} {vs : List V} {i : Int} {d : D} (r : RepL P w K H O ds vs) (h : getI ds i = some d) : ∃ v, atI vs i = some v ∧ Rep P w K H O d v := by
  unfold getI at h
  cases e : PV.ixN ds.length i with
  | none => rw [e] at h; cases h
  | some j =>
    rw [e] at h
    obtain ⟨v, h1, h2⟩ := r.get h
    refine ⟨v, ?_, h2⟩
    unfold atI
    rw [r.length, ← ixN_eq, e]
    exact h1
theorem getI_map {α β : Type} (f : α → β) (l : List α) (i : Int) {a : α} (h : getI l i = some a) : atI (l.map f) i = some (f a) := by
  unfold getI at h
  unfold atI
  rw [List.length_map, ← ixN_eq]
  cases e : PV.ixN l.length i with
  | none => rw [e] at h; cases h
  | some j =>
    rw [e] at h
    have h' : l[j]? = some a := h
    show (l.map f)[j]? = some (f a)
    rw [List.getElem?_map, h']
    rfl
section
variable {X : Cx} {H : Hp} {O : Addr → Prop}
theorem post_opt {α : Type} {o : Option α} {R : α → Prop} (h : (ofOpt o).post R noE) : ∃ a, o = some a ∧ R a := by
  cases o with
  | none => exact h.elim
  | some a => exact ⟨a, rfl, h⟩
theorem size_str {pins : List (Addr × Obj)} {s : Shared} {σ : L2.St} {v : Value} {x : Str} (I : Inv X pins σ H s) : True := trivial
theorem ix_dIdx : IxR X (rOp X.prog X.w X.K dIdx) := by
  intro value slice pins s σ H x y v u Q I rx ry h hs
  obtain ⟨O, dx, dy, hD, hx, hy, h⟩ := h
  cases dx with
  | lst l =>
    cases dy with
    | int i =>
      obtain ⟨d, e, h⟩ := post_opt h
      obtain ⟨p, xs, e1, h1, r1⟩ := hx
      obtain ⟨z, g, rz⟩ := getI_rep r1 e
      exact ix_list value slice pins s σ H x y v u Q I rx ry ⟨p, xs, i, z, e1, hy, SqL.of h1, g, h z H (Same.refl H) rz⟩ hs
    | _ => exact h.elim
  | tup l =>
    cases dy with
    | int i =>
      obtain ⟨d, e, h⟩ := post_opt h
      obtain ⟨p, xs, e1, h1, r1⟩ := hx
      obtain ⟨z, g, rz⟩ := getI_rep r1 e
      exact ix_tup value slice pins s σ H x y v u Q I rx ry ⟨p, xs, i, z, e1, hy, h1, g, h z H (Same.refl H) rz⟩ hs
    | _ => exact h.elim
  | str a =>
    cases dy with
    | int i =>
      unfold dIdx at h
      cases e : getI a.cps.toList i with
      | none => simp only [e] at h; exact h.elim
      | some c =>
        simp only [e, post_ck] at h
        exact ix_str value slice pins s σ H x y v u Q I rx ry ⟨a, i, c, hx, hy, lim_size h.1, by simpa using getI_map id a.cps.toList i e, h.2 _ H (Same.refl H) rfl⟩ hs
    | _ => exact h.elim
  | scr l =>
    cases dy with
    | int i =>
      unfold dIdx at h
      cases e : getI l i with
      | none => simp only [e] at h; exact h.elim
      | some n =>
        simp only [e] at h
        obtain ⟨p, e1, h1⟩ := hx
        exact ix_list value slice pins s σ H x y v u Q I rx ry ⟨p, _, i, .int n, e1, hy, h1.sq, getI_map V.int l i e, h _ H (Same.refl H) rfl⟩ hs
    | _ => exact h.elim
  | _ => exact h.elim
theorem e_idx {a b : Expr} {ca cb : Ex} {pos : Pos} (ha : HB X a ca) (hb : HE X b cb) (hs : PlainIx b) : HE X (.Subscript a b pos) (eBin dIdx ca cb) :=
  (pe_ix ix_dIdx ha hb.hb hs).imp fun σ H Q ⟨O, env, h1, h2, h3⟩ => by
    unfold eBin at h3
    rw [post_bind] at h3
    refine ⟨O, env, h1, h2, post_mono h3 (fun dx h4 x H1 s1 r1 => ?_) fun _ _ z => z⟩
    rw [post_bind] at h4
    refine ⟨O, env, h1.same s1, h2.same s1, post_mono h4 (fun dy h5 y H2 s2 r2 => ?_) fun _ _ z => z⟩
    exact ⟨O, dx, dy, (h1.same s1).same s2, r1.same s2, r2, post_mono h5 (fun d q v H' s r => q v H' ((s1.trans s2).trans s) r) fun _ _ z => z⟩
/-! ### slices -/
theorem cut_rep {ds : List D} {vs : List V} {lo hi : Option Int} (r : RepL X.prog X.w X.K H O ds vs) : RepL X.prog X.w X.K H O (cut ds lo hi) (cutV vs lo hi) := by
  unfold cut cutV
  rw [r.length, sIx_eq, sIx_eq]
  exact (r.drop _).take _
def rSlc (P : Program) (w : World) (K : PySem.W.Frag) : V → Option Int → Option Int → Hp → VK → Prop := fun x lo hi H Q =>
  ∃ O dx, Dom H O ∧ RepB P w K H O dx x ∧ (dSlc dx lo hi).post (fun d => ∀ v H', Same H H' → Rep P w K H' O d v → Q v H') noE
theorem sl_dSlc : SlR X (rSlc X.prog X.w X.K) := by
  intro pins s σ H x v vl vu lo hi sl Q I rx hsl pl pu h
  obtain ⟨O, dx, hD, hx, h⟩ := h
  cases dx with
  | lst l =>
    obtain ⟨p, xs, e1, h1, r1⟩ := hx
    exact sl_list pins s σ H x v vl vu lo hi sl Q I rx hsl pl pu ⟨p, xs, e1, SqL.of h1, fun z hz => h _ _ (same_new hz) (rep_lst hD hz (cut_rep r1))⟩
  | tup l =>
    obtain ⟨p, xs, e1, h1, r1⟩ := hx
    refine sl_tupA pins s σ H x v vl vu lo hi sl Q I rx hsl pl pu ⟨p, xs, e1, h1, fun e => ?_, fun _ z hz => h _ _ (same_new hz) (rep_tup hz (cut_rep r1))⟩
    refine h _ H (Same.refl H) ⟨p, xs, rfl, h1, ?_⟩
    have q := cut_rep (lo := lo) (hi := hi) r1
    have ec : cutV xs lo hi = xs := by
      unfold cutV
      rw [e.1, e.2, List.drop_zero, Nat.sub_zero, List.take_length]
    rw [ec] at q
    exact q
  | str a =>
    simp only [dSlc, post_ck] at h
    refine sl_str pins s σ H x v vl vu lo hi sl Q I rx hsl pl pu ⟨a, hx, lim_size h.1, ?_⟩
    refine h.2 _ H (Same.refl H) ?_
    show V.str (cutS a lo hi) = V.str _
    unfold cutS cut
    rw [sIx_eq, sIx_eq, Array.length_toList]
    rfl
  | _ => exact h.elim
theorem o_none : PO X none (fun σ H Q => ∃ O env, Dom H O ∧ RelX X.prog X.w X.K H O σ env ∧ (part none env).post (fun o => ∀ H', Same H H' → Q o H') noE) := by
  refine ⟨fun pins s σ H Q I h => ?_⟩
  obtain ⟨O, env, _, _, h⟩ := h
  exact po_none.run pins s σ H Q I (h H (Same.refl H))
theorem o_some {e : Expr} {c : Ex} (he : HE X e c) : PO X (some e) (fun σ H Q => ∃ O env, Dom H O ∧ RelX X.prog X.w X.K H O σ env ∧ (part (some c) env).post (fun o => ∀ H', Same H H' → Q o H') noE) := by
  refine ⟨fun pins s σ H Q I h => ?_⟩
  obtain ⟨O, env, h1, h2, h3⟩ := h
  unfold part at h3
  rw [post_bind] at h3
  refine (po_some he).run pins s σ H Q I ⟨O, env, h1, h2, post_mono h3 (fun d q v H' s r => ?_) fun _ _ z => z⟩
  cases d with
  | int i => exact ⟨i, r, q H' s⟩
  | _ => exact q.elim
abbrev tO (P : Program) (w : World) (K : PySem.W.Frag) (c : Option Ex) : TO := fun σ H Q => ∃ O env, Dom H O ∧ RelX P w K H O σ env ∧ (part c env).post (fun o => ∀ H', Same H H' → Q o H') noE
theorem e_slc {a : Expr} {lo hi : Option Expr} {ca : Ex} {cl ch : Option Ex} {p2 pos : Pos} (ha : HB X a ca) (hl : PO X lo (tO X.prog X.w X.K cl)) (hh : PO X hi (tO X.prog X.w X.K ch)) : HE X (.Subscript a (.Slice lo hi none p2) pos) (eSlc ca cl ch) :=
  (pe_slice sl_dSlc ha hl hh).imp fun σ H Q ⟨O, env, h1, h2, h3⟩ => by
    unfold eSlc at h3
    rw [post_bind] at h3
    refine ⟨O, env, h1, h2, post_mono h3 (fun dx h4 x H1 s1 r1 => ?_) fun _ _ z => z⟩
    rw [post_bind] at h4
    refine ⟨O, env, h1.same s1, h2.same s1, post_mono h4 (fun l h5 H2 s2 => ?_) fun _ _ z => z⟩
    rw [post_bind] at h5
    have s12 := s1.trans s2
    refine ⟨O, env, h1.same s12, h2.same s12, post_mono h5 (fun u h6 H3 s3 => ?_) fun _ _ z => z⟩
    exact ⟨O, dx, h1.same (s12.trans s3), (r1.same s2).same s3, post_mono h6 (fun d q v H' s r => q v H' ((s12.trans s3).trans s) r) fun _ _ z => z⟩
/-- xs[::-1] -/
theorem e_rev {a : Expr} {ca : Ex} {k : Nat} {p1 p2 p3 pos : Pos} (ha : HB X a ca) : HE X (.Subscript a (.Slice none none (some (.UnaryOp .USub (.Constant (.int 1) k p1) p2)) p3) pos) (eUn dRev ca) :=
  (pe_revL ha).imp fun σ H Q ⟨O, env, h1, h2, h3⟩ => by
    unfold eUn at h3
    rw [post_bind] at h3
    refine ⟨O, env, h1, h2, post_mono h3 (fun dx h4 x H1 s1 r1 => ?_) fun _ _ z => z⟩
    cases dx with
    | lst l =>
      obtain ⟨p, xs, e1, h5, r⟩ := r1
      exact ⟨p, xs, e1, SqL.of h5, fun z hz => h4 _ _ (s1.trans (same_new hz)) (rep_lst (h1.same s1) hz r.reverse)⟩
    | _ => exact h4.elim
/-! ### displays -/
theorem all_len {R : List D → Prop} {E : Str → D → Prop} : ∀ (cs : List Ex) (env : Env), (eAll cs env).post R E → (eAll cs env).post (fun ds => ds.length = cs.length ∧ R ds) E
  | [], _, h => ⟨rfl, h⟩
  | c :: cs, env, h => by
    unfold eAll at h ⊢
    rw [post_bind] at h ⊢
    refine post_mono h (fun d h => ?_) fun _ _ z => z
    rw [post_bind] at h ⊢
    have q := all_len cs env h
    exact post_mono q (fun ds h => ⟨by rw [List.length_cons, List.length_cons, h.1], h.2⟩) fun _ _ z => z
theorem e_tup {es : List Expr} {cs : List Ex} {k : Nat} {pos : Pos} (h : HA X es cs) (hl : cs.length ≤ LIM) : HE X (.Tuple es k pos) (eTup cs) :=
  (pe_tup h).imp fun σ H Q ⟨O, env, h1, h2, h3⟩ => by
    unfold eTup at h3
    rw [post_bind] at h3
    refine ⟨O, env, h1, h2, post_mono (all_len _ _ h3) (fun ds h4 vs H1 s1 r1 => ⟨lim_size (by rw [r1.length, h4.1]; exact hl), fun p hp => ?_⟩) fun _ _ z => z⟩
    exact h4.2 _ _ (s1.trans (same_new hp)) (rep_tup hp r1)
theorem e_lst {es : List Expr} {cs : List Ex} {pos : Pos} (h : HA X es cs) (hl : cs.length ≤ LIM) : HE X (.List es pos) (eLst cs) :=
  (pe_lst h).imp fun σ H Q ⟨O, env, h1, h2, h3⟩ => by
    unfold eLst at h3
    rw [post_bind] at h3
    refine ⟨O, env, h1, h2, post_mono (all_len _ _ h3) (fun ds h4 vs H1 s1 r1 => ⟨lim_size (by rw [r1.length, h4.1]; exact hl), fun p hp => ?_⟩) fun _ _ z => z⟩
    exact h4.2 _ _ (s1.trans (same_new hp)) (rep_lst (h1.same s1) hp r1)
/-! ### calls -/
/-- what a def promises: what the evaluator says -/
def spF (P : Program) (w : World) (K : PySem.W.Frag) (n : Nat) (F : List D → M D) : Sp := fun vs H Q _ =>
  ∃ O ds, Dom H O ∧ RepL P w K H O ds vs ∧ ds.length = n ∧ (F ds).post (fun d => ∀ v H', Same H H' → Rep P w K H' O d v → Q v H') noE
theorem e_call {k : Nat} {f : Addr} {fd : FuncData} {ps : List Str} {F : List D → M D} {x : Str} {p pos : Pos} {e : Expr} {es : List Expr} {cs : List Ex} (G : FnOk X.prog X.w X.K X.mg X.base CX0 k f fd ps (spF X.prog X.w X.K ps.length F)) (hr : Room k X.A) (hg : Gl X x)
    (hm : X.mg x = some (.ref f)) (hk : PySem.W.keepIn X.K (.ref f) = true) (hb : Binds X.K fd ps []) (ha : HA X (e :: es) cs) (hl : cs.length = ps.length) (hdb : (x == ("__debug__" : Str)) = false)
    (he : starEach (e :: es) X.env = (false, eval e X.env) :: starEach es X.env) (hpl : (backTo pos (starEach es X.env)).any (·.1) = false) : HE X (.Call (.Name x p) (e :: es) [] pos) (eCall F cs) :=
  (pe_call G hr hg hm hk hb .nil pass0 ha hdb he hpl).imp fun σ H Q ⟨O, env, h1, h2, h3⟩ => by
    unfold eCall at h3
    rw [post_bind] at h3
    refine ⟨O, env, h1, h2, post_mono (all_len _ _ h3) (fun ds h4 vs H1 s1 r1 => ?_) fun _ _ z => z⟩
    show spF X.prog X.w X.K ps.length F (vs ++ []) H1 Q E0
    rw [List.append_nil]
    exact ⟨O, ds, h1.same s1, r1, h4.1.trans hl, post_mono h4.2 (fun d q v H' s r => q v H' (s1.trans s) r) fun _ _ z => z⟩
theorem prim_imp {p : List D → M D} {cs : List Ex} {σ : L2.St} {H : Hp} {Q : VK} (h : tE X.prog X.w X.K (ePrim p cs) σ H Q) : tCB (rPr X.prog X.w X.K p) (tAB X.prog X.w X.K cs) σ H Q := by
  obtain ⟨O, env, h1, h2, h3⟩ := h
  unfold ePrim at h3
  rw [post_bind] at h3
  refine ⟨O, env, h1, h2, post_mono h3 (fun ds h4 vs H1 s1 r1 => ?_) fun _ _ z => z⟩
  exact ⟨O, ds, h1.same s1, r1, post_mono h4 (fun d q v H' s r => q v H' (s1.trans s) r) fun _ _ z => z⟩
/-- a built-in function -/
theorem e_bi {id : String} {p : List D → M D} {x : Str} {pp pos : Pos} {e : Expr} {es : List Expr} {cs : List Ex} (hc : CallR X (.builtin id) (rPr X.prog X.w X.K p)) (hg : Gl X x) (hm : X.mg x = none) (hv : bootBuiltins x = some (.builtin id)) (ha : HAB X (e :: es) cs)
    (hn : x ≠ "__name__") (hdb : (x == ("__debug__" : Str)) = false) (he : starEach (e :: es) X.env = (false, eval e X.env) :: starEach es X.env) (hpl : (backTo pos (starEach es X.env)).any (·.1) = false) : HE X (.Call (.Name x pp) (e :: es) [] pos) (ePrim p cs) :=
  (pe_callB hc hg hm hv ha hn hdb he hpl).imp fun σ H Q h => prim_imp h
theorem e_ty {T : String} {p : List D → M D} {x : Str} {pp pos : Pos} {e : Expr} {es : List Expr} {cs : List Ex} (hc : CallR X (.type T) (rPr X.prog X.w X.K p)) (hg : Gl X x) (hm : X.mg x = none) (hv : bootBuiltins x = some (.type T)) (ha : HAB X (e :: es) cs)
    (hn : x ≠ "__name__") (hdb : (x == ("__debug__" : Str)) = false) (he : starEach (e :: es) X.env = (false, eval e X.env) :: starEach es X.env) (hpl : (backTo pos (starEach es X.env)).any (·.1) = false) : HE X (.Call (.Name x pp) (e :: es) [] pos) (ePrim p cs) :=
  (pe_callTy hc hg hm hv ha hn hdb he hpl).imp fun σ H Q h => prim_imp h
end
end PV
/-! sorting, least and greatest -/
namespace PV
open PySem PySem.Spec PyProof.Rows L2
/-! ### insertion is the stable sort -/
section
variable {lt lt' : D → D → Bool}
theorem insD_congr {x : D} : ∀ {l : List D}, (∀ a ∈ l, lt a x = lt' a x) → insD lt x l = insD lt' x l
  | [], _ => rfl
  | y :: r, h => by
    unfold insD
    rw [h y List.mem_cons_self, insD_congr fun a ha => h a (List.mem_cons_of_mem _ ha)]
theorem sortD_congr : ∀ {l : List D}, (∀ a ∈ l, ∀ b ∈ l, lt a b = lt' a b) → sortD lt l = sortD lt' l
  | [], _ => rfl
  | x :: r, h => by
    show insD lt x (sortD lt r) = insD lt' x (sortD lt' r)
    rw [sortD_congr fun a ha b hb => h a (List.mem_cons_of_mem _ ha) b (List.mem_cons_of_mem _ hb)]
    exact insD_congr fun a ha => h a (List.mem_cons_of_mem _ (mem_sortD.mp ha)) x List.mem_cons_self
theorem length_insD {x : D} : ∀ {l : List D}, (insD lt x l).length = l.length + 1
  | [] => rfl
  | y :: r => by
    unfold insD
    by_cases h : lt y x = true
    · rw [if_pos h, List.length_cons, length_insD, List.length_cons]
    · rw [if_neg h]; rfl
theorem length_sortD : ∀ {l : List D}, (sortD lt l).length = l.length
  | [] => rfl
  | x :: r => by
    show (insD lt x (sortD lt r)).length = _
    rw [length_insD, length_sortD, List.length_cons]
/-- le is not the other way less -/
theorem insD_up {le : D → D → Bool} (ht : PySem.W.TotalLe le) (e : ∀ a b, le a b = !lt b a) {x : D} : ∀ {l : List D}, l.Pairwise (fun a b => le a b = true) → (insD lt x l).Pairwise (fun a b => le a b = true)
  | [], _ => by simp [insD]
  | y :: r, h => by
    rw [List.pairwise_cons] at h
    unfold insD
    by_cases c : lt y x = true
    · rw [if_pos c, List.pairwise_cons]
      refine ⟨fun a ha => ?_, insD_up ht e h.2⟩
      rcases mem_insD.mp ha with rfl | ha
      · have q : le a y = false := by rw [e, c]; rfl
        exact (ht.total y a).elim id fun z => by rw [q] at z; cases z
      · exact h.1 a ha
    · rw [if_neg c, List.pairwise_cons]
      have xy : le x y = true := by
        rw [e]
        cases q : lt y x with
        | true => exact absurd q c
        | false => rfl
      refine ⟨fun a ha => ?_, List.pairwise_cons.mpr h⟩
      rcases List.mem_cons.mp ha with rfl | ha
      · exact xy
      · exact ht.trans _ _ _ xy (h.1 a ha)
theorem insD_keep {le : D → D → Bool} (ht : PySem.W.TotalLe le) (e : ∀ a b, le a b = !lt b a) {x c : D} : ∀ {l : List D}, (insD lt x l).filter (PySem.W.sameRank le c) = (x :: l).filter (PySem.W.sameRank le c)
  | [] => rfl
  | y :: r => by
    unfold insD
    by_cases k : lt y x = true
    · rw [if_pos k, List.filter_cons, insD_keep ht e]
      have xy : le x y = false := by rw [e, k]; rfl
      simp only [List.filter_cons]
      cases hx : PySem.W.sameRank le c x with
      | false => simp
      | true =>
        cases hy : PySem.W.sameRank le c y with
        | false => simp
        | true =>
          unfold PySem.W.sameRank at hx hy
          rw [Bool.and_eq_true] at hx hy
          have := ht.trans _ _ _ hx.2 hy.1
          rw [xy] at this; cases this
    · rw [if_neg k]
theorem sortD_eq {le : D → D → Bool} (ht : PySem.W.TotalLe le) (e : ∀ a b, le a b = !lt b a) (l : List D) : sortD lt l = l.mergeSort le := by
  refine PySem.W.sort_unique ht ?_ fun c => ?_
  · induction l with
    | nil => exact List.Pairwise.nil
    | cons x r ih => exact insD_up ht e ih
  · induction l with
    | nil => rfl
    | cons x r ih =>
      show (insD lt x (sortD lt r)).filter _ = _
      rw [insD_keep ht e, List.filter_cons, List.filter_cons, ih]
end
theorem alk_of_all {l : List D} (h : allAlk l = true) {a b : D} (ha : a ∈ l) (hb : b ∈ l) : alk a b = true :=
  List.all_eq_true.mp (List.all_eq_true.mp h a ha) b hb
theorem flat_of_all {l : List D} (h : allAlk l = true) : flatL l = true := by
  have q : ∀ a ∈ l, flat a = true := fun a ha => flat_of_alk a (alk_of_all h ha ha)
  clear h
  induction l with
  | nil => rfl
  | cons x r ih =>
    simp only [flatL, Bool.and_eq_true]
    exact ⟨q x List.mem_cons_self, ih fun a ha => q a (List.mem_cons_of_mem _ ha)⟩
theorem dep_mem : ∀ {l : List D} {a : D}, a ∈ l → dep a ≤ depL l
  | x :: r, a, h => by
    simp only [depL]
    rcases List.mem_cons.mp h with rfl | h
    · exact Nat.le_max_left _ _
    · exact Nat.le_trans (dep_mem h) (Nat.le_max_right _ _)
theorem py_sortable {l : List D} (hf : flatL l = true) (h : sortable l = true) : PySem.W.Sortable (l.map toPy) := by
  unfold sortable at h
  rw [Bool.or_eq_true] at h
  have fl : ∀ {m : List D}, flatL m = true → ∀ a ∈ m, flat a = true := by
    intro m
    induction m with
    | nil => intro _ a ha; cases ha
    | cons x r ih =>
      intro hm a ha
      simp only [flatL, Bool.and_eq_true] at hm
      rcases List.mem_cons.mp ha with rfl | ha
      · exact hm.1
      · exact ih hm.2 a ha
  rcases h with h | h
  · refine .inl fun d hd => ?_
    obtain ⟨a, ha, rfl⟩ := List.mem_map.mp hd
    have q := List.all_eq_true.mp h a ha
    cases a with
    | tup m =>
      cases m with
      | nil => simp [headTup] at q
      | cons y r => exact ⟨toPy y, toPys r, by rw [toPy, toPys]⟩
    | _ => simp [headTup] at q
  · refine .inr fun d hd => ?_
    obtain ⟨a, ha, rfl⟩ := List.mem_map.mp hd
    have q := List.all_eq_true.mp h a ha
    have qf := fl hf a ha
    cases a with
    | tup m => simp [notTup] at q
    | non => simp [notTup] at q
    | dct _ => simp [flat] at qf
    | w => simp [flat] at qf
    | scr _ => simp [flat] at qf
    | bl _ => exact ⟨fun e => by simp [toPy] at e, fun xs e => by simp [toPy] at e⟩
    | int _ => exact ⟨fun e => by simp [toPy] at e, fun xs e => by simp [toPy] at e⟩
    | str _ => exact ⟨fun e => by simp [toPy] at e, fun xs e => by simp [toPy] at e⟩
    | lst _ => exact ⟨fun e => by simp [toPy] at e, fun xs e => by simp [toPy] at e⟩
theorem py_sort {l : List D} (h : allAlk l = true) : l.mergeSort (PySem.W.dataLe false toPy) = sortD ltD l := by
  have e1 : sortD (fun a b => PySem.W.dataLt (toPy a) (toPy b)) l = l.mergeSort (PySem.W.dataLe false toPy) :=
    sortD_eq (le := PySem.W.dataLe false toPy) (lt := fun a b => PySem.W.dataLt (toPy a) (toPy b)) (PySem.W.sortLe_total (PyProof.Rows.listOrd itemOrd) false fun b => PySem.W.keyToks (toPy b)) (fun a b => rfl) l
  rw [← e1]
  exact sortD_congr fun a ha b hb => lt_toPy a b (alk_of_all h ha hb)
/-- each value with what it stands for -/
theorem each_of {P : Program} {w : World} {K : PySem.W.Frag} {H : Hp} {O : Addr → Prop} : ∀ {ds : List D} {vs : List V} {us : List Value}, RepL P w K H O ds vs → Vals vs us → PySem.W.EachIs (fun u d => ∃ v, RelV v u ∧ Rep P w K H O d v) us ds
  | [], _, _, h, r => by
    cases h
    cases r
    exact .nil
  | d :: ds, _, _, ⟨v, r, e, h1, h2⟩, q => by
    subst e
    cases q with
    | cons q1 q2 => exact .cons ⟨v, q1, h1⟩ (each_of h2 q2)
theorem of_each {P : Program} {w : World} {K : PySem.W.Frag} {H : Hp} {O : Addr → Prop} : ∀ {ds : List D} {us : List Value}, PySem.W.EachIs (fun u d => ∃ v, RelV v u ∧ Rep P w K H O d v) us ds → ∃ vs, Vals vs us ∧ RepL P w K H O ds vs
  | [], _, .nil => ⟨[], .nil, rfl⟩
  | d :: ds, _, .cons ⟨v, r, h⟩ t => by
    obtain ⟨vs, q1, q2⟩ := of_each t
    exact ⟨v :: vs, .cons r q1, v, vs, rfl, h, q2⟩
theorem each_reads {X : Cx} {pins : List (Addr × Obj)} {σ : L2.St} {H : Hp} {s : Shared} {O : Addr → Prop} (I : Inv X pins σ H s) : ∀ {ds : List D} {us : List Value}, flatL ds = true →
    PySem.W.EachIs (fun u d => ∃ v, RelV v u ∧ Rep X.prog X.w X.K H O d v) us ds → PySem.W.EachIs (fun u d => ∃ as, Reads s.heap u (toPy d) as) us ds
  | [], _, _, .nil => .nil
  | d :: ds, _, hf, .cons ⟨v, r, h⟩ t => by
    simp only [flatL, Bool.and_eq_true] at hf
    exact .cons (Rep.reads I d v _ hf.1 h r) (each_reads I hf.2 t)
section
variable {X : Cx} {H : Hp} {O : Addr → Prop}
/-- sorted(l), at the value -/
theorem sorted_at {pins : List (Addr × Obj)} {s : Shared} {σ : L2.St} {Q : VK} {a : Addr} {ds : List D} {vs : List V} (hu : X.A.units + 64 < cLine) (I : Inv X pins σ H s) (hD : Dom H O) (hl : H a = some (.lst vs)) (hr : RepL X.prog X.w X.K H O ds vs) (ho : ordOk ds)
    (h : ∀ v H', Same H H' → Rep X.prog X.w X.K H' O (.lst (sortD ltD ds)) v → Q v H') : wpAny (model X.prog X.w) X.A (call (.builtin "sorted") [.ref a]) (EP X pins σ Q) X.xe s := by
  obtain ⟨h1, h2, h3⟩ := ho
  have hf := flat_of_all h1
  obtain ⟨its, rv, pl, hz⟩ := I.list (SqL.of hl)
  have e := each_of hr rv
  have lds : ds.length = its.length := by rw [← hr.length, rv.length]
  refine PySem.W.sorted_data (bs := ds) (enc := toPy) pl.isList e (each_reads I hf e) (fun d hd d' hd' => ?_) (py_sortable hf h2) (by rw [lds, ← rv.length]; exact hz) (fun b hb => ?_) fun out hlen eo => ?_
  · obtain ⟨x, hx, rfl⟩ := List.mem_map.mp hd
    obtain ⟨y, hy, rfl⟩ := List.mem_map.mp hd'
    exact alike_toPy x y (alk_of_all h1 hx hy)
  · have hb' : flat b = true := flat_of_alk b (alk_of_all h1 hb hb)
    rw [depth_toPy b hb']
    have := dep_mem hb
    unfold DEP at h3
    omega
  · rw [py_sort h1] at eo
    obtain ⟨ws, q1, q2⟩ := of_each eo
    have hp : H (s.heap.objs.size + 1) = none := I.hok.fresh (Nat.le_succ _)
    obtain ⟨c, hc⟩ := PyProof.Rows.sortedAll_at s.heap its (List.toArray out)
    refine ⟨.ref (s.heap.objs.size + 1), _, I.laid (t' := s.toks) (o := .lst ws) (fun b ob q => PyProof.Rows.sortedAll_old q) (Nat.le_succ _) ?_, rfl, h _ _ (same_new hp) (rep_lst hD hp q2)⟩
    refine ⟨?_, out, c, q1, hc⟩
    rw [q1.length, hlen, lds, ← rv.length]
    exact hz
end
end PV
/-! built-in functions -/
namespace PV
open PySem PySem.Spec PyProof.Rows L2
mutual
theorem toPy_inj : ∀ (a b : D), flat a = true → flat b = true → toPy a = toPy b → a = b
  | .non, b, _, hb, e => by
    cases b with
    | non => rfl
    | dct _ => simp [flat] at hb
    | w => simp [flat] at hb
    | scr _ => simp [flat] at hb
    | _ => simp [toPy] at e
  | .bl x, b, _, _, e => by
    cases b with
    | bl y => simp only [toPy, PyData.bool.injEq] at e; rw [e]
    | _ => simp [toPy] at e
  | .int x, b, _, _, e => by
    cases b with
    | int y => simp only [toPy, PyData.int.injEq] at e; rw [e]
    | _ => simp [toPy] at e
  | .str x, b, _, _, e => by
    cases b with
    | str y => simp only [toPy, PyData.str.injEq] at e; rw [e]
    | _ => simp [toPy] at e
  | .tup x, b, ha, hb, e => by
    cases b with
    | tup y =>
      simp only [toPy, PyData.tuple.injEq] at e
      simp only [flat] at ha hb
      rw [toPys_inj x y ha hb e]
    | _ => simp [toPy] at e
  | .lst x, b, ha, hb, e => by
    cases b with
    | lst y =>
      simp only [toPy, PyData.list.injEq] at e
      simp only [flat] at ha hb
      rw [toPys_inj x y ha hb e]
    | _ => simp [toPy] at e
  | .dct _, _, ha, _, _ => by simp [flat] at ha
  | .w, _, ha, _, _ => by simp [flat] at ha
  | .scr _, _, ha, _, _ => by simp [flat] at ha
termination_by structural a => a
theorem toPys_inj : ∀ (a b : List D), flatL a = true → flatL b = true → toPys a = toPys b → a = b
  | [], b, _, _, e => by
    cases b with
    | nil => rfl
    | cons y ys => simp [toPys] at e
  | x :: xs, b, ha, hb, e => by
    cases b with
    | nil => simp [toPys] at e
    | cons y ys =>
      simp only [toPys, List.cons.injEq] at e
      simp only [flatL, Bool.and_eq_true] at ha hb
      rw [toPy_inj x y ha.1 hb.1 e.1, toPys_inj xs ys ha.2 hb.2 e.2]
termination_by structural a => a
end
theorem flatL_mem : ∀ {l : List D} {a : D}, flatL l = true → a ∈ l → flat a = true
  | x :: r, a, h, m => by
    simp only [flatL, Bool.and_eq_true] at h
    rcases List.mem_cons.mp m with rfl | m
    · exact h.1
    · exact flatL_mem h.2 m
theorem firstLt_mem {lt : D → D → Bool} : ∀ (r : List D) (x : D), firstLt lt x r ∈ x :: r
  | [], x => List.mem_cons_self
  | y :: r, x => by
    show firstLt lt (if lt y x then y else x) r ∈ _
    have := firstLt_mem (lt := lt) r (if lt y x then y else x)
    rcases List.mem_cons.mp this with h | h
    · rw [h]
      cases lt y x <;> simp
    · exact List.mem_cons_of_mem _ (List.mem_cons_of_mem _ h)
theorem py_min : ∀ (r : List D) (x : D), allAlk (x :: r) = true → PySem.W.minD (toPy x) (toPys r) = toPy (firstLt ltD x r) := by
  intro r
  unfold PySem.W.minD
  induction r with
  | nil => intro x _; rfl
  | cons y r ih =>
    intro x h
    have hyx : alk y x = true := alk_of_all h (List.mem_cons_of_mem _ List.mem_cons_self) List.mem_cons_self
    rw [toPys, List.foldl_cons]
    show List.foldl _ (if PySem.W.dataLt (toPy y) (toPy x) = true then toPy y else toPy x) _ = toPy (firstLt ltD (if ltD y x then y else x) r)
    rw [lt_toPy y x hyx, ← ih]
    · congr 1
      cases ltD y x <;> rfl
    · refine List.all_eq_true.mpr fun a ha => List.all_eq_true.mpr fun b hb => alk_of_all h ?_ ?_
      · rcases List.mem_cons.mp ha with e | ha
        · rw [e]; cases ltD y x <;> simp
        · exact List.mem_cons_of_mem _ (List.mem_cons_of_mem _ ha)
      · rcases List.mem_cons.mp hb with e | hb
        · rw [e]; cases ltD y x <;> simp
        · exact List.mem_cons_of_mem _ (List.mem_cons_of_mem _ hb)
theorem py_max : ∀ (r : List D) (x : D), allAlk (x :: r) = true → PySem.W.maxD (toPy x) (toPys r) = toPy (firstLt (fun a b => ltD b a) x r) := by
  intro r
  unfold PySem.W.maxD
  induction r with
  | nil => intro x _; rfl
  | cons y r ih =>
    intro x h
    have hxy : alk x y = true := alk_of_all h List.mem_cons_self (List.mem_cons_of_mem _ List.mem_cons_self)
    rw [toPys, List.foldl_cons]
    show List.foldl _ (if PySem.W.dataLt (toPy x) (toPy y) = true then toPy y else toPy x) _ = toPy (firstLt (fun a b => ltD b a) (if ltD x y then y else x) r)
    rw [lt_toPy x y hxy, ← ih]
    · congr 1
      cases ltD x y <;> rfl
    · refine List.all_eq_true.mpr fun a ha => List.all_eq_true.mpr fun b hb => alk_of_all h ?_ ?_
      · rcases List.mem_cons.mp ha with e | ha
        · rw [e]; cases ltD x y <;> simp
        · exact List.mem_cons_of_mem _ (List.mem_cons_of_mem _ ha)
      · rcases List.mem_cons.mp hb with e | hb
        · rw [e]; cases ltD x y <;> simp
        · exact List.mem_cons_of_mem _ (List.mem_cons_of_mem _ hb)
theorem py_alikeAll {l : List D} (h : allAlk l = true) (hn : l.all notNon = true) : PySem.W.AlikeAll (toPys l) := by
  rw [toPys_map]
  refine ⟨fun x hx y hy => ?_, fun x hx => ?_⟩
  · obtain ⟨a, ha, rfl⟩ := List.mem_map.mp hx
    obtain ⟨b, hb, rfl⟩ := List.mem_map.mp hy
    exact alike_toPy a b (alk_of_all h ha hb)
  · obtain ⟨a, ha, rfl⟩ := List.mem_map.mp hx
    exact py_notNon (flat_of_alk a (alk_of_all h ha ha)) (List.all_eq_true.mp hn a ha)
section
variable {X : Cx} {H : Hp} {O : Addr → Prop}
theorem vals_one {x : V} {us : List Value} (r : Vals [x] us) : ∃ u, us = [u] ∧ RelV x u := vals1 r
theorem bl1 {d : D} {xs : List V} (h : RepBL X.prog X.w X.K H O [d] xs) : ∃ v, xs = [v] ∧ RepB X.prog X.w X.K H O d v := by
  obtain ⟨v, r, e, h1, h2⟩ := h
  cases h2
  exact ⟨v, e, h1⟩
theorem bl2 {d d' : D} {xs : List V} (h : RepBL X.prog X.w X.K H O [d, d'] xs) : ∃ v v', xs = [v, v'] ∧ RepB X.prog X.w X.K H O d v ∧ RepB X.prog X.w X.K H O d' v' := by
  obtain ⟨v, r, e, h1, h2⟩ := h
  obtain ⟨v', e', h3⟩ := bl1 h2
  subst e'
  exact ⟨v, v', e, h1, h3⟩
/-- the item that was found among those that stand -/
theorem found {pins : List (Addr × Obj)} {s : Shared} {σ : L2.St} {ds : List D} {vs : List V} {its : List Value} {i : Nat} {u : Value} {h' : Heap} {d : D} {bs : List Addr} (I : Inv X pins σ H s) (hf : flatL ds = true) (hr : RepL X.prog X.w X.K H O ds vs) (rv : Vals vs its)
    (hi : its[i]? = some u) (hk : ∀ b o, s.heap.get? b = some o → h'.get? b = some o) (hd : d ∈ ds) (q : Reads h' u (toPy d) bs) : ∃ v, RelV v u ∧ Rep X.prog X.w X.K H O d v := by
  have hv : i < vs.length := by
    rw [rv.length]
    exact (List.getElem?_eq_some_iff.mp hi).1
  obtain ⟨x, hx⟩ : ∃ x, ds[i]? = some x := ⟨ds[i]'(by rw [← hr.length]; exact hv), List.getElem?_eq_getElem _⟩
  obtain ⟨v, e1, e2⟩ := hr.get hx
  obtain ⟨u', e3, e4⟩ := rv.get e1
  rw [hi] at e3
  cases e3
  have fx : flat x = true := flatL_mem hf (List.mem_of_getElem? hx)
  obtain ⟨as, q2⟩ := Rep.reads I x v u fx e2 e4
  have q3 : Reads h' u (toPy x) as := PySem.W.reads_keeps hk q2
  have := PySem.SeqAt.plain_unique _ _ _ _ _ (plain_toPy x fx) q3 q
  have fd := flatL_mem hf hd
  rw [← toPy_inj x d fx fd this]
  exact ⟨v, e4, e2⟩
theorem room_min {A : Around} {n : Nat} (hu : A.units + 64 < cLine) (h : n ≤ DEP) : A.units + 1 + n < cLine := by
  unfold DEP at h
  omega
theorem c_min (hc : X.calm = true) (hu : X.A.units + 64 < cLine) : CallR X (.builtin "min") (rPr X.prog X.w X.K pMin) := by
  intro pins s σ H xs us Q I r h
  obtain ⟨O, ds, hD, hb, h⟩ := h
  match ds, hb, h with
  | [], _, h => exact h.elim
  | [x], hb, h =>
    obtain ⟨v, rfl, hx⟩ := bl1 hb
    obtain ⟨u, rfl, rx⟩ := vals_one r
    cases x with
    | lst l =>
      cases l with
      | nil => exact h.elim
      | cons y rr =>
        simp only [pMin, isSeq, post_ck] at h
        obtain ⟨⟨h1, h2, h3⟩, h⟩ := h
        obtain ⟨p, vs, rfl, hl, hr⟩ := hx
        cases rx
        have hf := flat_of_all h1
        obtain ⟨its, rv, pl, _⟩ := I.list (SqL.of hl)
        obtain ⟨as, q⟩ := RepL.reads I _ _ _ hf hr rv
        refine PySem.W.min_list_data (I.ok.hd hc) pl.isList (by have q' := q; rw [toPys] at q'; simpa using q') (py_alikeAll h1 h2) (by rw [← toPys, depth_toPys _ hf]; exact room_min hu h3) fun i u h' tk bs hi q2 hk => ?_
        rw [py_min rr y h1] at q2
        obtain ⟨v, rv', rd⟩ := found I hf hr rv (by simpa using hi) hk (firstLt_mem rr y) q2
        exact ⟨v, H, I.kept hk, rv', h v H (Same.refl H) rd⟩
    | tup l =>
      cases l with
      | nil => exact h.elim
      | cons y rr =>
        simp only [pMin, isSeq, post_ck] at h
        obtain ⟨⟨h1, h2, h3⟩, h⟩ := h
        obtain ⟨p, vs, rfl, hl, hr⟩ := hx
        cases rx
        have hf := flat_of_all h1
        obtain ⟨its, rv, pl, _⟩ := I.tuple hl
        obtain ⟨as, q⟩ := RepL.reads I _ _ _ hf hr rv
        refine PySem.W.min_tuple_data (I.ok.hd hc) pl (by have q' := q; rw [toPys] at q'; simpa using q') (py_alikeAll h1 h2) (by rw [← toPys, depth_toPys _ hf]; exact room_min hu h3) fun i u h' tk bs hi q2 hk => ?_
        rw [py_min rr y h1] at q2
        obtain ⟨v, rv', rd⟩ := found I hf hr rv (by simpa using hi) hk (firstLt_mem rr y) q2
        exact ⟨v, H, I.kept hk, rv', h v H (Same.refl H) rd⟩
    | _ => exact h.elim
  | [x, y], hb, h => exact h.elim
  | _ :: _ :: _ :: _, _, h => exact h.elim
theorem c_max (hc : X.calm = true) (hu : X.A.units + 64 < cLine) : CallR X (.builtin "max") (rPr X.prog X.w X.K pMax) := by
  intro pins s σ H xs us Q I r h
  obtain ⟨O, ds, hD, hb, h⟩ := h
  match ds, hb, h with
  | [], _, h => exact h.elim
  | [x], hb, h =>
    obtain ⟨v, rfl, hx⟩ := bl1 hb
    obtain ⟨u, rfl, rx⟩ := vals_one r
    cases x with
    | lst l =>
      cases l with
      | nil => exact h.elim
      | cons y rr =>
        simp only [pMax, isSeq, post_ck] at h
        obtain ⟨⟨h1, h2, h3⟩, h⟩ := h
        obtain ⟨p, vs, rfl, hl, hr⟩ := hx
        cases rx
        have hf := flat_of_all h1
        obtain ⟨its, rv, pl, _⟩ := I.list (SqL.of hl)
        obtain ⟨as, q⟩ := RepL.reads I _ _ _ hf hr rv
        refine PySem.W.max_list_data (I.ok.hd hc) pl.isList (by have q' := q; rw [toPys] at q'; simpa using q') (py_alikeAll h1 h2) (by rw [← toPys, depth_toPys _ hf]; exact room_min hu h3) fun i u h' tk bs hi q2 hk => ?_
        rw [py_max rr y h1] at q2
        obtain ⟨v, rv', rd⟩ := found I hf hr rv (by simpa using hi) hk (firstLt_mem rr y) q2
        exact ⟨v, H, I.kept hk, rv', h v H (Same.refl H) rd⟩
    | tup l =>
      cases l with
      | nil => exact h.elim
      | cons y rr =>
        simp only [pMax, isSeq, post_ck] at h
        obtain ⟨⟨h1, h2, h3⟩, h⟩ := h
        obtain ⟨p, vs, rfl, hl, hr⟩ := hx
        cases rx
        have hf := flat_of_all h1
        obtain ⟨its, rv, pl, _⟩ := I.tuple hl
        obtain ⟨as, q⟩ := RepL.reads I _ _ _ hf hr rv
        refine PySem.W.max_tuple_data (I.ok.hd hc) pl (by have q' := q; rw [toPys] at q'; simpa using q') (py_alikeAll h1 h2) (by rw [← toPys, depth_toPys _ hf]; exact room_min hu h3) fun i u h' tk bs hi q2 hk => ?_
        rw [py_max rr y h1] at q2
        obtain ⟨v, rv', rd⟩ := found I hf hr rv (by simpa using hi) hk (firstLt_mem rr y) q2
        exact ⟨v, H, I.kept hk, rv', h v H (Same.refl H) rd⟩
    | _ => exact h.elim
  | [x, y], hb, h => exact h.elim
  | _ :: _ :: _ :: _, _, h => exact h.elim
theorem c_len : CallR X (.builtin "len") (rPr X.prog X.w X.K pLen) := by
  intro pins s σ H xs us Q I r h
  obtain ⟨O, ds, hD, hb, h⟩ := h
  match ds, hb, h with
  | [], _, h => exact h.elim
  | [x], hb, h =>
    obtain ⟨v, rfl, hx⟩ := bl1 hb
    cases x with
    | lst l =>
      obtain ⟨p, vs, rfl, hl, hr⟩ := hx
      exact call_len_seq pins s σ H _ us Q I r ⟨p, vs, rfl, .inl (SqL.of hl), by rw [hr.length]; exact h _ H (Same.refl H) rfl⟩
    | tup l =>
      obtain ⟨p, vs, rfl, hl, hr⟩ := hx
      exact call_len_seq pins s σ H _ us Q I r ⟨p, vs, rfl, .inr hl, by rw [hr.length]; exact h _ H (Same.refl H) rfl⟩
    | scr l =>
      obtain ⟨p, rfl, hl⟩ := hx
      exact call_len_seq pins s σ H _ us Q I r ⟨p, _, rfl, .inl hl.sq, by rw [List.length_map]; exact h _ H (Same.refl H) rfl⟩
    | str a =>
      simp only [pLen, post_ck] at h
      have hx : v = .str a := hx
      subst hx
      exact call_len pins s σ H _ us Q I r ⟨_, a.cps.size, rfl, ⟨lim_size h.1, rfl⟩, h.2 _ H (Same.refl H) rfl⟩
    | _ => exact h.elim
  | x :: _ :: _, _, h => cases x <;> exact h.elim
theorem c_abs : CallR X (.builtin "abs") (rPr X.prog X.w X.K pAbs) := by
  intro pins s σ H xs us Q I r h
  obtain ⟨O, ds, hD, hb, h⟩ := h
  match ds, hb, h with
  | [], _, h => exact h.elim
  | [x], hb, h =>
    obtain ⟨v, rfl, hx⟩ := bl1 hb
    cases x with
    | int i =>
      have hx : v = .int i := hx
      subst hx
      exact call_abs pins s σ H _ us Q I r ⟨i, rfl, h _ H (Same.refl H) rfl⟩
    | _ => exact h.elim
  | x :: _ :: _, _, h => cases x <;> exact h.elim
theorem c_int : CallR X (.type "int") (rPr X.prog X.w X.K pInt) := by
  intro pins s σ H xs us Q I r h
  obtain ⟨O, ds, hD, hb, h⟩ := h
  match ds, hb, h with
  | [], _, h => exact h.elim
  | [x], hb, h =>
    obtain ⟨v, rfl, hx⟩ := bl1 hb
    cases x with
    | int i =>
      have hx : v = .int i := hx
      subst hx
      exact call_int1 pins s σ H _ us Q I r (.inl ⟨i, rfl, h _ H (Same.refl H) rfl⟩)
    | bl b =>
      have hx : v = .bl b := hx
      subst hx
      exact call_int1 pins s σ H _ us Q I r (.inr ⟨b, rfl, h _ H (Same.refl H) rfl⟩)
    | _ => exact h.elim
  | x :: _ :: _, _, h => cases x <;> exact h.elim
theorem ints_rep : ∀ {l : List D} {ns : List Int} {vs : List V}, intsOf l = some ns → RepL X.prog X.w X.K H O l vs → vs = ns.map V.int
  | [], ns, vs, e, h => by
    cases e
    cases h
    rfl
  | x :: r, ns, vs, e, h => by
    obtain ⟨v, w, rfl, h1, h2⟩ := h
    cases x with
    | int i =>
      simp only [intsOf] at e
      cases q : intsOf r with
      | none => rw [q] at e; cases e
      | some ms =>
        rw [q] at e
        cases e
        rw [List.map_cons, ints_rep q h2]
        exact congrArg (· :: _) h1
    | _ => simp [intsOf] at e
theorem bls_rep : ∀ {l : List D} {ns : List Bool} {vs : List V}, blsOf l = some ns → RepL X.prog X.w X.K H O l vs → vs = ns.map V.bl
  | [], ns, vs, e, h => by
    cases e
    cases h
    rfl
  | x :: r, ns, vs, e, h => by
    obtain ⟨v, w, rfl, h1, h2⟩ := h
    cases x with
    | bl i =>
      simp only [blsOf] at e
      cases q : blsOf r with
      | none => rw [q] at e; cases e
      | some ms =>
        rw [q] at e
        cases e
        rw [List.map_cons, bls_rep q h2]
        exact congrArg (· :: _) h1
    | _ => simp [blsOf] at e
theorem c_any (hc : X.calm = true) : CallR X (.builtin "any") (rPr X.prog X.w X.K pAny) := by
  intro pins s σ H xs us Q I r h
  obtain ⟨O, ds, hD, hb, h⟩ := h
  match ds, hb, h with
  | [], _, h => exact h.elim
  | [x], hb, h =>
    obtain ⟨v, rfl, hx⟩ := bl1 hb
    cases x with
    | lst l =>
      simp only [pAny] at h
      cases e : blsOf l with
      | none => rw [e] at h; exact h.elim
      | some bs =>
        rw [e] at h
        obtain ⟨p, vs, rfl, hl, hr⟩ := hx
        have := bls_rep e hr
        subst this
        exact cr_any hc pins s σ H _ us Q I r ⟨p, bs, rfl, SqL.of hl, h _ H (Same.refl H) rfl⟩
    | _ => exact h.elim
  | x :: _ :: _, _, h => cases x <;> exact h.elim
theorem c_all (hc : X.calm = true) : CallR X (.builtin "all") (rPr X.prog X.w X.K pAll) := by
  intro pins s σ H xs us Q I r h
  obtain ⟨O, ds, hD, hb, h⟩ := h
  match ds, hb, h with
  | [], _, h => exact h.elim
  | [x], hb, h =>
    obtain ⟨v, rfl, hx⟩ := bl1 hb
    cases x with
    | lst l =>
      simp only [pAll] at h
      cases e : blsOf l with
      | none => rw [e] at h; exact h.elim
      | some bs =>
        rw [e] at h
        obtain ⟨p, vs, rfl, hl, hr⟩ := hx
        have := bls_rep e hr
        subst this
        exact cr_all hc pins s σ H _ us Q I r ⟨p, bs, rfl, SqL.of hl, h _ H (Same.refl H) rfl⟩
    | _ => exact h.elim
  | x :: _ :: _, _, h => cases x <;> exact h.elim
theorem c_sum (hc : X.calm = true) : CallR X (.builtin "sum") (rPr X.prog X.w X.K pSum) := by
  intro pins s σ H xs us Q I r h
  obtain ⟨O, ds, hD, hb, h⟩ := h
  match ds, hb, h with
  | [], _, h => exact h.elim
  | [x], hb, h =>
    obtain ⟨v, rfl, hx⟩ := bl1 hb
    cases x with
    | lst l =>
      simp only [pSum] at h
      cases e : intsOf l with
      | none => rw [e] at h; exact h.elim
      | some ns =>
        rw [e] at h
        obtain ⟨p, vs, rfl, hl, hr⟩ := hx
        have := ints_rep e hr
        subst this
        exact cr_sum hc pins s σ H _ us Q I r ⟨p, ns, rfl, SqL.of hl, h _ H (Same.refl H) rfl⟩
    | _ => exact h.elim
  | x :: _ :: _, _, h => cases x <;> exact h.elim
theorem c_tuple : CallR X (.type "tuple") (rPr X.prog X.w X.K pTuple) := by
  intro pins s σ H xs us Q I r h
  obtain ⟨O, ds, hD, hb, h⟩ := h
  match ds, hb, h with
  | [], _, h => exact h.elim
  | [x], hb, h =>
    obtain ⟨v, rfl, hx⟩ := bl1 hb
    cases x with
    | lst l =>
      obtain ⟨p, vs, rfl, hl, hr⟩ := hx
      exact call_tuple_of pins s σ H _ us Q I r ⟨p, vs, rfl, .inl ⟨SqL.of hl, fun z hz => h _ _ (same_new hz) (rep_tup hz hr)⟩⟩
    | tup l =>
      obtain ⟨p, vs, rfl, hl, hr⟩ := hx
      exact call_tuple_of pins s σ H _ us Q I r ⟨p, vs, rfl, .inr ⟨hl, h _ H (Same.refl H) ⟨p, vs, rfl, hl, hr⟩⟩⟩
    | _ => exact h.elim
  | x :: _ :: _, _, h => cases x <;> exact h.elim
theorem c_list : CallR X (.type "list") (rPr X.prog X.w X.K pList) := by
  intro pins s σ H xs us Q I r h
  obtain ⟨O, ds, hD, hb, h⟩ := h
  match ds, hb, h with
  | [], _, h => exact h.elim
  | [x], hb, h =>
    obtain ⟨v, rfl, hx⟩ := bl1 hb
    cases x with
    | lst l =>
      obtain ⟨p, vs, rfl, hl, hr⟩ := hx
      exact call_list_of pins s σ H _ us Q I r ⟨p, vs, rfl, .inl (SqL.of hl), fun z hz => h _ _ (same_new hz) (rep_lst hD hz hr)⟩
    | tup l =>
      obtain ⟨p, vs, rfl, hl, hr⟩ := hx
      exact call_list_of pins s σ H _ us Q I r ⟨p, vs, rfl, .inr hl, fun z hz => h _ _ (same_new hz) (rep_lst hD hz hr)⟩
    | _ => exact h.elim
  | x :: _ :: _, _, h => cases x <;> exact h.elim
theorem c_sorted (hu : X.A.units + 64 < cLine) : CallR X (.builtin "sorted") (rPr X.prog X.w X.K pSorted) := by
  intro pins s σ H xs us Q I r h
  obtain ⟨O, ds, hD, hb, h⟩ := h
  match ds, hb, h with
  | [], _, h => exact h.elim
  | [x], hb, h =>
    obtain ⟨v, rfl, hx⟩ := bl1 hb
    obtain ⟨u, rfl, rx⟩ := vals_one r
    cases x with
    | lst l =>
      simp only [pSorted, post_ck] at h
      obtain ⟨p, vs, rfl, hl, hr⟩ := hx
      cases rx
      exact sorted_at hu I hD hl hr h.1 h.2
    | _ => exact h.elim
  | x :: _ :: _, _, h => cases x <;> exact h.elim
end
end PV
/-! what is walked; list comprehensions -/
namespace PV
open PySem PySem.Spec PyProof.Rows L2
/-- later: what is not of O stands; what is kept out now was kept out or was nothing -/
structure Pres (H : Hp) (O : Addr → Prop) (H' : Hp) (O' : Addr → Prop) : Prop where
  st : ∀ a o, ¬ O a → H a = some o → H' a = some o
  no : ∀ a, O' a → O a ∨ H a = none
/-- the same, nothing changed at all -/
structure PresS (H : Hp) (O : Addr → Prop) (H' : Hp) (O' : Addr → Prop) : Prop where
  st : Same H H'
  no : ∀ a, O' a → O a ∨ H a = none
theorem PresS.pres {H H' : Hp} {O O' : Addr → Prop} (h : PresS H O H' O') : Pres H O H' O' := ⟨fun a o _ e => h.st a o e, h.no⟩
section
variable {P : Program} {w : World} {K : PySem.W.Frag} {H H' : Hp} {O O' : Addr → Prop}
theorem Pres.out (h : Pres H O H' O') {a : Addr} {o : HO} (n : ¬ O a) (e : H a = some o) : ¬ O' a := fun z => (h.no a z).elim n (some_no e)
theorem Pres.carry (hD : Dom H O) (h : Pres H O H' O') : Carry K H H' O O' where
  tup := fun a xs q => by
    rcases q with q | q
    · have n : ¬ O a := fun z => by
        obtain ⟨u, e, c⟩ := hD a z
        rcases q with q | ⟨v, q⟩ <;> (rw [e] at q; cases q; cases c)
      rcases q with q | ⟨v, q⟩
      · exact .inl (.inl (h.st _ _ n q))
      · exact .inl (.inr ⟨v, h.st _ _ n q⟩)
    · exact .inr q
  lst := fun a xs n e => ⟨h.out n e, h.st _ _ n e⟩
  scr := fun a xs q => by
    rcases q with ⟨v, q⟩ | q
    · have n : ¬ O a := fun z => by
        obtain ⟨u, e, c⟩ := hD a z
        rw [e] at q; cases q; cases c
      exact .inl ⟨v, h.st _ _ n q⟩
    · exact .inr q
  obj := fun a o n e => ⟨h.out n e, h.st _ _ n e⟩
  ext := fun P w a l xs n n2 e e2 => ⟨h.out n e, h.out n2 e2, h.st _ _ n e, h.st _ _ n2 e2⟩
end
/-- the iterator walks these data, as long as the heap is of G -/
def Walks (P : Program) (w : World) (K : PySem.W.Frag) (J : It) (ds : List D) (G : Hp → (Addr → Prop) → Prop) : Prop :=
  ∀ (i : Nat) (H : Hp) (O : Addr → Prop), G H O → (∀ d, ds[i]? = some d → J.go i H ∧ ∀ x H', J.yld i H x H' → Same H H' ∧ Rep P w K H' O d x) ∧ (ds.length ≤ i → J.stop i H)
section
variable (P : Program) (w : World) (K : PySem.W.Frag)
def tI (c : Its) : TI := fun σ H R => ∃ O env, Dom H O ∧ RelX P w K H O σ env ∧ (c env).post (fun ds => ∀ J H', Same H H' → Walks P w K J ds (Pres H' O) → R J H') noE
/-- the same for a block, which writes nothing that stood before -/
def tIB (c : Its) : TI := fun σ H R => ∃ O env, Dom H O ∧ RelX P w K H O σ env ∧ (c env).post (fun ds => ∀ J H', Same H H' → Walks P w K J ds (PresS H' O) → R J H') noE
end
section
variable {X : Cx} {tg : Expr}
abbrev HI (X : Cx) (tg e : Expr) (c : Its) : Prop := PI X tg e (tI X.prog X.w X.K c)
abbrev HIB (X : Cx) (tg e : Expr) (c : Its) : Prop := PI X tg e (tIB X.prog X.w X.K c)
theorem _root_.L2.PI.imp {e : Expr} {t t' : TI} (h : PI X tg e t) (i : ∀ σ H R, t' σ H R → t σ H R) : PI X tg e t' := ⟨fun pins s σ H R I q => h.run pins s σ H R I (i σ H R q)⟩
theorem _root_.L2.PI.hib {e : Expr} {c : Its} (h : HI X tg e c) : HIB X tg e c := h.imp fun σ H R ⟨O, env, h1, h2, h3⟩ => ⟨O, env, h1, h2, post_mono h3 (fun ds q J H' s k => q J H' s fun i Hi Oi g => k i Hi Oi g.pres) fun _ _ z => z⟩
theorem walks_list {ds : List D} {vs : List V} {a : Addr} {H : Hp} {O : Addr → Prop} {G : Hp → (Addr → Prop) → Prop} (hD : Dom H O) (hr : RepL X.prog X.w X.K H O ds vs) (hG : ∀ Hi Oi, G Hi Oi → Pres H O Hi Oi ∧ Hi a = some (.lst vs)) :
    Walks X.prog X.w X.K (Itl X.K a) ds G := by
  intro i Hi Oi g
  obtain ⟨p, e⟩ := hG Hi Oi g
  refine ⟨fun d hd => ?_, fun hl => ⟨vs, SqL.of e, by rw [hr.length]; exact hl⟩⟩
  obtain ⟨v, e1, e2⟩ := hr.get hd
  refine ⟨⟨vs, v, SqL.of e, e1⟩, fun x H' y => ?_⟩
  obtain ⟨rfl, y⟩ := y
  have := y vs (SqL.of e)
  rw [e1] at this
  cases this
  exact ⟨Same.refl _, Rep.carry (p.carry hD) d v e2⟩
theorem walks_tup {ds : List D} {vs : List V} {a : Addr} {H : Hp} {O : Addr → Prop} {G : Hp → (Addr → Prop) → Prop} (hD : Dom H O) (hr : RepL X.prog X.w X.K H O ds vs) (hs : SqT X.K H a vs) (hG : ∀ Hi Oi, G Hi Oi → Pres H O Hi Oi) :
    Walks X.prog X.w X.K (Itt X.K a) ds G := by
  intro i Hi Oi g
  have p := hG Hi Oi g
  have e := (p.carry (K := X.K) hD).tup _ _ hs
  refine ⟨fun d hd => ?_, fun hl => ⟨vs, e, by rw [hr.length]; exact hl⟩⟩
  obtain ⟨v, e1, e2⟩ := hr.get hd
  refine ⟨⟨vs, v, e, e1⟩, fun x H' y => ?_⟩
  obtain ⟨rfl, y⟩ := y
  have := y vs e
  rw [e1] at this
  cases this
  exact ⟨Same.refl _, Rep.carry (p.carry hD) d v e2⟩
theorem walks_str {x : Str} {G : Hp → (Addr → Prop) → Prop} : Walks X.prog X.w X.K (L2.Its x) (x.cps.toList.map fun c => .str ⟨#[c]⟩) G := by
  intro i Hi Oi g
  refine ⟨fun d hd => ?_, fun hl => ?_⟩
  · rw [List.getElem?_map] at hd
    cases e : x.cps.toList[i]? with
    | none => rw [e] at hd; cases hd
    | some c =>
      rw [e] at hd
      cases hd
      have hlt : i < x.cps.size := by
        have := (List.getElem?_eq_some_iff.mp e).1
        simpa using this
      refine ⟨hlt, fun v H' y => ?_⟩
      obtain ⟨rfl, c', hc, rfl⟩ := y
      rw [← Array.getElem?_toList, e] at hc
      cases hc
      exact ⟨Same.refl _, rfl⟩
  · rw [List.length_map, Array.length_toList] at hl
    exact hl
theorem rng_get {lo : Int} {n : Nat} {c : Int} {i : Nat} {d : D} (h : (rng lo n c)[i]? = some d) : i < n ∧ d = .int (lo + (i : Nat) * c) := by
  unfold rng at h
  rw [List.getElem?_map] at h
  cases e : (List.range n)[i]? with
  | none => rw [e] at h; cases h
  | some k =>
    rw [e] at h
    cases h
    obtain ⟨h1, h2⟩ := List.getElem?_eq_some_iff.mp e
    rw [List.length_range] at h1
    rw [List.getElem_range] at h2
    subst h2
    exact ⟨h1, rfl⟩
theorem rng_len {lo : Int} {n : Nat} {c : Int} : (rng lo n c).length = n := by
  unfold rng
  rw [List.length_map, List.length_range]
theorem walks_rng {lo : Int} {n : Nat} {G : Hp → (Addr → Prop) → Prop} : Walks X.prog X.w X.K (Itr lo n) (rng lo n 1) G := by
  intro i Hi Oi g
  refine ⟨fun d hd => ?_, fun hl => by rw [rng_len] at hl; exact hl⟩
  obtain ⟨h1, rfl⟩ := rng_get hd
  refine ⟨h1, fun x H' y => ?_⟩
  obtain ⟨rfl, rfl⟩ := y
  exact ⟨Same.refl _, by show V.int _ = V.int _; rw [Int.mul_one]⟩
theorem walks_rngC {lo c : Int} {n : Nat} {G : Hp → (Addr → Prop) → Prop} : Walks X.prog X.w X.K (Itc lo c n) (rng lo n c) G := by
  intro i Hi Oi g
  refine ⟨fun d hd => ?_, fun hl => by rw [rng_len] at hl; exact hl⟩
  obtain ⟨h1, rfl⟩ := rng_get hd
  refine ⟨h1, fun x H' y => ?_⟩
  obtain ⟨rfl, rfl⟩ := y
  exact ⟨Same.refl _, rfl⟩
/-! ### iterators of values -/
section
variable {pins : List (Addr × Obj)} {σ : L2.St} {H : Hp} {s : Shared} {R : It → Hp → Prop}
theorem it_list {a : Addr} {vs : List V} (I : Inv X pins σ H s) (h : H a = some (.lst vs)) (q : R (Itl X.K a) H) : wpAny (model X.prog X.w) X.A (pyIter (.ref a)) (PIE X pins σ tg R) X.xe s := by
  obtain ⟨its, rv, p, hz⟩ := I.list (SqL.of h)
  refine wpAny_pyIter_list p.isList ?_
  exact pi_one (tk := s.toks) I _ (turn_list a _) ⟨_, Heap.get?_push_size _ rfl, rfl, rfl⟩ q
theorem it_tup {a : Addr} {vs : List V} (I : Inv X pins σ H s) (h : SqT X.K H a vs) (q : R (Itt X.K a) H) : wpAny (model X.prog X.w) X.A (pyIter (.ref a)) (PIE X pins σ tg R) X.xe s := by
  obtain ⟨its, rv, p, hz⟩ := I.tuple h
  refine wpAny_pyIter_tuple (show s.heap.IsTuple a its.toArray from p) ?_
  exact pi_one (tk := s.toks) I _ (turn_tuple a _) ⟨_, Heap.get?_push_size _ rfl, rfl, rfl⟩ q
theorem it_str {x : Str} {t : Tok} (I : Inv X pins σ H s) (q : R (L2.Its x) H) : wpAny (model X.prog X.w) X.A (pyIter (.str x t)) (PIE X pins σ tg R) X.xe s := by
  cases ha : x.cps.all (· < 128)
  · exact wpAny_pyIter_wide ha (pi_one (tk := s.toks) I _ (turn_str _ x t "str_iterator" (.inr rfl)) ⟨_, Heap.get?_push_size _ rfl, rfl, rfl⟩ q)
  · exact wpAny_pyIter_ascii ha (pi_one (tk := s.toks) I _ (turn_str _ x t "str_ascii_iterator" (.inl rfl)) ⟨_, Heap.get?_push_size _ rfl, rfl, rfl⟩ q)
end
theorem i_val {e : Expr} {c : Ex} (he : HE X e c) : HI X tg e (iVal c) := by
  refine ⟨fun pins s σ H R I h => ?_⟩
  obtain ⟨O, env, h1, h2, h3⟩ := h
  unfold iVal at h3
  rw [post_bind] at h3
  refine thn (he.run pins s σ H (fun v H1 => ∃ d, Same H H1 ∧ Rep X.prog X.w X.K H1 O d v ∧ (dItems d).post (fun ds => ∀ J H', Same H H' → Walks X.prog X.w X.K J ds (Pres H' O) → R J H') noE) I ⟨O, env, h1, h2, post_mono h3 (fun d q v H' sm r => ⟨d, sm, r, q⟩) fun _ _ z => z⟩) fun u s1 ⟨v, H1, I1, r1, d, sm, rd, q⟩ => ?_
  have hD := h1.same sm
  cases d with
  | lst l =>
    obtain ⟨a, vs, rfl, hO, ha, hr⟩ := rd
    cases r1
    exact it_list I1 ha (q _ H1 sm (walks_list hD hr fun Hi Oi g => ⟨g, g.st _ _ hO ha⟩))
  | tup l =>
    obtain ⟨a, vs, rfl, ha, hr⟩ := rd
    cases r1
    exact it_tup I1 ha (q _ H1 sm (walks_tup hD hr ha fun Hi Oi g => g))
  | str x =>
    cases rd
    obtain ⟨t, rfl⟩ := r1
    exact it_str I1 (q _ H1 sm walks_str)
  | _ => exact q.elim
theorem i_valB {e : Expr} {c : Ex} (he : HB X e c) : HIB X tg e (iVal c) := by
  refine ⟨fun pins s σ H R I h => ?_⟩
  obtain ⟨O, env, h1, h2, h3⟩ := h
  unfold iVal at h3
  rw [post_bind] at h3
  refine thn (he.run pins s σ H (fun v H1 => ∃ d, Same H H1 ∧ RepB X.prog X.w X.K H1 O d v ∧ (dItems d).post (fun ds => ∀ J H', Same H H' → Walks X.prog X.w X.K J ds (PresS H' O) → R J H') noE) I ⟨O, env, h1, h2, post_mono h3 (fun d q v H' sm r => ⟨d, sm, r, q⟩) fun _ _ z => z⟩) fun u s1 ⟨v, H1, I1, r1, d, sm, rd, q⟩ => ?_
  have hD := h1.same sm
  cases d with
  | lst l =>
    obtain ⟨a, vs, rfl, ha, hr⟩ := rd
    cases r1
    exact it_list I1 ha (q _ H1 sm (walks_list hD hr fun Hi Oi g => ⟨g.pres, g.st _ _ ha⟩))
  | tup l =>
    obtain ⟨a, vs, rfl, ha, hr⟩ := rd
    cases r1
    exact it_tup I1 ha (q _ H1 sm (walks_tup hD hr ha fun Hi Oi g => g.pres))
  | str x =>
    have rd : v = .str x := rd
    subst rd
    obtain ⟨t, rfl⟩ := r1
    exact it_str I1 (q _ H1 sm walks_str)
  | _ => exact q.elim
theorem lim62 {i : Int} (h : -SML ≤ i) : -(2 ^ 62) ≤ i := by unfold SML at h; omega
theorem lim62' {i : Int} (h : i < SML) : i < 2 ^ 62 := by unfold SML at h; omega
theorem i_rng1 {a : Expr} {ca : Ex} {p pos : Pos} (hg : Gl X "range") (hm : X.mg "range" = none) (ha : HA X [a] [ca]) (hs : starEach [a] X.env = [(false, eval a X.env)]) : HI X tg (.Call (.Name "range" p) [a] [] pos) (iRng [ca]) :=
  (pi_range1 hg hm ha hs).imp fun σ H R ⟨O, env, h1, h2, h3⟩ => by
    unfold iRng at h3
    rw [post_bind] at h3
    refine ⟨O, env, h1, h2, post_mono (all_len _ _ h3) (fun ds ⟨hl, q⟩ vs H' sm r => ?_) fun _ _ z => z⟩
    match ds, hl, q, r with
    | [d], _, q, r =>
      obtain ⟨v, r', rfl, rd, rfl⟩ := r
      cases d with
      | int j =>
        unfold dRange at q
        rw [post_ck] at q
        cases rd
        exact ⟨j, rfl, lim62 q.1.1, lim62' q.1.2, q.2 _ H' sm walks_rng⟩
      | _ => exact q.elim
theorem i_rng2 {a b : Expr} {ca cb : Ex} {p pos : Pos} (hg : Gl X "range") (hm : X.mg "range" = none) (ha : HA X [a, b] [ca, cb]) (hs : starEach [a, b] X.env = [(false, eval a X.env), (false, eval b X.env)]) (hs2 : starEach [b] X.env = [(false, eval b X.env)]) :
    HI X tg (.Call (.Name "range" p) [a, b] [] pos) (iRng [ca, cb]) :=
  (pi_range2 hg hm ha hs hs2).imp fun σ H R ⟨O, env, h1, h2, h3⟩ => by
    unfold iRng at h3
    rw [post_bind] at h3
    refine ⟨O, env, h1, h2, post_mono (all_len _ _ h3) (fun ds ⟨hl, q⟩ vs H' sm r => ?_) fun _ _ z => z⟩
    match ds, hl, q, r with
    | [d, d'], _, q, r =>
      obtain ⟨v, r', rfl, rd, v', r'', rfl, rd', rfl⟩ := r
      cases d with
      | int i =>
        cases d' with
        | int j =>
          unfold dRange at q
          rw [post_ck] at q
          cases rd
          cases rd'
          obtain ⟨⟨b1, b2, b3, b4⟩, q⟩ := q
          exact ⟨i, j, rfl, ⟨lim62 b1, lim62' b2, lim62 b3, lim62' b4⟩, q _ H' sm walks_rng⟩
        | _ => exact q.elim
      | _ => exact q.elim
theorem i_rng3 {a b c : Expr} {ca cb cc : Ex} {p pos : Pos} (hg : Gl X "range") (hm : X.mg "range" = none) (ha : HA X [a, b, c] [ca, cb, cc]) (hs : starEach [a, b, c] X.env = (false, eval a X.env) :: starEach [b, c] X.env)
    (hpl : (backTo pos (starEach [b, c] X.env)).any (·.1) = false) : HI X tg (.Call (.Name "range" p) [a, b, c] [] pos) (iRng [ca, cb, cc]) :=
  (pi_range3 hg hm ha hs hpl).imp fun σ H R ⟨O, env, h1, h2, h3⟩ => by
    unfold iRng at h3
    rw [post_bind] at h3
    refine ⟨O, env, h1, h2, post_mono (all_len _ _ h3) (fun ds ⟨hl, q⟩ vs H' sm r => ?_) fun _ _ z => z⟩
    match ds, hl, q, r with
    | [d, d', d''], _, q, r =>
      obtain ⟨v, r', rfl, rd, v', r'', rfl, rd', v'', r''', rfl, rd'', rfl⟩ := r
      cases d with
      | int i =>
        cases d' with
        | int j =>
          cases d'' with
          | int k =>
            unfold dRange at q
            rw [post_ck] at q
            cases rd
            cases rd'
            cases rd''
            obtain ⟨⟨rfl, b1, b2, b3, b4⟩, q⟩ := q
            exact ⟨i, j, -1, _, rfl, RgC.neg (lim62 b1) (lim62' b2) (lim62 b3) (lim62' b4), q _ H' sm walks_rngC⟩
          | _ => exact q.elim
        | _ => exact q.elim
      | _ => exact q.elim
/-! ### zip -/
theorem zip_get {a b : List D} {i : Nat} {d : D} (h : ((a.zip b).map fun p => D.tup [p.1, p.2])[i]? = some d) : ∃ x y, a[i]? = some x ∧ b[i]? = some y ∧ d = .tup [x, y] := by
  rw [List.getElem?_map] at h
  cases e : (a.zip b)[i]? with
  | none => rw [e] at h; cases h
  | some p =>
    rw [e] at h
    cases h
    obtain ⟨h1, h2⟩ := List.getElem?_zip_eq_some.mp e
    exact ⟨p.1, p.2, h1, h2, rfl⟩
theorem rep_pair {H : Hp} {O : Addr → Prop} {T : Addr} {x y : D} {v u : V} (hT : H T = none) (h1 : Rep X.prog X.w X.K H O x v) (h2 : Rep X.prog X.w X.K H O y u) : Rep X.prog X.w X.K (upd H T (.tup [v, u])) O (.tup [x, y]) (.ref T) :=
  rep_tup hT ⟨v, [u], rfl, h1, u, [], rfl, h2, rfl⟩
theorem walks_zip {ds es : List D} {vs us : List V} {a b : Addr} {H : Hp} {O : Addr → Prop} {G : Hp → (Addr → Prop) → Prop} (hD : Dom H O) (hr : RepL X.prog X.w X.K H O ds vs) (hr' : RepL X.prog X.w X.K H O es us)
    (hG : ∀ Hi Oi, G Hi Oi → Pres H O Hi Oi ∧ Hi a = some (.lst vs) ∧ Hi b = some (.lst us)) : Walks X.prog X.w X.K (Itz X.K a b) ((ds.zip es).map fun p => .tup [p.1, p.2]) G := by
  intro i Hi Oi g
  obtain ⟨p, e1, e2⟩ := hG Hi Oi g
  refine ⟨fun d hd => ?_, fun hl => ?_⟩
  · obtain ⟨x, y, hx, hy, rfl⟩ := zip_get hd
    obtain ⟨v, v1, v2⟩ := hr.get hx
    obtain ⟨u, u1, u2⟩ := hr'.get hy
    refine ⟨⟨vs, us, v, u, SqL.of e1, SqL.of e2, v1, u1⟩, fun z H' y => ?_⟩
    obtain ⟨T, x', y', rfl, hT, rfl, k1, k2⟩ := y
    have q1 := k1 vs (SqL.of e1)
    have q2 := k2 us (SqL.of e2)
    rw [v1] at q1
    rw [u1] at q2
    cases q1
    cases q2
    exact ⟨same_new hT, rep_pair hT (Rep.carry (p.carry hD) _ _ v2) (Rep.carry (p.carry hD) _ _ u2)⟩
  · refine ⟨vs, us, SqL.of e1, SqL.of e2, ?_⟩
    rw [hr.length, hr'.length]
    rw [List.length_map, List.length_zip] at hl
    omega
theorem walks_zipT {ds es : List D} {vs us : List V} {a b : Addr} {H : Hp} {O : Addr → Prop} {G : Hp → (Addr → Prop) → Prop} (hD : Dom H O) (hr : RepL X.prog X.w X.K H O ds vs) (hr' : RepL X.prog X.w X.K H O es us) (h1 : SqT X.K H a vs) (h2 : SqT X.K H b us)
    (hG : ∀ Hi Oi, G Hi Oi → Pres H O Hi Oi) : Walks X.prog X.w X.K (RZ.ItzT X.K a b) ((ds.zip es).map fun p => .tup [p.1, p.2]) G := by
  intro i Hi Oi g
  have p := hG Hi Oi g
  have e1 := (p.carry (K := X.K) hD).tup _ _ h1
  have e2 := (p.carry (K := X.K) hD).tup _ _ h2
  refine ⟨fun d hd => ?_, fun hl => ?_⟩
  · obtain ⟨x, y, hx, hy, rfl⟩ := zip_get hd
    obtain ⟨v, v1, v2⟩ := hr.get hx
    obtain ⟨u, u1, u2⟩ := hr'.get hy
    refine ⟨⟨vs, us, v, u, e1, e2, v1, u1⟩, fun z H' y => ?_⟩
    obtain ⟨T, x', y', rfl, hT, rfl, k1, k2⟩ := y
    have q1 := k1 vs e1
    have q2 := k2 us e2
    rw [v1] at q1
    rw [u1] at q2
    cases q1
    cases q2
    exact ⟨same_new hT, rep_pair hT (Rep.carry (p.carry hD) _ _ v2) (Rep.carry (p.carry hD) _ _ u2)⟩
  · refine ⟨vs, us, e1, e2, ?_⟩
    rw [hr.length, hr'.length]
    rw [List.length_map, List.length_zip] at hl
    omega
/-- both evaluated -/
theorem two_post {ca cb : Ex} {env : Env} {R : D → D → Prop} (h : (ca env >>= fun x => cb env >>= fun y => (M.ret (x, y) : M (D × D))).post (fun p => R p.1 p.2) noE) : (eAll [ca, cb] env).post (fun ds => ∃ x y, ds = [x, y] ∧ R x y) noE := by
  unfold eAll
  rw [post_bind] at h ⊢
  refine post_mono h (fun x h => ?_) fun _ _ z => z
  rw [post_bind] at h ⊢
  unfold eAll
  rw [post_bind]
  refine post_mono h (fun y h => ?_) fun _ _ z => z
  exact ⟨x, y, rfl, h⟩
theorem zip_pre {ca cb : Ex} {env : Env} {R : List D → Prop} (h : (iZip ca cb env).post R noE) : (eAll [ca, cb] env).post (fun ds => ∃ x y, ds = [x, y] ∧ (dZip x y).post R noE) noE := by
  refine two_post (R := fun x y => (dZip x y).post R noE) ?_
  unfold iZip at h
  rw [post_bind] at h ⊢
  refine post_mono h (fun x h => ?_) fun _ _ z => z
  rw [post_bind] at h ⊢
  exact h
theorem i_zip {elts : List Expr} {kk : Nat} {tpos : Pos} {a b : Expr} {ca cb : Ex} {p pos : Pos} (hg : Gl X "zip") (hm : X.mg "zip" = none) (ha : HA X [a, b] [ca, cb]) (hs : starEach [a, b] X.env = (false, eval a X.env) :: starEach [b] X.env)
    (hpl : (backTo pos (starEach [b] X.env)).any (·.1) = false) : HI X (.Tuple elts kk tpos) (.Call (.Name "zip" p) [a, b] [] pos) (iZip ca cb) :=
  (RZ.pi_zipA hg hm ha hs hpl).imp fun σ H R ⟨O, env, h1, h2, h3⟩ => by
    refine ⟨O, env, h1, h2, post_mono (zip_pre h3) (fun ds ⟨x, y, e, q⟩ vs H' sm r => ?_) fun _ _ z => z⟩
    subst e
    obtain ⟨v, r', rfl, rd, v', r'', rfl, rd', rfl⟩ := r
    have hD := h1.same sm
    cases x with
    | lst l =>
      cases y with
      | lst l' =>
        obtain ⟨a1, vs, rfl, o1, e1, r1⟩ := rd
        obtain ⟨a2, us, rfl, o2, e2, r2⟩ := rd'
        exact ⟨a1, a2, vs, us, rfl, .inl ⟨SqL.of e1, SqL.of e2, q _ H' sm (walks_zip hD r1 r2 fun Hi Oi g => ⟨g, g.st _ _ o1 e1, g.st _ _ o2 e2⟩)⟩⟩
      | _ => exact q.elim
    | tup l =>
      cases y with
      | tup l' =>
        obtain ⟨a1, vs, rfl, e1, r1⟩ := rd
        obtain ⟨a2, us, rfl, e2, r2⟩ := rd'
        exact ⟨a1, a2, vs, us, rfl, .inr ⟨e1, e2, q _ H' sm (walks_zipT hD r1 r2 e1 e2 fun Hi Oi g => g)⟩⟩
      | _ => exact q.elim
    | _ => exact q.elim
theorem i_zipB {elts : List Expr} {kk : Nat} {tpos : Pos} {a b : Expr} {ca cb : Ex} {p pos : Pos} (hg : Gl X "zip") (hm : X.mg "zip" = none) (ha : HAB X [a, b] [ca, cb]) (hs : starEach [a, b] X.env = (false, eval a X.env) :: starEach [b] X.env)
    (hpl : (backTo pos (starEach [b] X.env)).any (·.1) = false) : HIB X (.Tuple elts kk tpos) (.Call (.Name "zip" p) [a, b] [] pos) (iZip ca cb) :=
  (RZ.pi_zipA hg hm ha hs hpl).imp fun σ H R ⟨O, env, h1, h2, h3⟩ => by
    refine ⟨O, env, h1, h2, post_mono (zip_pre h3) (fun ds ⟨x, y, e, q⟩ vs H' sm r => ?_) fun _ _ z => z⟩
    subst e
    obtain ⟨v, r', rfl, rd, v', r'', rfl, rd', rfl⟩ := r
    have hD := h1.same sm
    cases x with
    | lst l =>
      cases y with
      | lst l' =>
        obtain ⟨a1, vs, rfl, e1, r1⟩ := rd
        obtain ⟨a2, us, rfl, e2, r2⟩ := rd'
        exact ⟨a1, a2, vs, us, rfl, .inl ⟨SqL.of e1, SqL.of e2, q _ H' sm (walks_zip hD r1 r2 fun Hi Oi g => ⟨g.pres, g.st _ _ e1, g.st _ _ e2⟩)⟩⟩
      | _ => exact q.elim
    | tup l =>
      cases y with
      | tup l' =>
        obtain ⟨a1, vs, rfl, e1, r1⟩ := rd
        obtain ⟨a2, us, rfl, e2, r2⟩ := rd'
        exact ⟨a1, a2, vs, us, rfl, .inr ⟨e1, e2, q _ H' sm (walks_zipT hD r1 r2 e1 e2 fun Hi Oi g => g.pres)⟩⟩
      | _ => exact q.elim
    | _ => exact q.elim
/-! ### enumerate -/
theorem enum_get {a : List D} {i : Nat} {d : D} (h : (a.zipIdx.map fun p => D.tup [.int (p.2 : Nat), p.1])[i]? = some d) : ∃ x, a[i]? = some x ∧ d = .tup [.int (i : Nat), x] := by
  rw [List.getElem?_map, List.getElem?_zipIdx] at h
  cases e : a[i]? with
  | none => rw [e] at h; cases h
  | some x =>
    rw [e] at h
    cases h
    exact ⟨x, rfl, by simp⟩
theorem walks_enum {ds : List D} {vs : List V} {a : Addr} {H : Hp} {O : Addr → Prop} {G : Hp → (Addr → Prop) → Prop} (hD : Dom H O) (hr : RepL X.prog X.w X.K H O ds vs) (hG : ∀ Hi Oi, G Hi Oi → Pres H O Hi Oi ∧ Hi a = some (.lst vs)) :
    Walks X.prog X.w X.K (Ite X.K a) (ds.zipIdx.map fun p => D.tup [.int (p.2 : Nat), p.1]) G := by
  intro i Hi Oi g
  obtain ⟨p, e⟩ := hG Hi Oi g
  refine ⟨fun d hd => ?_, fun hl => ⟨vs, SqL.of e, by rw [hr.length]; simpa using hl⟩⟩
  obtain ⟨x, hx, rfl⟩ := enum_get hd
  obtain ⟨v, e1, e2⟩ := hr.get hx
  refine ⟨⟨vs, v, SqL.of e, e1⟩, fun z H' y => ?_⟩
  obtain ⟨T, x', rfl, hT, rfl, k⟩ := y
  have q1 := k vs (SqL.of e)
  rw [e1] at q1
  cases q1
  exact ⟨same_new hT, rep_pair (x := .int (i : Nat)) hT rfl (Rep.carry (p.carry hD) _ _ e2)⟩
theorem one_post {ca : Ex} {env : Env} {R : D → Prop} (h : (ca env).post R noE) : (eAll [ca] env).post (fun ds => ∃ x, ds = [x] ∧ R x) noE := by
  unfold eAll
  rw [post_bind]
  refine post_mono h (fun x h => ?_) fun _ _ z => z
  unfold eAll
  exact ⟨x, rfl, h⟩
theorem i_enum {elts : List Expr} {kk : Nat} {tpos : Pos} {a : Expr} {ca : Ex} {p pos : Pos} (hg : Gl X "enumerate") (hm : X.mg "enumerate" = none) (ha : HA X [a] [ca]) (hs : starEach [a] X.env = [(false, eval a X.env)]) :
    HI X (.Tuple elts kk tpos) (.Call (.Name "enumerate" p) [a] [] pos) (PV.iEnum ca) :=
  (pi_enum hg hm ha hs).imp fun σ H R ⟨O, env, h1, h2, h3⟩ => by
    unfold PV.iEnum at h3
    rw [post_bind] at h3
    refine ⟨O, env, h1, h2, post_mono (one_post h3) (fun ds ⟨x, e, q⟩ vs H' sm r => ?_) fun _ _ z => z⟩
    subst e
    obtain ⟨v, r', rfl, rd, rfl⟩ := r
    cases x with
    | lst l =>
      obtain ⟨a1, vs, rfl, o1, e1, r1⟩ := rd
      exact ⟨a1, vs, rfl, SqL.of e1, q _ H' sm (walks_enum (h1.same sm) r1 fun Hi Oi g => ⟨g, g.st _ _ o1 e1⟩)⟩
    | _ => exact q.elim
theorem i_enumB {elts : List Expr} {kk : Nat} {tpos : Pos} {a : Expr} {ca : Ex} {p pos : Pos} (hg : Gl X "enumerate") (hm : X.mg "enumerate" = none) (ha : HAB X [a] [ca]) (hs : starEach [a] X.env = [(false, eval a X.env)]) :
    HIB X (.Tuple elts kk tpos) (.Call (.Name "enumerate" p) [a] [] pos) (PV.iEnum ca) :=
  (pi_enum hg hm ha hs).imp fun σ H R ⟨O, env, h1, h2, h3⟩ => by
    unfold PV.iEnum at h3
    rw [post_bind] at h3
    refine ⟨O, env, h1, h2, post_mono (one_post h3) (fun ds ⟨x, e, q⟩ vs H' sm r => ?_) fun _ _ z => z⟩
    subst e
    obtain ⟨v, r', rfl, rd, rfl⟩ := r
    cases x with
    | lst l =>
      obtain ⟨a1, vs, rfl, e1, r1⟩ := rd
      exact ⟨a1, vs, rfl, SqL.of e1, q _ H' sm (walks_enum (h1.same sm) r1 fun Hi Oi g => ⟨g.pres, g.st _ _ e1⟩)⟩
    | _ => exact q.elim
end
end PV
/-! list comprehensions -/
namespace PV
open PySem PySem.Spec PyProof.Rows L2
/-! ### a list, a dict that none knew before -/
def RepF (P : Program) (w : World) (K : PySem.W.Frag) (H H' : Hp) (O : Addr → Prop) : D → V → Prop
  | .lst ds, v => ∃ p vs, v = .ref p ∧ H p = none ∧ H' p = some (.lst vs) ∧ RepL P w K H' (fun a => O a ∨ a = p) ds vs
  | .dct kvs, v => ∃ p o es ep, v = .ref p ∧ H p = none ∧ H' p = some (objO p o) ∧ (p == sysModules) = false ∧ o.ExactDict ∧ o.data = .dict es ep ∧ RepK P w K H' (fun a => O a ∨ a = p) kvs es.toList
  | d, v => Rep P w K H' O d v
section
variable {P : Program} {w : World} {K : PySem.W.Frag} {H H' H'' : Hp} {O O' : Addr → Prop}
theorem RepF.rep {d : D} {v : V} (hD : Dom H O) (h : RepF P w K H H' O d v) : Rep P w K H' O d v := by
  cases d with
  | lst l => obtain ⟨p, vs, e, n, s, r⟩ := h; exact ⟨p, vs, e, hD.not n, s, r.anti fun a z => .inl z⟩
  | dct l => obtain ⟨p, o, es, ep, e, n, s, m, x, dd, r⟩ := h; exact ⟨p, o, es, ep, e, hD.not n, s, m, x, dd, r.anti fun a z => .inl z⟩
  | _ => exact h
theorem none_before (e : Same H H') {p : Addr} (h : H' p = none) : H p = none := by
  cases q : H p with
  | none => rfl
  | some u => rw [e _ _ q] at h; cases h
theorem RepF.back {d : D} {v : V} (h : RepF P w K H' H'' O d v) (e : Same H H') : RepF P w K H H'' O d v := by
  cases d with
  | lst l => obtain ⟨p, vs, e1, n, s, r⟩ := h; exact ⟨p, vs, e1, none_before e n, s, r⟩
  | dct l => obtain ⟨p, o, es, ep, e1, n, s, m, x, dd, r⟩ := h; exact ⟨p, o, es, ep, e1, none_before e n, s, m, x, dd, r⟩
  | _ => exact h
/-- what stood may be kept apart from a new thing -/
theorem RepL.apart {ds : List D} {vs : List V} {p : Addr} (h : RepL P w K H O ds vs) (n : H p = none) : RepL P w K H (fun a => O a ∨ a = p) ds vs :=
  RepL.carry (.more fun a z => z.elim .inl fun e => .inr (by rw [e]; exact n)) ds vs h
theorem Rep.apart {d : D} {v : V} {p : Addr} (h : Rep P w K H O d v) (n : H p = none) : Rep P w K H (fun a => O a ∨ a = p) d v :=
  Rep.carry (.more fun a z => z.elim .inl fun e => .inr (by rw [e]; exact n)) d v h
theorem RepK.apart {d : List (D × D)} {v : List DictEntry} {p : Addr} (h : RepK P w K H O d v) (n : H p = none) : RepK P w K H (fun a => O a ∨ a = p) d v :=
  RepK.carry (.more fun a z => z.elim .inl fun e => .inr (by rw [e]; exact n)) d v h
theorem RepB.apart {d : D} {v : V} {p : Addr} (h : RepB P w K H O d v) (n : H p = none) : RepB P w K H (fun a => O a ∨ a = p) d v := by
  cases d with
  | lst l => obtain ⟨a, vs, e, s, r⟩ := h; exact ⟨a, vs, e, s, r.apart n⟩
  | dct l => obtain ⟨a, o, es, ep, e, s, m, x, dd, r⟩ := h; exact ⟨a, o, es, ep, e, s, m, x, dd, r.apart n⟩
  | _ => exact Rep.apart h n
theorem RelX.apart {σ : L2.St} {env : Env} {p : Addr} (h : RelX P w K H O σ env) (n : H p = none) : RelX P w K H (fun a => O a ∨ a = p) σ env := fun i own d z =>
  let ⟨v, h1, h2, h3⟩ := h i own d z
  ⟨v, h1, h2.apart n, fun q => (h3 q).apart n⟩
/-- the new list of just these -/
theorem repF_lst {p : Addr} {ds : List D} {vs : List V} (h : H p = none) (r : RepL P w K H O ds vs) : RepF P w K H (upd H p (.lst vs)) O (.lst ds) (.ref p) :=
  ⟨p, vs, rfl, h, upd_same, (r.apart h).same fun b x e => by rw [upd_ne (ne_of_none e h)]; exact e⟩
end
def tF (P : Program) (w : World) (K : PySem.W.Frag) (c : Ex) : TE := fun σ H Q => ∃ O env, Dom H O ∧ RelX P w K H O σ env ∧ (c env).post (fun d => ∀ v H', Same H H' → RepF P w K H H' O d v → Q v H') noE
abbrev HF (X : Cx) (e : Expr) (c : Ex) : Prop := PE X e (tF X.prog X.w X.K c)
section
variable {X : Cx}
theorem _root_.L2.PE.he {e : Expr} {c : Ex} (h : HF X e c) : HE X e c := h.imp fun σ H Q ⟨O, env, h1, h2, h3⟩ => ⟨O, env, h1, h2, post_mono h3 (fun d q v H' s r => q v H' s (r.rep h1)) fun _ _ z => z⟩
/-! ### targets of a block -/
/-- what is owned behind it was so before -/
def Keep (σ : L2.St) (env : Env) (σ' : L2.St) (env' : Env) : Prop := ∀ (i : Nat) (d : D), env'[i]? = some (some (true, d)) → env[i]? = some (some (true, d)) ∧ σ'[i]? = σ[i]?
theorem Keep.refl (σ : L2.St) (env : Env) : Keep σ env σ env := fun _ _ h => ⟨h, rfl⟩
theorem Keep.trans {σ σ' σ'' : L2.St} {e e' e'' : Env} (h : Keep σ e σ' e') (k : Keep σ' e' σ'' e'') : Keep σ e σ'' e'' := fun i d z =>
  let ⟨a, b⟩ := k i d z
  let ⟨c, f⟩ := h i d a
  ⟨c, b.trans f⟩
theorem Keep.set {σ : L2.St} {env : Env} {i : Nat} {v : Option V} {d : D} : Keep σ env (σ.set i v) (env.set i (some (false, d))) := fun j e z => by
  rw [List.getElem?_set] at z
  by_cases q : i = j
  · subst q
    rw [if_pos rfl] at z
    split at z <;> cases z
  · rw [if_neg q] at z
    exact ⟨z, List.getElem?_set_ne q⟩
def gT (P : Program) (w : World) (K : PySem.W.Frag) (t : Tgt) (vs : List Nat) : TG := fun x σ H Q => ∃ O env d, Dom H O ∧ RelX P w K H O σ env ∧ Rep P w K H O d x ∧
  (t d env).post (fun env' => ∀ σ', RelX P w K H O σ' env' → wipe σ' vs = wipe σ vs → Keep σ env σ' env' → Q σ' H) noE
abbrev HG (X : Cx) (tg : Expr) (t : Tgt) (vs : List Nat) : Prop := PG X tg (gT X.prog X.w X.K t vs)
theorem _root_.L2.PG.imp {tg : Expr} {t t' : TG} (h : PG X tg t) (i : ∀ x σ H Q, t' x σ H Q → t x σ H Q) : PG X tg t' := ⟨fun pins s σ H v u Q I r q => h.run pins s σ H v u Q I r (i v σ H Q q)⟩
theorem _root_.L2.PGs.imp {tg : List Expr} {t t' : TGs} (h : PGs X tg t) (i : ∀ x σ H Q, t' x σ H Q → t x σ H Q) : PGs X tg t' := ⟨fun pins s σ H v u Q I r q => h.run pins s σ H v u Q I r (i v σ H Q q)⟩
theorem wipe_get {σ : L2.St} {j : Nat} : ∀ {vs : List Nat}, (wipe σ vs)[j]? = if j ∈ vs then (if j < σ.length then some none else none) else σ[j]?
  | [] => by simp [wipe]
  | v :: vs => by
    unfold wipe
    rw [List.getElem?_set, wipe_get (vs := vs), wipe_length]
    by_cases h : v = j
    · subst h
      simp
    · have h' : ¬ j = v := fun e => h e.symm
      simp [h, h']
theorem wipe_set {σ : L2.St} {i : Nat} {x : Option V} {vs : List Nat} (h : i ∈ vs) : wipe (σ.set i x) vs = wipe σ vs := by
  apply List.ext_getElem?
  intro j
  rw [wipe_get, wipe_get, List.length_set]
  by_cases hj : j ∈ vs
  · simp [hj]
  · rw [if_neg hj, if_neg hj, List.getElem?_set_ne]
    intro e
    subst e
    exact hj h
theorem wipe_idem {σ : L2.St} {vs : List Nat} : wipe (wipe σ vs) vs = wipe σ vs := by
  apply List.ext_getElem?
  intro j
  rw [wipe_get, wipe_length, wipe_get]
  by_cases hj : j ∈ vs
  · simp [hj]
  · rw [if_neg hj]
theorem wipeE_get {env : Env} {j : Nat} {x : Bool × D} : ∀ {vs : List Nat}, (wipeE env vs)[j]? = some (some x) → env[j]? = some (some x) ∧ j ∉ vs
  | [], h => ⟨h, by simp⟩
  | v :: vs, h => by
    unfold wipeE at h
    rw [List.getElem?_set] at h
    by_cases e : v = j
    · subst e
      rw [if_pos rfl] at h
      split at h <;> cases h
    · rw [if_neg e] at h
      obtain ⟨h1, h2⟩ := wipeE_get h
      exact ⟨h1, by simp only [List.mem_cons, not_or]; exact ⟨fun z => e z.symm, h2⟩⟩
section
variable {P : Program} {w : World} {K : PySem.W.Frag} {H H' : Hp} {O : Addr → Prop} {σ : L2.St} {env : Env}
theorem RelX.wipe {vs : List Nat} (h : RelX P w K H O σ env) : RelX P w K H O (wipe σ vs) (wipeE env vs) := fun i own d z => by
  obtain ⟨z, n⟩ := wipeE_get z
  obtain ⟨v, h1, h2⟩ := h i own d z
  exact ⟨v, by rw [wipe_get, if_neg n]; exact h1, h2⟩
theorem RelX.set {i : Nat} {d : D} {v : V} (h : RelX P w K H O σ env) (hi : i < σ.length) (r : Rep P w K H O d v) : RelX P w K H O (σ.set i (some v)) (env.set i (some (false, d))) := fun j own e z => by
  rw [List.getElem?_set] at z
  by_cases q : i = j
  · subst q
    rw [if_pos rfl] at z
    split at z
    · cases z
      exact ⟨v, by rw [List.getElem?_set_self hi], r.b, fun _ => r⟩
    · cases z
  · rw [if_neg q] at z
    obtain ⟨u, h1, h2⟩ := h j own e z
    exact ⟨u, by rw [List.getElem?_set_ne q]; exact h1, h2⟩
end
theorem g_name {i : Nat} {x : Str} {pos : Pos} {vs : List Nat} (hN : X.N.Nodup) (hi : X.N[i]? = some x) (hx : Loc X.env.scope x) (hf : X.fn x = true ∨ X.env.scope.names.lookup x = some .local) (hv : i ∈ vs) : HG X (.Name x pos) (tName i) vs := by
  refine ⟨fun pins s σ H v u Q I r h => ?_⟩
  obtain ⟨O, env, d, h1, h2, h3, h4⟩ := h
  have hl : i < σ.length := by
    rw [I.len]
    exact (List.getElem?_eq_some_iff.mp hi).1
  exact (pg_name hN hi hx hf).run pins s σ H v u Q I r (h4 _ (h2.set hl h3) (wipe_set hv) .set)
def gTs (P : Program) (w : World) (K : PySem.W.Frag) (ts : List Tgt) (vs : List Nat) : TGs := fun xs σ H Q => ∃ O env ds, Dom H O ∧ RelX P w K H O σ env ∧ RepL P w K H O ds xs ∧
  (tAll ts ds env).post (fun env' => ∀ σ', RelX P w K H O σ' env' → wipe σ' vs = wipe σ vs → Keep σ env σ' env' → Q σ' H) noE
abbrev HGs (X : Cx) (tg : List Expr) (t : List Tgt) (vs : List Nat) : Prop := PGs X tg (gTs X.prog X.w X.K t vs)
theorem gs_nil {vs : List Nat} : HGs X [] [] vs := pgs_nil.imp fun xs σ H Q ⟨O, env, ds, h1, h2, h3, h4⟩ => by
  cases ds with
  | nil =>
    cases h3
    exact ⟨rfl, h4 σ h2 rfl (.refl _ _)⟩
  | cons d r => exact h4.elim
theorem gs_cons {e : Expr} {es : List Expr} {t : Tgt} {ts : List Tgt} {vs : List Nat} (h1 : HG X e t vs) (h2 : HGs X es ts vs) (hs : (assignEach (e :: es) X.env).map (·.2) = assign e X.env :: (assignEach es X.env).map (·.2)) : HGs X (e :: es) (t :: ts) vs :=
  (pgs_cons h1 h2 hs).imp fun xs σ H Q ⟨O, env, ds, k1, k2, k3, k4⟩ => by
    cases ds with
    | nil => exact k4.elim
    | cons d r =>
      obtain ⟨v, r', rfl, q1, q2⟩ := k3
      unfold tAll at k4
      rw [post_bind] at k4
      refine ⟨v, r', rfl, O, env, d, k1, k2, q1, post_mono k4 (fun env' z σ' q3 q4 q4' => ?_) fun _ _ z => z⟩
      exact ⟨O, env', r, k1, q3, q2, post_mono z (fun env'' z σ'' q5 q6 q7 => z σ'' q5 (q6.trans q4) (q4'.trans q7)) fun _ _ z => z⟩
theorem g_tup {es : List Expr} {ts : List Tgt} {vs : List Nat} {k : Nat} {pos : Pos} (hc : X.calm = true) (h : HGs X es ts vs) (hn : (assignEach es X.env).length = ts.length) (hst : (assignEach es X.env).findIdx? (·.1) = none) : HG X (.Tuple es k pos) (tTup ts) vs :=
  (pg_tup hc h hn hst).imp fun x σ H Q ⟨O, env, d, h1, h2, h3, h4⟩ => by
    unfold tTup at h4
    cases d with
    | tup l =>
      rw [post_ck] at h4
      obtain ⟨a, xs, rfl, e, r⟩ := h3
      exact ⟨a, xs, rfl, e, by rw [r.length]; exact h4.1, O, env, l, h1, h2, r, h4.2⟩
    | _ => exact h4.elim
/-! ### the tests of a block -/
def tTs (P : Program) (w : World) (K : PySem.W.Frag) (cs : List Ex) : TT := fun σ H Q => ∃ O env, Dom H O ∧ RelX P w K H O σ env ∧ (tests cs env).post (fun k => ∀ H', Same H H' → Q k H') noE
abbrev HTs (X : Cx) (es : List Expr) (cs : List Ex) : Prop := PTs X es (tTs X.prog X.w X.K cs)
theorem ts_nil : HTs X [] [] := ⟨fun pins s σ H Q I ⟨O, env, h1, h2, h3⟩ => pts_nil.run pins s σ H Q I (h3 H (Same.refl H))⟩
theorem ts_one {e : Expr} {c : Ex} (h : HT X e c) : HTs X [e] [c] := ⟨fun pins s σ H Q I ⟨O, env, h1, h2, h3⟩ => (pts_one h).run pins s σ H Q I ⟨O, env, h1, h2, by
  unfold tests at h3
  rw [← bind_asc, post_bind] at h3
  refine post_mono h3 (fun k q => ?_) fun _ _ z => z
  cases k with
  | true => exact q
  | false => exact q⟩⟩
/-! ### the loop of one clause -/
theorem lvl {P : Program} {w : World} {K : PySem.W.Frag} {J : It} {ds : List D} {G : Hp → (Addr → Prop) → Prop} {O : Addr → Prop} {body : D → List D → M (List D)} {acc0 : List D} {Φ : List D → Prop} {St : List D → Hp → Prop} {H0 : Hp}
    (hw : Walks P w K J ds G) (hG : ∀ acc H, St acc H → G H O) (h0 : St acc0 H0) (hp : (fold body ds acc0).post Φ noE) (hS : ∀ acc H H', St acc H → Same H H' → St acc H') {Endp : Hp → Prop} (hend : ∀ acc H, St acc H → Φ acc → Endp H)
    {Step : V → Hp → (Hp → Prop) → Prop} (hstep : ∀ d x acc H' (Nx : Hp → Prop), St acc H' → Rep P w K H' O d x → (body d acc).post (fun acc' => ∀ H'', St acc' H'' → Nx H'') noE → Step x H' Nx) :
    ∃ W : Nat → Nat → Hp → Prop, (∃ m, W 0 m H0) ∧ ∀ i m H, W i m H → (J.stop i H ∧ Endp H) ∨ (J.go i H ∧ ∃ Nx : Hp → Prop, (∀ H', Nx H' → ∃ m', m' < m ∧ W (i + 1) m' H') ∧ ∀ x H', J.yld i H x H' → Step x H' Nx) := by
  refine ⟨fun i m H => m = ds.length - i ∧ i ≤ ds.length ∧ ∃ acc, St acc H ∧ (fold body (ds.drop i) acc).post Φ noE, ⟨ds.length, by simp, Nat.zero_le _, acc0, h0, by simpa using hp⟩, ?_⟩
  rintro i m H ⟨rfl, hi, acc, st, po⟩
  obtain ⟨k1, k2⟩ := hw i H O (hG _ _ st)
  by_cases hlt : i < ds.length
  · rw [List.drop_eq_getElem_cons hlt] at po
    unfold fold at po
    rw [post_bind] at po
    obtain ⟨g, y⟩ := k1 ds[i] (List.getElem?_eq_getElem hlt)
    refine .inr ⟨g, fun H' => ∃ acc, St acc H' ∧ (fold body (ds.drop (i + 1)) acc).post Φ noE, fun H' ⟨acc', s', p'⟩ => ⟨ds.length - (i + 1), by omega, rfl, hlt, acc', s', p'⟩, fun x H' yl => ?_⟩
    obtain ⟨sm, rx⟩ := y x H' yl
    exact hstep _ x acc H' _ (hS _ _ _ st sm) rx (post_mono po (fun acc' q H'' s' => ⟨acc', s', q⟩) fun _ _ z => z)
  · have e : i = ds.length := by omega
    subst e
    rw [List.drop_length] at po
    exact .inl ⟨k2 (Nat.le_refl _), hend acc H st po⟩
/-- the new list as it grows -/
def Grow (P : Program) (w : World) (K : PySem.W.Frag) (Hb : Hp) (O : Addr → Prop) (p : Addr) (acc : List D) (H : Hp) : Prop := Same Hb H ∧ ∃ vs, H p = some (.lst vs) ∧ RepL P w K H O acc vs
theorem Grow.same {P : Program} {w : World} {K : PySem.W.Frag} {Hb H H' : Hp} {O : Addr → Prop} {p : Addr} {acc : List D} (h : Grow P w K Hb O p acc H) (e : Same H H') : Grow P w K Hb O p acc H' :=
  let ⟨s, vs, h1, h2⟩ := h
  ⟨s.trans e, vs, e _ _ h1, h2.same e⟩
/-- one more -/
theorem Grow.app {P : Program} {w : World} {K : PySem.W.Frag} {Hb H : Hp} {O : Addr → Prop} {p : Addr} {acc : List D} {d : D} {v : V} (h : Grow P w K Hb O p acc H) (hO : O p) (hb : Hb p = none) (r : Rep P w K H O d v) (hl : acc.length < LIM) :
    ∃ vs, H p = some (.lst vs) ∧ vs.length < sizeLine ∧ Grow P w K Hb O p (acc ++ [d]) (upd H p (.lst (vs ++ [v]))) := by
  obtain ⟨s, vs, h1, h2⟩ := h
  have c : Carry K H (upd H p (.lst (vs ++ [v]))) O O := Carry.write hO h1 rfl fun _ z => z
  refine ⟨vs, h1, lim_size1 (by rw [h2.length]; exact hl), fun b o e => ?_, _, upd_same, RepL.append (RepL.carry c _ _ h2) (.one (Rep.carry c _ _ r))⟩
  have n : b ≠ p := ne_of_none e hb
  rw [upd_ne n]
  exact s _ _ e
theorem Dom.grow {Hb H : Hp} {O : Addr → Prop} {p : Addr} {vs : List V} (h : Dom Hb O) (s : Same Hb H) (e : H p = some (.lst vs)) : Dom H (fun a => O a ∨ a = p) := fun a z => by
  rcases z with z | z
  · exact h.same s a z
  · rw [z]; exact ⟨_, e, rfl⟩
/-- one turn's rest, behind the tests -/
theorem elt_step {e : Ex} {σ : L2.St} {env : Env} {Hb H : Hp} {O : Addr → Prop} {p : Addr} {acc : List D} {Nx : Hp → Prop} {tt : TT} {te : TE} {cs : List Ex} {R : List D → Prop} (Ey : Hp → Prop) (hE1 : ∀ H H', Ey H → Same H H' → Ey H') (hE2 : ∀ H vs, Ey H → Ey (upd H p (.lst vs)))
    (hD : Dom Hb O) (hb : Hb p = none) (st : Grow X.prog X.w X.K Hb (fun a => O a ∨ a = p) p acc H) (ey : Ey H)
    (hr : RelX X.prog X.w X.K H (fun a => O a ∨ a = p) σ env) (hnx : ∀ acc' H'', Grow X.prog X.w X.K Hb (fun a => O a ∨ a = p) p acc' H'' → Ey H'' → R acc' → Nx H'') (ht : ∀ Q, tTs X.prog X.w X.K cs σ H Q → tt σ H Q) (he : ∀ H Q, tE X.prog X.w X.K e σ H Q → te σ H Q)
    (h : (tests cs env >>= fun k => if k = true then comp e [] env acc else .ret acc).post R noE) :
    tt σ H fun b H3 => if b = true then te σ H3 fun y H4 => ∃ ac, H4 p = some (.lst ac) ∧ ac.length < sizeLine ∧ Nx (upd H4 p (.lst (ac ++ [y]))) else Nx H3 := by
  rw [post_bind] at h
  obtain ⟨vs, e1, _⟩ := st.2
  have hD' := hD.grow st.1 e1
  refine ht _ ⟨_, env, hD', hr, post_mono h (fun k q H3 s3 => ?_) fun _ _ z => z⟩
  cases k with
  | false => exact hnx acc H3 (st.same s3) (hE1 _ _ ey s3) q
  | true =>
    simp only [if_true] at q ⊢
    unfold comp at q
    rw [post_bind] at q
    refine he _ _ ⟨_, env, hD'.same s3, hr.same s3, post_mono q (fun d q y H4 s4 r4 => ?_) fun _ _ z => z⟩
    rw [post_ck] at q
    obtain ⟨ac, k1, k2, k3⟩ := ((st.same s3).same s4).app (.inr rfl) hb r4 q.1
    exact ⟨ac, k1, k2, hnx _ _ k3 (hE2 _ _ (hE1 _ _ (hE1 _ _ ey s3) s4)) q.2⟩
section
variable {elt tg iter tg1 iter1 : Expr} {ifs ifs1 : List Expr} {scope : Scope} {own : List (Str × Nat)} {vs1 : List Nat} {pos : Pos} {ce : Ex} {g g1 : Gen}
theorem lc_imp {σ : L2.St} {H : Hp} {Q : VK} (hown : own.map (·.2) = g.own) (h : tF X.prog X.w X.K (eLc ce [g]) σ H Q) :
    tLc (tIB X.prog X.w X.K g.it) (gT X.prog X.w X.K g.tgt g.own) (tTs X.prog X.w X.K g.ifs) (tE X.prog X.w X.K ce) (own.map (·.2)) σ H Q := by
    obtain ⟨O, env, h1, h2, h3⟩ := h
    unfold eLc at h3
    rw [post_bind] at h3
    unfold comp at h3
    rw [post_bind] at h3
    refine ⟨O, env, h1, h2, post_mono h3 (fun ds h4 J H1 s1 wk => ?_) fun _ _ z => z⟩
    intro p hp
    rw [hown]
    refine lvl (acc0 := []) (O := fun a => O a ∨ a = p) (St := Grow X.prog X.w X.K H1 (fun a => O a ∨ a = p) p) wk (fun acc Hi st => ⟨st.1, fun a z => z.elim .inl fun e => .inr (by rw [e]; exact hp)⟩) ⟨same_new hp, [], upd_same, (rfl : ([] : List V) = [])⟩ h4 (fun acc Hi H' st e => st.same e) (fun acc Hi st q => ?_) (fun d x acc H' Nx st rx q => ?_)
    · obtain ⟨sm, vs, e, r⟩ := st
      exact q (.ref p) Hi (s1.trans sm) ⟨p, vs, rfl, none_before s1 hp, e, r⟩
    · rw [post_bind] at q
      obtain ⟨vs, e1, _⟩ := st.2
      refine ⟨_, wipeE env g.own, d, (h1.same s1).grow st.1 e1, (((h2.same s1).apart hp).same st.1).wipe, rx, post_mono q (fun env' q σ2 r2 w2 kp2 => ⟨w2.trans wipe_idem, ?_⟩) fun _ _ z => z⟩
      exact elt_step (fun _ => True) (fun _ _ _ _ => trivial) (fun _ _ _ => trivial) (h1.same s1) hp st trivial r2 (fun acc' H'' s' _ z => z H'' s') (fun _ z => z) (fun _ _ z => z) q
/-- [elt for tg in iter if ..] -/
theorem e_lc (hc : X.calm = true) (hN : X.N.Nodup) (hi : HIB X tg iter g.it) (ok : BlkOk X.N X.env.scope scope own) (hown : own.map (·.2) = g.own)
    (hg : ∀ (s : Shared) (H : Hp) (C : Addr) (cl : List (Str × Addr)) (fp : List Addr), HG (X.blk s H scope (compEnvC scope cl C X.env) fp) tg g.tgt g.own) (ht : ∀ (s : Shared) (H : Hp) (C : Addr) (cl : List (Str × Addr)) (fp : List Addr), HTs (X.blk s H scope (compEnvC scope cl C X.env) fp) ifs g.ifs)
    (he : ∀ (s : Shared) (H : Hp) (C : Addr) (cl : List (Str × Addr)) (fp : List Addr), HE (X.blk s H scope (compEnvC scope cl C X.env) fp) elt ce) (hs : ∀ x, foldedSetIterable iter X.env x = pure x) : HF X (.ListComp elt [⟨tg, iter, ifs, 0⟩] scope pos) (eLc ce [g]) :=
  (pe_lc (g := gT X.prog X.w X.K g.tgt g.own) (tt := tTs X.prog X.w X.K g.ifs) (te := tE X.prog X.w X.K ce) hc hN hi ok hg ht he hs).imp fun σ H Q h => lc_imp hown h
theorem lc2_imp {σ : L2.St} {H : Hp} {Q : VK} (hown : own.map (·.2) = g.own) (h : tF X.prog X.w X.K (eLc ce [g, g1]) σ H Q) :
    tLc2 (tIB X.prog X.w X.K g.it) (gT X.prog X.w X.K g.tgt g.own) (tTs X.prog X.w X.K g.ifs) (tI X.prog X.w X.K g1.it) (gT X.prog X.w X.K g1.tgt g1.own) (tTs X.prog X.w X.K g1.ifs) (tE X.prog X.w X.K ce) (own.map (·.2)) g1.own σ H Q := by
    obtain ⟨O, env, h1, h2, h3⟩ := h
    unfold eLc at h3
    rw [post_bind] at h3
    unfold comp at h3
    rw [post_bind] at h3
    refine ⟨O, env, h1, h2, post_mono h3 (fun ds h4 J H1 s1 wk => ?_) fun _ _ z => z⟩
    intro p hp
    rw [hown]
    refine lvl (acc0 := []) (O := fun a => O a ∨ a = p) (St := Grow X.prog X.w X.K H1 (fun a => O a ∨ a = p) p) wk (fun acc Hi st => ⟨st.1, fun a z => z.elim .inl fun e => .inr (by rw [e]; exact hp)⟩) ⟨same_new hp, [], upd_same, (rfl : ([] : List V) = [])⟩ h4 (fun acc Hi H' st e => st.same e) (fun acc Hi st q => ?_) (fun d x acc H' Nx st rx q => ?_)
    · obtain ⟨sm, vs, e, r⟩ := st
      exact q (.ref p) Hi (s1.trans sm) ⟨p, vs, rfl, none_before s1 hp, e, r⟩
    · rw [post_bind] at q
      obtain ⟨vs, e1, _⟩ := st.2
      refine ⟨_, wipeE env g.own, d, (h1.same s1).grow st.1 e1, (((h2.same s1).apart hp).same st.1).wipe, rx, post_mono q (fun env' q σ2 r2 w2 kp2 => ⟨w2.trans wipe_idem, ?_⟩) fun _ _ z => z⟩
      rw [post_bind] at q
      refine ⟨_, env', (h1.same s1).grow st.1 e1, r2, post_mono q (fun k q H3 s3 => ?_) fun _ _ z => z⟩
      have st3 := st.same s3
      cases k with
      | false => exact q H3 st3
      | true =>
        simp only [if_true] at q ⊢
        unfold comp at q
        rw [post_bind] at q
        obtain ⟨vs3, e3, _⟩ := st3.2
        refine ⟨_, env', (h1.same s1).grow st3.1 e3, r2.same s3, post_mono q (fun ds1 q J1 H4 s4 wk1 => ?_) fun _ _ z => z⟩
        have st4 := st3.same s4
        have hDp := (h1.same s1).grow st3.1 e3
        refine lvl (O := fun a => O a ∨ a = p) (St := fun acc Hi => Grow X.prog X.w X.K H1 (fun a => O a ∨ a = p) p acc Hi ∧ ∀ a o, a ≠ p → H4 a = some o → Hi a = some o) wk1 (fun acc Hi st => ⟨fun a o n e => st.2 a o (fun z => n (.inr z)) e, fun a z => .inl z⟩) ⟨st4, fun a o n e => e⟩ q (fun acc Hi H' st e => ⟨st.1.same e, fun a o n z => e _ _ (st.2 a o n z)⟩) (fun acc Hi st q => q Hi st.1) (fun d1 x1 acc1 H5 Nx1 st5 rx1 q => ?_)
        rw [post_bind] at q
        obtain ⟨vs5, e5, _⟩ := st5.1.2
        have c5 : Carry X.K H4 H5 (fun a => O a ∨ a = p) (fun a => O a ∨ a = p) := Pres.carry (hDp.same s4) ⟨fun a o n e => st5.2 a o (fun z => n (.inr z)) e, fun a z => .inl z⟩
        have r5 : RelX X.prog X.w X.K H5 (fun a => O a ∨ a = p) σ2 env' := fun j own e z => by
          cases own with
          | false =>
            obtain ⟨v, z1, _, z3⟩ := ((r2.same s3).same s4) j false e z
            have rr := Rep.carry c5 e v (z3 rfl)
            exact ⟨v, z1, rr.b, fun _ => rr⟩
          | true =>
            obtain ⟨k1, k2⟩ := kp2 j e z
            obtain ⟨k1, n⟩ := wipeE_get k1
            rw [wipe_get, if_neg n] at k2
            obtain ⟨v, z1, z2, _⟩ := h2 j true e k1
            exact ⟨v, k2.trans z1, ((z2.same s1).apart hp).same st5.1.1, fun z => nomatch z⟩
        refine ⟨_, wipeE env' g1.own, d1, (h1.same s1).grow st5.1.1 e5, r5.wipe, rx1, post_mono q (fun env2 q σ3 r3 w3 _ => ⟨w3.trans wipe_idem, ?_⟩) fun _ _ z => z⟩
        exact elt_step (fun Hi => ∀ a o, a ≠ p → H4 a = some o → Hi a = some o) (fun _ _ k e a o n z => e _ _ (k a o n z)) (fun _ _ k a o n z => by rw [upd_ne n]; exact k a o n z) (h1.same s1) hp st5.1 st5.2 r3 (fun acc' H'' s' e' z => z H'' ⟨s', e'⟩) (fun _ z => z) (fun _ _ z => z) q
/-- two clauses -/
theorem e_lc2 (hc : X.calm = true) (hN : X.N.Nodup) (hi : HIB X tg iter g.it) (ok : BlkOk X.N X.env.scope scope own) (hown : own.map (·.2) = g.own) (hv : ∀ i ∈ g1.own, i ∈ own.map (·.2))
    (hg : ∀ (s : Shared) (H : Hp) (C : Addr) (cl : List (Str × Addr)) (fp : List Addr), HG (X.blk s H scope (compEnvC scope cl C X.env) fp) tg g.tgt g.own) (ht : ∀ (s : Shared) (H : Hp) (C : Addr) (cl : List (Str × Addr)) (fp : List Addr), HTs (X.blk s H scope (compEnvC scope cl C X.env) fp) ifs g.ifs)
    (hi1 : ∀ (s : Shared) (H : Hp) (C : Addr) (cl : List (Str × Addr)) (fp : List Addr), HI (X.blk s H scope (compEnvC scope cl C X.env) fp) tg1 iter1 g1.it)
    (hg1 : ∀ (s : Shared) (H : Hp) (C : Addr) (cl : List (Str × Addr)) (fp : List Addr), HG (X.blk s H scope (compEnvC scope cl C X.env) fp) tg1 g1.tgt g1.own) (ht1 : ∀ (s : Shared) (H : Hp) (C : Addr) (cl : List (Str × Addr)) (fp : List Addr), HTs (X.blk s H scope (compEnvC scope cl C X.env) fp) ifs1 g1.ifs)
    (he : ∀ (s : Shared) (H : Hp) (C : Addr) (cl : List (Str × Addr)) (fp : List Addr), HE (X.blk s H scope (compEnvC scope cl C X.env) fp) elt ce) (hs : ∀ x, foldedSetIterable iter X.env x = pure x) (hs1 : ∀ env x, foldedSetIterable iter1 env x = pure x) :
    HF X (.ListComp elt [⟨tg, iter, ifs, 0⟩, ⟨tg1, iter1, ifs1, 0⟩] scope pos) (eLc ce [g, g1]) :=
  (pe_lc2 (g := gT X.prog X.w X.K g.tgt g.own) (tt := tTs X.prog X.w X.K g.ifs) (wi1 := tI X.prog X.w X.K g1.it) (g1 := gT X.prog X.w X.K g1.tgt g1.own) (tt1 := tTs X.prog X.w X.K g1.ifs) (te := tE X.prog X.w X.K ce) hc hN hi ok hv hg ht hi1 hg1 ht1 he hs hs1).imp fun σ H Q h => lc2_imp hown h
end
end
end PV
/-! statements -/
namespace PV
open PySem PySem.Spec PyProof.Rows L2
/-- a frame as it stands: H0, O0 were there at its start -/
structure RelS (P : Program) (w : World) (K : PySem.W.Frag) (H0 : Hp) (O0 : Addr → Prop) (H : Hp) (O : Addr → Prop) (σ : L2.St) (env : Env) : Prop where
  dom : Dom H O
  rel : RelX P w K H O σ env
  sm : Same H0 H
  up : ∀ a, O0 a → O a
  dn : ∀ a, O a → O0 a ∨ H0 a = none
  own : ∀ (i : Nat) (d : D), env[i]? = some (some (true, d)) → ∃ a, σ[i]? = some (some (.ref a)) ∧ O a ∧ ¬ O0 a
  ap : ∀ (i j : Nat) (d e : D) (a : Addr), env[i]? = some (some (true, d)) → env[j]? = some (some (true, e)) → σ[i]? = some (some (.ref a)) → σ[j]? = some (some (.ref a)) → i = j
section
variable {P : Program} {w : World} {K : PySem.W.Frag} {H0 H H' : Hp} {O0 O O' : Addr → Prop} {σ σ' : L2.St} {env env' : Env}
theorem RelS.same (h : RelS P w K H0 O0 H O σ env) (e : Same H H') : RelS P w K H0 O0 H' O σ env :=
  ⟨h.dom.same e, h.rel.same e, h.sm.trans e, h.up, h.dn, h.own, h.ap⟩
theorem RelS.set {i : Nat} {d : D} {v : V} (h : RelS P w K H0 O0 H O σ env) (hi : i < σ.length) (r : Rep P w K H O d v) : RelS P w K H0 O0 H O (σ.set i (some v)) (env.set i (some (false, d))) where
  dom := h.dom
  rel := h.rel.set hi r
  sm := h.sm
  up := h.up
  dn := h.dn
  own := fun j e z => by
    obtain ⟨z, q⟩ := Keep.set (v := some v) j e z
    rw [q]
    exact h.own j e z
  ap := fun j k e f a z1 z2 z3 z4 => by
    obtain ⟨z1, q1⟩ := Keep.set (v := some v) j e z1
    obtain ⟨z2, q2⟩ := Keep.set (v := some v) k f z2
    exact h.ap j k e f a z1 z2 (q1 ▸ z3) (q2 ▸ z4)
theorem RelX.len_env {i : Nat} {x : Option (Bool × D)} (h : (env.set i x)[i]? = some x) : i < env.length := by
  have := (List.getElem?_eq_some_iff.mp h).1
  simpa using this
/-- a new thing, owned -/
theorem RelS.new {i : Nat} {d : D} {v : V} (h : RelS P w K H0 O0 H O σ env) (hi : i < σ.length) (s : Same H H') (r : RepF P w K H H' O d v) : ∃ O', RelS P w K H0 O0 H' O' (σ.set i (some v)) (env.set i (some (isMut d, d))) := by
  by_cases hm : isMut d = true
  · rw [hm]
    obtain ⟨p, rfl, hp, hc, rb⟩ : ∃ p, v = .ref p ∧ H p = none ∧ (∃ u, H' p = some u ∧ chg u = true) ∧ RepB P w K H' (fun a => O a ∨ a = p) d (.ref p) := by
      cases d with
      | lst l =>
        obtain ⟨p, vs, rfl, hp, e, r⟩ := r
        exact ⟨p, rfl, hp, ⟨_, e, rfl⟩, p, vs, rfl, e, r⟩
      | dct l =>
        obtain ⟨p, o, es, ep, rfl, hp, e, m, x, dd, r⟩ := r
        exact ⟨p, rfl, hp, ⟨_, e, rfl⟩, p, o, es, ep, rfl, e, m, x, dd, r⟩
      | _ => cases hm
    have nO : ¬ O p := h.dom.not hp
    have key : ∀ (j : Nat) (e : D), (env.set i (some (true, d)))[j]? = some (some (true, e)) → (j = i ∧ (σ.set i (some (.ref p)))[j]? = some (some (.ref p))) ∨ (j ≠ i ∧ env[j]? = some (some (true, e)) ∧ (σ.set i (some (.ref p)))[j]? = σ[j]?) := fun j e z => by
      by_cases q : j = i
      · subst q
        exact .inl ⟨rfl, List.getElem?_set_self hi⟩
      · rw [List.getElem?_set_ne (Ne.symm q)] at z
        exact .inr ⟨q, z, List.getElem?_set_ne (Ne.symm q)⟩
    refine ⟨fun a => O a ∨ a = p, ?_, fun j own e z => ?_, h.sm.trans s, fun a z => .inl (h.up a z), fun a z => ?_, fun j e z => ?_, fun j k e f a z1 z2 z3 z4 => ?_⟩
    · intro a z
      rcases z with z | z
      · exact h.dom.same s a z
      · rw [z]; exact hc
    · by_cases q : j = i
      · subst q
        rw [List.getElem?_set] at z
        simp only [if_pos] at z
        split at z
        · cases z
          exact ⟨.ref p, List.getElem?_set_self hi, rb, fun z => nomatch z⟩
        · cases z
      · rw [List.getElem?_set_ne (Ne.symm q)] at z
        obtain ⟨u, h1, h2, h3⟩ := h.rel j own e z
        exact ⟨u, by rw [List.getElem?_set_ne (Ne.symm q)]; exact h1, (h2.apart hp).same s, fun z => ((h3 z).apart hp).same s⟩
    · rcases z with z | z
      · exact h.dn a z
      · rw [z]; exact .inr (none_before h.sm hp)
    · rcases key j e z with ⟨rfl, q⟩ | ⟨n, z, q⟩
      · exact ⟨p, q, .inr rfl, fun z => nO (h.up p z)⟩
      · obtain ⟨a, h1, h2, h3⟩ := h.own j e z
        exact ⟨a, q.trans h1, .inl h2, h3⟩
    · rcases key j e z1 with ⟨y1, q⟩ | ⟨n, y1, q⟩
      · rcases key k f z2 with ⟨y2, q'⟩ | ⟨n', y2, q'⟩
        · rw [y1, y2]
        · rw [q] at z3
          cases z3
          rw [q'] at z4
          obtain ⟨b, h1, h2, _⟩ := h.own k f y2
          rw [z4] at h1
          cases h1
          exact absurd h2 nO
      · rcases key k f z2 with ⟨y2, q'⟩ | ⟨n', y2, q'⟩
        · rw [q'] at z4
          cases z4
          rw [q] at z3
          obtain ⟨b, h1, h2, _⟩ := h.own j e y1
          rw [z3] at h1
          cases h1
          exact absurd h2 nO
        · exact h.ap j k e f a y1 y2 (q ▸ z3) (q' ▸ z4)
  · have hm' : isMut d = false := by simpa using hm
    rw [hm']
    exact ⟨O, (h.same s).set hi (r.rep h.dom)⟩
/-- the same data at an owned place -/
theorem RepB.root {d : D} {a : Addr} (h : RepB P w K H O d (.ref a)) (n : ¬ O a) : Rep P w K H O d (.ref a) := by
  cases d with
  | lst l => obtain ⟨b, vs, e, r⟩ := h; cases e; exact ⟨a, vs, rfl, n, r⟩
  | dct l => obtain ⟨b, o, es, ep, e, r⟩ := h; cases e; exact ⟨a, o, es, ep, rfl, n, r⟩
  | _ => exact h
/-- an owned name's thing is given away -/
theorem RelS.fz1 (h : RelS P w K H0 O0 H O σ env) (i : Nat) : ∃ O', RelS P w K H0 O0 H O' σ (match env[i]? with | some (some (_, d)) => env.set i (some (false, d)) | _ => env) := by
  cases e : env[i]? with
  | none => exact ⟨O, h⟩
  | some x =>
    cases x with
    | none => exact ⟨O, h⟩
    | some q =>
      obtain ⟨b, d⟩ := q
      cases b with
      | false =>
        have he : env.set i (some (false, d)) = env := by
          obtain ⟨hl, he⟩ := List.getElem?_eq_some_iff.mp e
          rw [← he, List.set_getElem_self]
        show ∃ O', RelS P w K H0 O0 H O' σ (env.set i (some (false, d)))
        rw [he]
        exact ⟨O, h⟩
      | true =>
        show ∃ O', RelS P w K H0 O0 H O' σ (env.set i (some (false, d)))
        obtain ⟨p, h1, h2, h3⟩ := h.own i d e
        have hl := (List.getElem?_eq_some_iff.mp e).1
        have anti : ∀ a, (O a ∧ a ≠ p) → O a := fun a z => z.1
        have key : ∀ (j : Nat) (f : D), (env.set i (some (false, d)))[j]? = some (some (true, f)) → j ≠ i ∧ env[j]? = some (some (true, f)) := fun j f z => by
          by_cases q : j = i
          · subst q
            rw [List.getElem?_set_self hl] at z
            cases z
          · rw [List.getElem?_set_ne (Ne.symm q)] at z
            exact ⟨q, z⟩
        refine ⟨fun a => O a ∧ a ≠ p, fun a z => h.dom a z.1, fun j own f z => ?_, h.sm, fun a z => ⟨h.up a z, fun q => h3 (q ▸ z)⟩, fun a z => h.dn a z.1, fun j f z => ?_, fun j k f g a z1 z2 z3 z4 => h.ap j k f g a (key j f z1).2 (key k g z2).2 z3 z4⟩
        · by_cases q : j = i
          · subst q
            rw [List.getElem?_set_self hl] at z
            cases z
            obtain ⟨u, g1, g2, _⟩ := h.rel j true d e
            rw [h1] at g1
            cases g1
            have rr := (g2.anti anti).root (fun z => z.2 rfl)
            exact ⟨.ref p, h1, rr.b, fun _ => rr⟩
          · rw [List.getElem?_set_ne (Ne.symm q)] at z
            obtain ⟨u, g1, g2, g3⟩ := h.rel j own f z
            exact ⟨u, g1, g2.anti anti, fun z => (g3 z).anti anti⟩
        · obtain ⟨n, z⟩ := key j f z
          obtain ⟨a, g1, g2, g3⟩ := h.own j f z
          exact ⟨a, g1, ⟨g2, fun q => n (h.ap j i f d a z e g1 (by rw [q]; exact h1))⟩, g3⟩
theorem RelS.fz (is : List Nat) : ∀ {O : Addr → Prop} {env : Env}, RelS P w K H0 O0 H O σ env → ∃ O', RelS P w K H0 O0 H O' σ (PV.fz is env) := by
  induction is with
  | nil => exact fun h => ⟨_, h⟩
  | cons i r ih =>
    intro O env h
    obtain ⟨O', h'⟩ := h.fz1 i
    exact ih h'
/-- what stands and is not one's own -/
noncomputable def cutH (H : Hp) (O O0 : Addr → Prop) : Hp := fun a => open Classical in if O a ∧ ¬ O0 a then none else H a
theorem cutH_in {a : Addr} (h : ¬ (O a ∧ ¬ O0 a)) : cutH H O O0 a = H a := by unfold cutH; rw [if_neg h]
theorem cutH_some {a : Addr} {u : HO} (h : cutH H O O0 a = some u) : H a = some u ∧ ¬ (O a ∧ ¬ O0 a) := by
  unfold cutH at h
  split at h
  · cases h
  · exact ⟨h, by assumption⟩
theorem cutH_none {a : Addr} (h : cutH H O O0 a = none) : (O a ∧ ¬ O0 a) ∨ H a = none := by
  unfold cutH at h
  split at h
  · exact .inl (by assumption)
  · exact .inr h
theorem cutH_own {a : Addr} (h : O a) : O0 a ∨ cutH H O O0 a = none := by
  by_cases q : O0 a
  · exact .inl q
  · refine .inr ?_
    unfold cutH
    rw [if_pos ⟨h, q⟩]
theorem RelS.enter (h : RelS P w K H0 O0 H O σ env) : RelS P w K (cutH H O O0) O0 H O σ env :=
  ⟨h.dom, h.rel, fun a u e => (cutH_some e).1, h.up, fun a z => cutH_own z, h.own, h.ap⟩
theorem RelS.back (h : RelS P w K H0 O0 H O σ env) (e : Same (cutH H O O0) H') : Same H0 H' := fun a u z => by
  refine e a u ?_
  have q : ¬ (O a ∧ ¬ O0 a) := fun ⟨z1, z2⟩ => (h.dn a z1).elim z2 (some_no z)
  rw [cutH_in q]
  exact h.sm a u z
theorem RelS.leave {σ' : L2.St} {env' : Env} (h : RelS P w K H0 O0 H O σ env) (k : RelS P w K (cutH H O O0) O0 H' O' σ' env') : RelS P w K H0 O0 H' O' σ' env' :=
  ⟨k.dom, k.rel, h.back k.sm, k.up, fun a z => (k.dn a z).elim .inl fun q => (cutH_none q).elim (fun ⟨z1, z2⟩ => h.dn a z1) fun q => .inr (none_before h.sm q), k.own, k.ap⟩
theorem RelS.pres {σ' : L2.St} {env' : Env} (h : RelS P w K H0 O0 H O σ env) (k : RelS P w K (cutH H O O0) O0 H' O' σ' env') : Pres H O H' O' :=
  ⟨fun a u n e => k.sm a u (by rw [cutH_in fun z => n z.1]; exact e), fun a z => (k.dn a z).elim (fun z => .inl (h.up a z)) fun q => (cutH_none q).elim (fun z => .inl z.1) .inr⟩
end
section
variable (P : Program) (w : World) (K : PySem.W.Frag)
def Fin (H0 : Hp) (O0 : Addr → Prop) (D : Ends) : Out → Prop
  | .nx e => ∀ σ' H' O', RelS P w K H0 O0 H' O' σ' e → D.nx σ' H'
  | .rt d => ∀ v H', Same H0 H' → Rep P w K H' O0 d v → D.rt v H'
  | .bk e => ∀ σ' H' O', RelS P w K H0 O0 H' O' σ' e → D.bk σ' H'
/-- a statement, as the evaluator says -/
def tS (c : St) : TS := fun D σ H => ∃ H0 O0 O env, RelS P w K H0 O0 H O σ env ∧ (c env).post (Fin P w K H0 O0 D) noE
def gS (t : Tgt) : TG := fun x σ H Q => ∃ H0 O0 O env d, RelS P w K H0 O0 H O σ env ∧ Rep P w K H O d x ∧ (t d env).post (fun env' => ∀ σ' H' O', RelS P w K H0 O0 H' O' σ' env' → Q σ' H') noE
def gSs (ts : List Tgt) : TGs := fun xs σ H Q => ∃ H0 O0 O env ds, RelS P w K H0 O0 H O σ env ∧ RepL P w K H O ds xs ∧ (tAll ts ds env).post (fun env' => ∀ σ' H' O', RelS P w K H0 O0 H' O' σ' env' → Q σ' H') noE
end
section
variable {X : Cx}
abbrev HS (X : Cx) (st : Stmt) (c : St) : Prop := PS X st (tS X.prog X.w X.K c)
abbrev HSs (X : Cx) (sts : List Stmt) (c : St) : Prop := PSs X sts (tS X.prog X.w X.K c)
abbrev HGS (X : Cx) (tg : Expr) (t : Tgt) : Prop := PG X tg (gS X.prog X.w X.K t)
abbrev HGSs (X : Cx) (tg : List Expr) (t : List Tgt) : Prop := PGs X tg (gSs X.prog X.w X.K t)
theorem _root_.L2.PS.imp {e : Stmt} {t t' : TS} (h : PS X e t) (i : ∀ D σ H, t' D σ H → t D σ H) : PS X e t' := ⟨fun pins s σ H D I q => h.run pins s σ H D I (i D σ H q)⟩
theorem _root_.L2.PSs.imp {e : List Stmt} {t t' : TS} (h : PSs X e t) (i : ∀ D σ H, t' D σ H → t D σ H) : PSs X e t' := ⟨fun pins s σ H D I q => h.run pins s σ H D I (i D σ H q)⟩
theorem no_bad {α : Type} {m : M D} {R : α → Prop} (h : m.post (fun _ => (M.bad : M α).post R noE) noE) : False := post_false h fun _ _ z => z
/-! ### blocks -/
theorem b_nil : HSs X [] (sBlk []) := pss_nil.imp fun D σ H ⟨H0, O0, O, env, r, h⟩ => h σ H O r
theorem b_one {st : Stmt} {c : St} (h : HS X st c) : HSs X [st] (sBlk [c]) := pss_one h
theorem seq_imp {c c' : St} {D : Ends} {σ : L2.St} {H : Hp} (h : tS X.prog X.w X.K (sSeq c c') D σ H) : tSeq (tS X.prog X.w X.K c) (tS X.prog X.w X.K c') D σ H := by
  obtain ⟨H0, O0, O, env, r, h⟩ := h
  unfold sSeq at h
  rw [post_bind] at h
  refine ⟨H0, O0, O, env, r, post_mono h (fun o q => ?_) fun _ _ z => z⟩
  cases o with
  | nx e => exact fun σ' H' O' r' => ⟨H0, O0, O', e, r', q⟩
  | rt d => exact q
  | bk e => exact q
theorem b_cons {st : Stmt} {sts : List Stmt} {c c' : St} {cs : List St} (h1 : HS X st c) (h2 : HSs X sts (sBlk (c' :: cs))) : HSs X (st :: sts) (sBlk (c :: c' :: cs)) := (pss_cons h1 h2).imp fun D σ H h => seq_imp h
theorem s_fz {is : List Nat} {st : Stmt} {c : St} (h : HS X st c) : HS X st (sFz is c) := h.imp fun D σ H ⟨H0, O0, O, env, r, h⟩ =>
  let ⟨O', r'⟩ := r.fz is
  ⟨H0, O0, O', _, r', h⟩
/-! ### targets -/
theorem gs_name {i : Nat} {x : Str} {pos : Pos} (hN : X.N.Nodup) (hi : X.N[i]? = some x) (hx : Loc X.env.scope x) (hf : X.fn x = true ∨ X.env.scope.names.lookup x = some .local) : HGS X (.Name x pos) (tName i) := by
  refine ⟨fun pins s σ H v u Q I r h => ?_⟩
  obtain ⟨H0, O0, O, env, d, h1, h2, h3⟩ := h
  have hl : i < σ.length := by
    rw [I.len]
    exact (List.getElem?_eq_some_iff.mp hi).1
  exact (pg_name hN hi hx hf).run pins s σ H v u Q I r (h3 _ H O (h1.set hl h2))
theorem gss_nil : HGSs X [] [] := pgs_nil.imp fun xs σ H Q ⟨H0, O0, O, env, ds, h1, h2, h3⟩ => by
  cases ds with
  | nil =>
    cases h2
    exact ⟨rfl, h3 σ H O h1⟩
  | cons d r => exact h3.elim
theorem gss_cons {e : Expr} {es : List Expr} {t : Tgt} {ts : List Tgt} (h1 : HGS X e t) (h2 : HGSs X es ts) (hs : (assignEach (e :: es) X.env).map (·.2) = assign e X.env :: (assignEach es X.env).map (·.2)) : HGSs X (e :: es) (t :: ts) :=
  (pgs_cons h1 h2 hs).imp fun xs σ H Q ⟨H0, O0, O, env, ds, k1, k2, k3⟩ => by
    cases ds with
    | nil => exact k3.elim
    | cons d r =>
      obtain ⟨v, r', rfl, q1, q2⟩ := k2
      unfold tAll at k3
      rw [post_bind] at k3
      refine ⟨v, r', rfl, _, O0, O, env, d, k1.enter, q1, post_mono k3 (fun env' z σ' H' O' r1 => ?_) fun _ _ z => z⟩
      exact ⟨H0, O0, O', env', r, k1.leave r1, RepL.carry ((k1.pres r1).carry k1.dom) _ _ q2, z⟩
theorem gs_tup {es : List Expr} {ts : List Tgt} {k : Nat} {pos : Pos} (hc : X.calm = true) (h : HGSs X es ts) (hn : (assignEach es X.env).length = ts.length) (hst : (assignEach es X.env).findIdx? (·.1) = none) : HGS X (.Tuple es k pos) (tTup ts) :=
  (pg_tup hc h hn hst).imp fun x σ H Q ⟨H0, O0, O, env, d, h1, h2, h3⟩ => by
    unfold tTup at h3
    cases d with
    | tup l =>
      rw [post_ck] at h3
      obtain ⟨a, xs, rfl, e, r⟩ := h2
      exact ⟨a, xs, rfl, e, by rw [r.length]; exact h3.1, H0, O0, O, env, l, h1, r, h3.2⟩
    | _ => exact h3.elim
/-- what an owned name stands for is written -/
theorem RelS.write {H0 H : Hp} {O0 O : Addr → Prop} {σ : L2.St} {env : Env} {i : Nat} {d d' : D} {a : Addr} {u : HO} (h : RelS X.prog X.w X.K H0 O0 H O σ env) (he : env[i]? = some (some (true, d))) (ha : σ[i]? = some (some (.ref a))) (hc : chg u = true)
    (r : RepB X.prog X.w X.K (upd H a u) O d' (.ref a)) : RelS X.prog X.w X.K H0 O0 (upd H a u) O σ (env.set i (some (true, d'))) := by
  obtain ⟨b, h1, h2, h3⟩ := h.own i d he
  rw [ha] at h1
  cases h1
  obtain ⟨v, hv, hvc⟩ := h.dom a h2
  have c : Carry X.K H (upd H a u) O O := Carry.write h2 hv hvc fun _ z => z
  have hl := (List.getElem?_eq_some_iff.mp he).1
  have key : ∀ (j : Nat) (f : D), (env.set i (some (true, d')))[j]? = some (some (true, f)) → ∃ f', env[j]? = some (some (true, f')) := fun j f z => by
    by_cases q : j = i
    · exact ⟨d, q ▸ he⟩
    · rw [List.getElem?_set_ne (Ne.symm q)] at z
      exact ⟨f, z⟩
  refine ⟨fun b z => ?_, fun j own f z => ?_, fun b o e => ?_, h.up, h.dn, fun j f z => ?_, fun j k f g b z1 z2 z3 z4 => ?_⟩
  · by_cases q : b = a
    · rw [q, upd_same]; exact ⟨u, rfl, hc⟩
    · rw [upd_ne q]; exact h.dom b z
  · by_cases q : j = i
    · subst q
      rw [List.getElem?_set_self hl] at z
      cases z
      exact ⟨.ref a, ha, r, fun z => nomatch z⟩
    · rw [List.getElem?_set_ne (Ne.symm q)] at z
      obtain ⟨v', g1, g2, g3⟩ := h.rel j own f z
      cases own with
      | false =>
        have rr := Rep.carry c f v' (g3 rfl)
        exact ⟨v', g1, rr.b, fun _ => rr⟩
      | true =>
        refine ⟨v', g1, ?_, fun z => nomatch z⟩
        obtain ⟨p, k1, k2, k3⟩ := h.own j f z
        rw [g1] at k1
        cases k1
        have ne : p ≠ a := fun e => q (h.ap j i f d a z he (e ▸ g1) ha)
        cases f with
        | lst l => obtain ⟨p', vs, e, e1, e2⟩ := g2; cases e; exact ⟨p, vs, rfl, by rw [upd_ne ne]; exact e1, RepL.carry c _ _ e2⟩
        | dct l => obtain ⟨p', o, es, ep, e, e1, m, x, dd, e2⟩ := g2; cases e; exact ⟨p, o, es, ep, rfl, by rw [upd_ne ne]; exact e1, m, x, dd, RepK.carry c _ _ e2⟩
        | _ => exact Rep.carry c _ _ g2
  · have n : b ≠ a := fun q => (h.dn a h2).elim h3 (some_no (q ▸ e))
    rw [upd_ne n]
    exact h.sm b o e
  · obtain ⟨f', z⟩ := key j f z
    exact h.own j f' z
  · obtain ⟨f', z1⟩ := key j f z1
    obtain ⟨g', z2⟩ := key k g z2
    exact h.ap j k f' g' b z1 z2 z3 z4
theorem upd_noop {H : Hp} {a : Addr} {u : HO} (h : H a = some u) : upd H a u = H := by
  funext b
  by_cases q : b = a
  · rw [q, upd_same, h]
  · exact upd_ne q
theorem ixN_lt {n : Nat} {i : Int} {j : Nat} (h : PV.ixN n i = some j) : j < n := by
  unfold PV.ixN at h
  split at h
  · split at h
    · cases h; omega
    · cases h
  · split at h
    · cases h; omega
    · cases h
/-- x[e] = .., x an owned list or dict -/
def tSet (P : Program) (w : World) (K : PySem.W.Frag) : TSet := fun o i v H Q => ∃ O dc dk d, Dom H O ∧ RepB P w K H O dc o ∧ Rep P w K H O dk i ∧ Rep P w K H O d v ∧
  (setItem dc dk d).post (fun dc' => ∀ a u, o = .ref a → O a → chg u = true → RepB P w K (upd H a u) O dc' (.ref a) → Q (upd H a u)) noE
theorem set_any (hu : X.A.units + 64 < cLine) : PSet X (fun o i v H Q => (∀ a, o = .ref a → ∃ O dc dk d, O a ∧ Dom H O ∧ RepB X.prog X.w X.K H O dc o ∧ Rep X.prog X.w X.K H O dk i ∧ Rep X.prog X.w X.K H O d v ∧
    (setItem dc dk d).post (fun dc' => ∀ u, chg u = true → RepB X.prog X.w X.K (upd H a u) O dc' (.ref a) → Q (upd H a u)) noE) ∧ ∃ a, o = .ref a) := by
  intro pins s σ H o i v ov iv u Q I ro ri rv ⟨h0, a, ha⟩
  obtain ⟨O, dc, dk, d, hO, hD, r1, r2, r3, h⟩ := h0 a ha
  subst ha
  cases dc with
  | lst l =>
    obtain ⟨p, vs, e, e1, e2⟩ := r1
    cases e
    cases dk with
    | int k =>
      simp only [setItem] at h
      cases hk : PV.ixN l.length k with
      | none => rw [hk] at h; exact h.elim
      | some j =>
        rw [hk] at h
        cases r2
        have c : Carry X.K H (upd H a (.lst (vs.set j v))) O O := Carry.write hO e1 rfl fun _ z => z
        have hk' : L2.ixN vs.length k = some j := by rw [e2.length, ← ixN_eq]; exact hk
        refine set_list pins s σ H _ _ v ov iv u Q I ro ri rv ⟨a, vs, k, j, rfl, rfl, e1, hk', ?_⟩
        exact h _ rfl ⟨a, _, rfl, upd_same, RepL.set (Rep.carry c _ _ r3) j (RepL.carry c _ _ e2)⟩
    | _ => exact h.elim
  | _ => exact h.elim
theorem gs_sub (hu : X.A.units + 64 < cLine) {i : Nat} {x : Str} {e : Expr} {c : Ex} {p pos : Pos} (hN : X.N[i]? = some x) (hv : Vis X.env.scope x) (hd : (x == ("__debug__" : Str)) = false) (hcd : (x == ("__classdict__" : Str)) = false) (he : HE X e c)
    (ha : ∀ v, assign (.Subscript (.Name x p) e pos) X.env v = (do
      let ov ← holding [v] (eval (.Name x p) X.env)
      let iv ← holding [v, ov] (eval e X.env)
      standAt pos
      holding [v, ov, iv] (PySem.setItem ov iv v)
      release [v, ov, iv] [])) : HGS X (.Subscript (.Name x p) e pos) (tSub i c) :=
  (pg_sub (pe_var hN hv hd hcd) he (set_any hu) ha).imp fun xv σ H Q ⟨H0, O0, O, env, d, h1, h2, h3⟩ => by
    unfold tSub at h3
    rw [post_bind] at h3
    have hsome : ∃ dc, env[i]? = some (some (true, dc)) ∧ (c env).post (fun k => (setItem dc k d >>= fun c' => M.ret (env.set i (some (true, c')))).post (fun env' => ∀ σ' H' O', RelS X.prog X.w X.K H0 O0 H' O' σ' env' → Q σ' H') noE) noE := by
      cases e1 : env[i]? with
      | none =>
        simp only [e1] at h3
        exact (no_bad h3).elim
      | some q =>
        cases q with
        | none => simp only [e1] at h3; exact (no_bad h3).elim
        | some q =>
          obtain ⟨b, dc⟩ := q
          cases b with
          | false => simp only [e1] at h3; exact (no_bad h3).elim
          | true => simp only [e1] at h3; exact ⟨dc, rfl, h3⟩
    obtain ⟨dc, e1, h3⟩ := hsome
    obtain ⟨a, k1, k2, k3⟩ := h1.own i dc e1
    obtain ⟨v', g1, g2, _⟩ := h1.rel i true dc e1
    rw [k1] at g1
    cases g1
    refine ⟨.ref a, k1, O, env, h1.dom, h1.rel, post_mono h3 (fun dk q kv H1 s1 rk => ?_) fun _ _ z => z⟩
    rw [post_bind] at q
    refine ⟨fun b eb => ?_, a, rfl⟩
    cases eb
    have h1' := h1.same s1
    exact ⟨O, dc, dk, d, k2, h1'.dom, g2.same s1, rk, h2.same s1, post_mono q (fun dc' z u hc r => z σ _ O (h1'.write e1 k1 hc r)) fun _ _ z => z⟩
/-! ### assignments -/
theorem tgt_pre {t : Tgt} {c : Ex} {g : TG} {te : TE} {D : Ends} {σ : L2.St} {H : Hp} (hg : ∀ x σ H Q, gS X.prog X.w X.K t x σ H Q → g x σ H Q) (he : ∀ σ H Q, tE X.prog X.w X.K c σ H Q → te σ H Q) (h : tS X.prog X.w X.K (sTgt t c) D σ H) : tAsg te g D σ H := by
  obtain ⟨H0, O0, O, env, r, h⟩ := h
  unfold sTgt at h
  rw [post_bind] at h
  refine he _ _ _ ⟨O, env, r.dom, r.rel, post_mono h (fun d q v H1 s1 rv => ?_) fun _ _ z => z⟩
  rw [post_bind] at q
  exact hg _ _ _ _ ⟨H0, O0, O, env, d, r.same s1, rv, q⟩
theorem s_tgt {tg e : Expr} {t : Tgt} {c : Ex} {pos : Pos} (he : HE X e c) (hg : HGS X tg t) (hs : swapsWithSole [tg] e pos.line X.env = pure false) (hw : swappedStores [tg] e X.env = pure none) (h1 : (assignEach [tg] X.env).map (·.2) = [assign tg X.env]) : HS X (.Assign [tg] e pos) (sTgt t c) :=
  (ps_asg he hg hs hw h1).imp fun D σ H h => tgt_pre (fun _ _ _ _ z => z) (fun _ _ _ z => z) h
theorem name_pre {i : Nat} {c : Ex} {te : TE} {D : Ends} {σ : L2.St} {H : Hp} (hl : i < σ.length) (he : ∀ σ H Q, tE X.prog X.w X.K c σ H Q → te σ H Q) (h : tS X.prog X.w X.K (sTgt (tName i) c) D σ H) : tAsg te (gName i) D σ H := by
  obtain ⟨H0, O0, O, env, r, h⟩ := h
  unfold sTgt at h
  rw [post_bind] at h
  refine he _ _ _ ⟨O, env, r.dom, r.rel, post_mono h (fun d q v H1 s1 rv => ?_) fun _ _ z => z⟩
  exact q _ _ O ((r.same s1).set hl rv)
theorem own_pre {i : Nat} {c : Ex} {te : TE} {D : Ends} {σ : L2.St} {H : Hp} (hl : i < σ.length) (he : ∀ σ H Q, tF X.prog X.w X.K c σ H Q → te σ H Q) (h : tS X.prog X.w X.K (sOwn i c) D σ H) : tAsg te (gName i) D σ H := by
  obtain ⟨H0, O0, O, env, r, h⟩ := h
  unfold sOwn at h
  rw [post_bind] at h
  refine he _ _ _ ⟨O, env, r.dom, r.rel, post_mono h (fun d q v H1 s1 rv => ?_) fun _ _ z => z⟩
  obtain ⟨O', r'⟩ := r.new hl s1 rv
  exact q _ _ O' r'
/-- with the length of the frame at hand -/
theorem ps_len {st : Stmt} {t t' : TS} {i : Nat} {x : Str} (hi : X.N[i]? = some x) (h : PS X st t) (k : ∀ D σ H, i < σ.length → t' D σ H → t D σ H) : PS X st t' := ⟨fun pins s σ H D I q => h.run pins s σ H D I (k D σ H (by
  rw [I.len]
  exact (List.getElem?_eq_some_iff.mp hi).1) q)⟩
section
variable {i : Nat} {x : Str} {e : Expr} {c : Ex} {pos pos' : Pos}
theorem s_set (hN : X.N.Nodup) (hi : X.N[i]? = some x) (hx : Loc X.env.scope x) (hf : X.fn x = true ∨ X.env.scope.names.lookup x = some .local) (he : HE X e c) (hs : swapsWith e (some (.Name x pos')) pos.line X.env = pure false) : HS X (.Assign [.Name x pos'] e pos) (sTgt (tName i) c) :=
  ps_len hi (ps_set hN hi hx he hs hf) fun D σ H hl h => name_pre hl (fun _ _ _ z => z) h
theorem s_own (hN : X.N.Nodup) (hi : X.N[i]? = some x) (hx : Loc X.env.scope x) (hf : X.fn x = true ∨ X.env.scope.names.lookup x = some .local) (he : HF X e c) (hs : swapsWith e (some (.Name x pos')) pos.line X.env = pure false) : HS X (.Assign [.Name x pos'] e pos) (sOwn i c) :=
  ps_len hi (ps_set hN hi hx he hs hf) fun D σ H hl h => own_pre hl (fun _ _ _ z => z) h
end
theorem tE_tF {c : Ex} {σ : L2.St} {H : Hp} {Q : VK} (h : tE X.prog X.w X.K c σ H Q) : tF X.prog X.w X.K c σ H Q :=
  let ⟨O, env, h1, h2, h3⟩ := h
  ⟨O, env, h1, h2, post_mono h3 (fun d q v H' s r => q v H' s (r.rep h1)) fun _ _ z => z⟩
section
variable {i : Nat} {y : Str} {py : Pos} {elt tg iter tg1 iter1 : Expr} {ifs ifs1 : List Expr} {scope : Scope} {own : List (Str × Nat)} {pos spos : Pos} {ce : Ex} {g g1 : Gen}
theorem s_setLc (hc : X.calm = true) (hN : X.N.Nodup) (hy : X.N[i]? = some y) (hyl : X.env.scope.names.lookup y = some .local) (hsw : swapsWith (.ListComp elt [⟨tg, iter, ifs, 0⟩] scope pos) (some (.Name y py)) spos.line X.env = pure true)
    (hi : HIB X tg iter g.it) (ok : BlkOk X.N X.env.scope scope own) (hown : own.map (·.2) = g.own)
    (hg : ∀ (s : Shared) (H : Hp) (C : Addr) (cl : List (Str × Addr)) (fp : List Addr), HG (X.blk s H scope (compEnvC scope cl C X.env) fp) tg g.tgt g.own) (ht : ∀ (s : Shared) (H : Hp) (C : Addr) (cl : List (Str × Addr)) (fp : List Addr), HTs (X.blk s H scope (compEnvC scope cl C X.env) fp) ifs g.ifs)
    (he : ∀ (s : Shared) (H : Hp) (C : Addr) (cl : List (Str × Addr)) (fp : List Addr), HE (X.blk s H scope (compEnvC scope cl C X.env) fp) elt ce) (hs : ∀ x, foldedSetIterable iter X.env x = pure x) :
    HS X (.Assign [.Name y py] (.ListComp elt [⟨tg, iter, ifs, 0⟩] scope pos) spos) (sTgt (tName i) (eLc ce [g])) ∧ HS X (.Assign [.Name y py] (.ListComp elt [⟨tg, iter, ifs, 0⟩] scope pos) spos) (sOwn i (eLc ce [g])) := by
  have k := ps_setLc (i := i) (g := gT X.prog X.w X.K g.tgt g.own) (tt := tTs X.prog X.w X.K g.ifs) (te := tE X.prog X.w X.K ce) hc hN hy hyl hsw hi ok hg ht he hs
  exact ⟨ps_len hy k fun D σ H hl h => name_pre hl (fun _ _ _ z => lc_imp hown (tE_tF z)) h, ps_len hy k fun D σ H hl h => own_pre hl (fun _ _ _ z => lc_imp hown z) h⟩
theorem s_setLc2 (hc : X.calm = true) (hN : X.N.Nodup) (hy : X.N[i]? = some y) (hyl : X.env.scope.names.lookup y = some .local) (hsw : swapsWith (.ListComp elt [⟨tg, iter, ifs, 0⟩, ⟨tg1, iter1, ifs1, 0⟩] scope pos) (some (.Name y py)) spos.line X.env = pure true)
    (hi : HIB X tg iter g.it) (ok : BlkOk X.N X.env.scope scope own) (hown : own.map (·.2) = g.own) (hv : ∀ i ∈ g1.own, i ∈ own.map (·.2))
    (hg : ∀ (s : Shared) (H : Hp) (C : Addr) (cl : List (Str × Addr)) (fp : List Addr), HG (X.blk s H scope (compEnvC scope cl C X.env) fp) tg g.tgt g.own) (ht : ∀ (s : Shared) (H : Hp) (C : Addr) (cl : List (Str × Addr)) (fp : List Addr), HTs (X.blk s H scope (compEnvC scope cl C X.env) fp) ifs g.ifs)
    (hi1 : ∀ (s : Shared) (H : Hp) (C : Addr) (cl : List (Str × Addr)) (fp : List Addr), HI (X.blk s H scope (compEnvC scope cl C X.env) fp) tg1 iter1 g1.it)
    (hg1 : ∀ (s : Shared) (H : Hp) (C : Addr) (cl : List (Str × Addr)) (fp : List Addr), HG (X.blk s H scope (compEnvC scope cl C X.env) fp) tg1 g1.tgt g1.own) (ht1 : ∀ (s : Shared) (H : Hp) (C : Addr) (cl : List (Str × Addr)) (fp : List Addr), HTs (X.blk s H scope (compEnvC scope cl C X.env) fp) ifs1 g1.ifs)
    (he : ∀ (s : Shared) (H : Hp) (C : Addr) (cl : List (Str × Addr)) (fp : List Addr), HE (X.blk s H scope (compEnvC scope cl C X.env) fp) elt ce) (hs : ∀ x, foldedSetIterable iter X.env x = pure x) (hs1 : ∀ env x, foldedSetIterable iter1 env x = pure x) :
    HS X (.Assign [.Name y py] (.ListComp elt [⟨tg, iter, ifs, 0⟩, ⟨tg1, iter1, ifs1, 0⟩] scope pos) spos) (sTgt (tName i) (eLc ce [g, g1])) ∧ HS X (.Assign [.Name y py] (.ListComp elt [⟨tg, iter, ifs, 0⟩, ⟨tg1, iter1, ifs1, 0⟩] scope pos) spos) (sOwn i (eLc ce [g, g1])) := by
  have k := ps_setLc2 (i := i) (g := gT X.prog X.w X.K g.tgt g.own) (tt := tTs X.prog X.w X.K g.ifs) (wi1 := tI X.prog X.w X.K g1.it) (g1 := gT X.prog X.w X.K g1.tgt g1.own) (tt1 := tTs X.prog X.w X.K g1.ifs) (te := tE X.prog X.w X.K ce) hc hN hy hyl hsw hi ok hv hg ht hi1 hg1 ht1 he hs hs1
  exact ⟨ps_len hy k fun D σ H hl h => name_pre hl (fun _ _ _ z => lc2_imp hown (tE_tF z)) h, ps_len hy k fun D σ H hl h => own_pre hl (fun _ _ _ z => lc2_imp hown z) h⟩
end
/-! ### if, while, for, return -/
theorem s_if {c : Expr} {a b : List Stmt} {cc : Ex} {sa sb : St} {pos : Pos} (hc : HT X c cc) (ha : HSs X a sa) (hb : HSs X b sb) : HS X (.If c a b pos) (sIf cc sa sb) :=
  (ps_if hc ha hb).imp fun D σ H ⟨H0, O0, O, env, r, h⟩ => by
    unfold sIf at h
    rw [← bind_asc, post_bind] at h
    refine ⟨O, env, r.dom, r.rel, post_mono h (fun k q H' s => ?_) fun _ _ z => z⟩
    cases k with
    | true => exact ⟨H0, O0, O, env, r.same s, q⟩
    | false => exact ⟨H0, O0, O, env, r.same s, q⟩
theorem s_ret {e : Expr} {c : Ex} {pos : Pos} (he : HE X e c) : HS X (.Return (some e) pos) (sRet c) :=
  (ps_ret he).imp fun D σ H ⟨H0, O0, O, env, r, h⟩ => by
    unfold sRet at h
    rw [post_bind] at h
    exact ⟨O, env, r.dom, r.rel, post_mono h (fun d q v H' s rv => q v H' (r.sm.trans s) (rv.anti r.up)) fun _ _ z => z⟩
theorem s_retN {pos : Pos} : HS X (.Return none pos) sRetN := ps_retN.imp fun D σ H ⟨H0, O0, O, env, r, h⟩ => h .non H r.sm rfl
theorem s_brk {pos : Pos} : HS X (.Break pos) sBrk := ps_break.imp fun D σ H ⟨H0, O0, O, env, r, h⟩ => h σ H O r
theorem s_while {c : Expr} {body : List Stmt} {cc : Ex} {sb : St} {pos : Pos} (hp : PassesOwn (model X.prog X.w) X.A X.env X.xe) (hc : HT X c cc) (hb : HSs X body sb) : HS X (.While c body [] pos) (sWhile cc sb) :=
  (ps_while hp hc hb).imp fun D σ H ⟨H0, O0, O, env, r, h⟩ => by
    refine ⟨fun m σ H => ∃ O env, RelS X.prog X.w X.K H0 O0 H O σ env ∧ (whileGo cc sb m env).post (Fin X.prog X.w X.K H0 O0 D) noE, ⟨FUEL, O, env, r, h⟩, ?_⟩
    rintro m σ H ⟨O, env, r, h⟩
    cases m with
    | zero => exact h.elim
    | succ n =>
      unfold whileGo at h
      rw [← bind_asc, post_bind] at h
      refine ⟨O, env, r.dom, r.rel, post_mono h (fun k q H' s => ?_) fun _ _ z => z⟩
      cases k with
      | false => exact q σ H' O (r.same s)
      | true =>
        simp only [if_true] at q ⊢
        rw [post_bind] at q
        refine ⟨fun σ' H' => ∃ O env, RelS X.prog X.w X.K H0 O0 H' O σ' env ∧ (whileGo cc sb n env).post (Fin X.prog X.w X.K H0 O0 D) noE, fun σ' H' z => ⟨n, Nat.lt_succ_self n, z⟩, H0, O0, O, env, r.same s, post_mono q (fun o q => ?_) fun _ _ z => z⟩
        cases o with
        | nx e => exact fun σ' H' O' r' => ⟨O', e, r', q⟩
        | rt d => exact q
        | bk e => exact q
theorem s_for {tg iter : Expr} {body : List Stmt} {t : Tgt} {it : Its} {sb : St} {pos : Pos} (hp : PassesOwn (model X.prog X.w) X.A X.env X.xe) (hc : X.calm = true) (hi : HI X tg iter it) (hg : HGS X tg t) (hb : HSs X body sb) (hs : ∀ x, foldedSetIterable iter X.env x = pure x) : HS X (.For tg iter body [] pos) (sFor t it sb) :=
  (ps_for hp hc hi hg hb hs).imp fun D σ H ⟨H0, O0, O, env, r, h⟩ => by
    unfold sFor at h
    rw [post_bind] at h
    refine ⟨O, env, r.dom, r.rel, post_mono h (fun ds q J H1 s wk => ?_) fun _ _ z => z⟩
    have r1 := r.same s
    refine ⟨fun i m σ Hi => m = ds.length - i ∧ i ≤ ds.length ∧ ∃ Oi envi, RelS X.prog X.w X.K (cutH H1 O O0) O0 Hi Oi σ envi ∧ (forGo t sb (ds.drop i) envi).post (Fin X.prog X.w X.K H0 O0 D) noE, ⟨ds.length, by simp, Nat.zero_le _, O, env, r1.enter, by simpa using q⟩, ?_⟩
    rintro i m σi Hi ⟨rfl, hi, Oi, envi, ri, po⟩
    obtain ⟨k1, k2⟩ := wk i Hi Oi (r1.pres ri)
    by_cases hlt : i < ds.length
    · rw [List.drop_eq_getElem_cons hlt] at po
      unfold forGo at po
      rw [post_bind] at po
      obtain ⟨g, y⟩ := k1 ds[i] (List.getElem?_eq_getElem hlt)
      refine .inr ⟨g, fun σ' H' => ∃ O' e, RelS X.prog X.w X.K (cutH H1 O O0) O0 H' O' σ' e ∧ (forGo t sb (ds.drop (i + 1)) e).post (Fin X.prog X.w X.K H0 O0 D) noE, fun σ' H' ⟨O', e, r', p'⟩ => ⟨ds.length - (i + 1), by omega, rfl, hlt, O', e, r', p'⟩, fun x H' yl => ?_⟩
      obtain ⟨sm, rx⟩ := y x H' yl
      refine ⟨_, O0, Oi, envi, _, ri.same sm, rx, post_mono po (fun env' q σ2 H2 O2 r2 => ?_) fun _ _ z => z⟩
      rw [post_bind] at q
      refine ⟨_, O0, O2, env', r2, post_mono q (fun o q => ?_) fun _ _ z => z⟩
      cases o with
      | nx e => exact fun σ' H' O' r' => ⟨O', e, r', q⟩
      | rt d => exact fun v H' s rv => q v H' (r1.back s) rv
      | bk e => exact fun σ' H' O' r' => q σ' H' O' (r1.leave r')
    · have e : i = ds.length := by omega
      subst e
      rw [List.drop_length] at po
      exact .inl ⟨k2 (Nat.le_refl _), po σi Hi Oi (r1.leave ri)⟩
/-! ### name op= e, of ints -/
theorem s_aug {i : Nat} {x : Str} {e : Expr} {c : Ex} {op : Operator} {o : D → D → M D} {f : Int → Int → Int} {pos pos' : Pos} (hN : X.N.Nodup) (hi : X.N[i]? = some x) (hx : Loc X.env.scope x) (hf : X.fn x = true ∨ X.env.scope.names.lookup x = some .local) (he : HE X e c) (ho : PIp X op (ipI f)) (hof : ∀ a b, o (.int a) (.int b) = .ret (.int (f a b))) :
    HS X (.AugAssign (.Name x pos') op e pos) (sAug i o c) :=
  ps_len hi (ps_aug hN hi hx he ho hf) fun D σ H hl ⟨H0, O0, O, env, r, h⟩ => by
    unfold sAug at h
    rw [post_bind] at h
    unfold eVarB at h
    cases e1 : env[i]? with
    | none => rw [e1] at h; exact h.elim
    | some q =>
      rw [e1] at h
      cases q with
      | none => exact h.elim
      | some q =>
        obtain ⟨b, d⟩ := q
        obtain ⟨v, k1, k2, _⟩ := r.rel i b d e1
        have h : (c env >>= fun y => augI o d y >>= fun z => M.ret (Out.nx (env.set i (some (false, z))))).post (Fin X.prog X.w X.K H0 O0 D) noE := h
        rw [post_bind] at h
        refine ⟨v, k1, O, env, r.dom, r.rel, post_mono h (fun dy q y H1 s ry => ?_) fun _ _ z => z⟩
        cases d with
        | int a =>
          cases dy with
          | int b' =>
            simp only [augI, hof] at q
            cases ry
            exact ⟨a, b', k2, rfl, q _ _ O ((r.same s).set hl rfl)⟩
          | _ => exact q.elim
        | _ => exact q.elim
/-! ### x.m(e) -/
def rMut (P : Program) (w : World) (K : PySem.W.Frag) (bor : Bool) (f : D → D → M D) : V → List V → Hp → VK → Prop := fun x xs H Q => ∃ O dc d v a, Dom H O ∧ x = .ref a ∧ O a ∧ xs = [v] ∧ RepB P w K H O dc x ∧ (if bor then RepB P w K H O d v else Rep P w K H O d v) ∧
  (f dc d).post (fun dc' => ∀ r u, chg u = true → RepB P w K (upd H a u) O dc' (.ref a) → Q r (upd H a u)) noE
theorem mt_fAppend : MtR X "list.append" (rMut X.prog X.w X.K false fAppend) := by
  intro pins s σ H x xs v us Q I rx rxs h
  obtain ⟨O, dc, d, v', a, hD, rfl, hO, rfl, r1, r2, h⟩ := h
  cases dc with
  | lst l =>
    obtain ⟨p, vs, e, e1, e2⟩ := r1
    cases e
    unfold fAppend at h
    rw [post_ck] at h
    have c : Carry X.K H (upd H a (.lst (vs ++ [v']))) O O := Carry.write hO e1 rfl fun _ z => z
    exact mt_append pins s σ H _ _ v us Q I rx rxs ⟨a, vs, v', rfl, rfl, e1, lim_size1 (by rw [e2.length]; exact h.1), h.2 _ _ rfl ⟨a, _, rfl, upd_same, RepL.append (RepL.carry c _ _ e2) (.one (Rep.carry c _ _ r2))⟩⟩
  | _ => exact h.elim
theorem mt_fExtend : MtR X "list.extend" (rMut X.prog X.w X.K true fExtend) := by
  intro pins s σ H x xs v us Q I rx rxs h
  obtain ⟨O, dc, d, v', a, hD, rfl, hO, rfl, r1, r2, h⟩ := h
  cases dc with
  | lst l =>
    cases d with
    | lst r =>
      obtain ⟨p, vs, e, e1, e2⟩ := r1
      cases e
      obtain ⟨b, us', rfl, f1, f2⟩ := r2
      unfold fExtend at h
      rw [post_ck] at h
      have c : Carry X.K H (upd H a (.lst (vs ++ us'))) O O := Carry.write hO e1 rfl fun _ z => z
      exact mt_extend pins s σ H _ _ v us Q I rx rxs ⟨a, b, vs, us', rfl, rfl, e1, f1, lim_size (by rw [e2.length, f2.length]; exact h.1), h.2 _ _ rfl ⟨a, _, rfl, upd_same, RepL.append (RepL.carry c _ _ e2) (RepL.carry c _ _ f2)⟩⟩
    | _ => exact h.elim
  | _ => exact h.elim
/-- an owned list's name -/
theorem own_at {env : Env} {i : Nat} {f : D → M Out} {R : Out → Prop} (h : (match env[i]? with | some (some (true, c)) => f c | _ => (M.bad : M Out)).post R noE) : ∃ c, env[i]? = some (some (true, c)) ∧ (f c).post R noE := by
  cases e : env[i]? with
  | none => rw [e] at h; exact h.elim
  | some q =>
    rw [e] at h
    cases q with
    | none => exact h.elim
    | some q =>
      obtain ⟨b, c⟩ := q
      cases b with
      | false => exact h.elim
      | true => exact ⟨c, rfl, h⟩
end
end PV
/-! statements: methods that change, pop, several names at once -/
namespace PV
open PySem PySem.Spec PyProof.Rows L2
section
variable {X : Cx}
theorem mut_pre {i : Nat} {f : D → D → M D} {c : Ex} {bor : Bool} {D0 : Ends} {σ : L2.St} {H : Hp} (hf : ∀ dc d, (∀ l, dc ≠ .lst l) → f dc d = .bad) (h : tS X.prog X.w X.K (sMut i f c) D0 σ H) {ta : TA}
    (ht : ∀ O env Q, Dom H O → RelX X.prog X.w X.K H O σ env → (c env).post (fun d => ∀ v H', Same H H' → (if bor then RepB X.prog X.w X.K H' O d v else Rep X.prog X.w X.K H' O d v) → Q [v] H') noE → ta σ H Q) :
    tDrop (tBM X.K "list" (rMut X.prog X.w X.K bor f) (tVar i) ta) D0 σ H := by
  obtain ⟨H0, O0, O, env, r, h⟩ := h
  unfold sMut at h
  rw [post_bind] at h
  have hsome : ∃ dc, env[i]? = some (some (true, dc)) ∧ (c env).post (fun d => (f dc d >>= fun c' => M.ret (Out.nx (env.set i (some (true, c'))))).post (Fin X.prog X.w X.K H0 O0 D0) noE) noE := by
    cases e1 : env[i]? with
    | none => simp only [e1] at h; exact (no_bad h).elim
    | some q =>
      cases q with
      | none => simp only [e1] at h; exact (no_bad h).elim
      | some q =>
        obtain ⟨b, dc⟩ := q
        cases b with
        | false => simp only [e1] at h; exact (no_bad h).elim
        | true => simp only [e1] at h; exact ⟨dc, rfl, h⟩
  obtain ⟨dc, e1, h⟩ := hsome
  obtain ⟨a, k1, k2, k3⟩ := r.own i dc e1
  obtain ⟨v', g1, g2, _⟩ := r.rel i true dc e1
  rw [k1] at g1
  cases g1
  have hl : ∃ l, dc = .lst l := by
    cases dc with
    | lst l => exact ⟨l, rfl⟩
    | _ =>
      refine (post_false (post_mono (P' := fun _ => False) (E' := noE) h (fun d q => ?_) fun _ _ z => z) fun _ _ z => z).elim
      rw [hf _ d (fun l z => by cases z)] at q
      exact q
  obtain ⟨l, rfl⟩ := hl
  have g2' := g2
  obtain ⟨p, vs, e, e2, _⟩ := g2'
  cases e
  refine ⟨.ref a, k1, .inl ⟨rfl, vs, SqL.of e2⟩, ht O env _ r.dom r.rel (post_mono h (fun d q v H1 s rv => ?_) fun _ _ z => z)⟩
  rw [post_bind] at q
  have r1 := r.same s
  exact ⟨O, .lst l, d, v, a, r1.dom, rfl, k2, rfl, g2.same s, rv, post_mono q (fun dc' z rr u hc rb => z σ _ O (r1.write e1 k1 hc rb)) fun _ _ z => z⟩
theorem one_ta {c : Ex} {σ : L2.St} {H : Hp} {O : Addr → Prop} {env : Env} {Q : List V → Hp → Prop} (h1 : Dom H O) (h2 : RelX X.prog X.w X.K H O σ env) (h : (c env).post (fun d => ∀ v H', Same H H' → Rep X.prog X.w X.K H' O d v → Q [v] H') noE) : tA X.prog X.w X.K [c] σ H Q :=
  ⟨O, env, h1, h2, post_mono (one_post h) (fun ds ⟨x, e, q⟩ vs H' s r => by
    subst e
    obtain ⟨v, r', rfl, rd, rfl⟩ := r
    exact q v H' s rd) fun _ _ z => z⟩
theorem one_tab {c : Ex} {σ : L2.St} {H : Hp} {O : Addr → Prop} {env : Env} {Q : List V → Hp → Prop} (h1 : Dom H O) (h2 : RelX X.prog X.w X.K H O σ env) (h : (c env).post (fun d => ∀ v H', Same H H' → RepB X.prog X.w X.K H' O d v → Q [v] H') noE) : tAB X.prog X.w X.K [c] σ H Q :=
  ⟨O, env, h1, h2, post_mono (one_post h) (fun ds ⟨x, e, q⟩ vs H' s r => by
    subst e
    obtain ⟨v, r', rfl, rd, rfl⟩ := r
    exact q v H' s rd) fun _ _ z => z⟩
section
variable {i : Nat} {x : Str} {e : Expr} {c : Ex} {p pos apos cpos : Pos}
theorem s_append (hN : X.N[i]? = some x) (hv : Vis X.env.scope x) (hd : (x == ("__debug__" : Str)) = false) (hcd : (x == ("__classdict__" : Str)) = false) (ha : HA X [e] [c])
    (hbase : attributeBase (.Name x p) "append" X.env (eval (.Name x p) X.env) = eval (.Name x p) X.env)
    (hfew : ((backTo cpos (starEach [e] X.env)).all (fun x => !x.1) && (backToKw cpos (keywordEach [] X.env)).all (fun x => x.1.isSome) && decide ([e].length + ([] : List Keyword).length + (if ([] : List Keyword).isEmpty then 0 else 1) < 30)) = true)
    (hline : (apos.endLine == cpos.line) = true) (hs : starEach [e] X.env = (false, eval e X.env) :: starEach [] X.env) (hplain : (backTo cpos (starEach [] X.env)).any (·.1) = false)
    (hsw : swapsWith (.Call (.Attribute (.Name x p) "append" apos) [e] [] cpos) none pos.line X.env = pure false) : HS X (.Expr (.Call (.Attribute (.Name x p) "append" apos) [e] [] cpos) pos) (sMut i fAppend c) :=
  (ps_expr (pe_bm F.plainAttrs_list F.slot_list_append F.type_list_append mt_fAppend (pe_var hN hv hd hcd) ha hbase hfew hline hs hplain) hsw).imp fun D σ H h => mut_pre (fun dc d n => by cases dc <;> first | rfl | exact absurd rfl (n _)) h fun O env Q h1 h2 h3 => one_ta h1 h2 h3
theorem s_extend (hN : X.N[i]? = some x) (hv : Vis X.env.scope x) (hd : (x == ("__debug__" : Str)) = false) (hcd : (x == ("__classdict__" : Str)) = false) (ha : HAB X [e] [c])
    (hbase : attributeBase (.Name x p) "extend" X.env (eval (.Name x p) X.env) = eval (.Name x p) X.env)
    (hfew : ((backTo cpos (starEach [e] X.env)).all (fun x => !x.1) && (backToKw cpos (keywordEach [] X.env)).all (fun x => x.1.isSome) && decide ([e].length + ([] : List Keyword).length + (if ([] : List Keyword).isEmpty then 0 else 1) < 30)) = true)
    (hline : (apos.endLine == cpos.line) = true) (hs : starEach [e] X.env = (false, eval e X.env) :: starEach [] X.env) (hplain : (backTo cpos (starEach [] X.env)).any (·.1) = false)
    (hsw : swapsWith (.Call (.Attribute (.Name x p) "extend" apos) [e] [] cpos) none pos.line X.env = pure false) : HS X (.Expr (.Call (.Attribute (.Name x p) "extend" apos) [e] [] cpos) pos) (sMut i fExtend c) :=
  (ps_expr (pe_bm F.plainAttrs_list F.slot_list_extend F.type_list_extend mt_fExtend (pe_var hN hv hd hcd) ha hbase hfew hline hs hplain) hsw).imp fun D σ H h => mut_pre (fun dc d n => by cases dc <;> first | rfl | exact absurd rfl (n _)) h fun O env Q h1 h2 h3 => one_tab h1 h2 h3
theorem RepL.dropLast {P : Program} {w : World} {K : PySem.W.Frag} {H : Hp} {O : Addr → Prop} {d : List D} {v : List V} (h : RepL P w K H O d v) : RepL P w K H O d.dropLast v.dropLast := by
  rw [List.dropLast_eq_take, List.dropLast_eq_take, h.length]
  exact h.take _
theorem s_pop {tg : Expr} {t : Tgt} (hN : X.N[i]? = some x) (hv : Vis X.env.scope x) (hd : (x == ("__debug__" : Str)) = false) (hcd : (x == ("__classdict__" : Str)) = false) (hg : HGS X tg t)
    (hbase : attributeBase (.Name x p) "pop" X.env (eval (.Name x p) X.env) = eval (.Name x p) X.env) (hline : (apos.endLine == cpos.line) = true)
    (hs : swapsWithSole [tg] (.Call (.Attribute (.Name x p) "pop" apos) [] [] cpos) pos.line X.env = pure false) (hw : swappedStores [tg] (.Call (.Attribute (.Name x p) "pop" apos) [] [] cpos) X.env = pure none) (h1 : (assignEach [tg] X.env).map (·.2) = [assign tg X.env]) :
    HS X (.Assign [tg] (.Call (.Attribute (.Name x p) "pop" apos) [] [] cpos) pos) (sPop t i) :=
  (ps_asg (pe_bm0 F.plainAttrs_list F.slot_list_pop F.type_list_pop mt_pop (pe_var hN hv hd hcd) hbase hline) hg hs hw h1).imp fun D0 σ H ⟨H0, O0, O, env, r, h⟩ => by
    unfold sPop at h
    cases e1 : env[i]? with
    | none => simp only [e1] at h; exact h.elim
    | some q =>
      cases q with
      | none => simp only [e1] at h; exact h.elim
      | some q =>
        obtain ⟨b, dc⟩ := q
        cases b with
        | false => simp only [e1] at h; exact h.elim
        | true =>
          cases dc with
          | lst l =>
            simp only [e1] at h
            cases e2 : l.getLast? with
            | none => rw [e2] at h; exact h.elim
            | some d =>
              rw [e2] at h
              obtain ⟨a, k1, k2, k3⟩ := r.own i _ e1
              obtain ⟨v', g1, g2, _⟩ := r.rel i true _ e1
              rw [k1] at g1
              cases g1
              obtain ⟨p, vs, e, f1, f2⟩ := g2
              cases e
              have hne : l ≠ [] := by rintro rfl; cases e2
              have e3 : l[l.length - 1]? = some d := by rw [← List.getLast?_eq_getElem?]; exact e2
              obtain ⟨y, y1, y2⟩ := f2.get e3
              have c : Carry X.K H (upd H a (.lst vs.dropLast)) O O := Carry.write k2 f1 rfl fun _ z => z
              have r' := r.write (u := .lst vs.dropLast) (d' := .lst l.dropLast) e1 k1 rfl ⟨a, _, rfl, upd_same, RepL.carry c _ _ f2.dropLast⟩
              have h' : (t d (env.set i (some (true, D.lst l.dropLast))) >>= fun env' => M.ret (Out.nx env')).post (Fin X.prog X.w X.K H0 O0 D0) noE := h
              rw [post_bind] at h'
              refine ⟨.ref a, k1, .inl ⟨rfl, vs, SqL.of f1⟩, a, vs, y, rfl, rfl, f1, by rw [f2.length]; exact y1, H0, O0, O, _, d, r', Rep.carry c _ _ y2, h'⟩
          | _ => simp only [e1] at h; exact h.elim
end
/-! ### a, b, .. = x, y, .. -/
def ParV (P : Program) (w : World) (K : PySem.W.Frag) (H : Hp) (O : Addr → Prop) : List (Bool × Nat) → List D → List V → (Addr → Prop) → Prop
  | [], ds, vs, _ => ds = [] ∧ vs = []
  | (f, i) :: r, ds, vs, U => ∃ d ds' v vs', ds = d :: ds' ∧ vs = v :: vs' ∧ if (f && isMut d) = true then ∃ p, v = .ref p ∧ O p ∧ ¬ U p ∧ RepB P w K H O d v ∧ ParV P w K H O r ds' vs' (fun a => U a ∨ a = p) else Rep P w K H O d v ∧ ParV P w K H O r ds' vs' U
def setV : List (Bool × Nat) → List V → L2.St → L2.St
  | (_, i) :: r, v :: vs, σ => setV r vs (σ.set i (some v))
  | _, _, σ => σ
/-- a spare new thing comes to a name -/
theorem RelS.put {P : Program} {w : World} {K : PySem.W.Frag} {H0 H : Hp} {O0 O : Addr → Prop} {σ : L2.St} {env : Env} {i : Nat} {d : D} {p : Addr} (h : RelS P w K H0 O0 H O σ env) (hi : i < σ.length) (hO : O p) (h0 : ¬ O0 p) (hn : ∀ (j : Nat) (e : D), env[j]? = some (some (true, e)) → σ[j]? ≠ some (some (.ref p)))
    (r : RepB P w K H O d (.ref p)) : RelS P w K H0 O0 H O (σ.set i (some (.ref p))) (env.set i (some (true, d))) := by
  have key : ∀ (j : Nat) (e : D), (env.set i (some (true, d)))[j]? = some (some (true, e)) → (j = i ∧ (σ.set i (some (.ref p)))[j]? = some (some (.ref p))) ∨ (j ≠ i ∧ env[j]? = some (some (true, e)) ∧ (σ.set i (some (.ref p)))[j]? = σ[j]?) := fun j e z => by
    by_cases q : j = i
    · subst q
      exact .inl ⟨rfl, List.getElem?_set_self hi⟩
    · rw [List.getElem?_set_ne (Ne.symm q)] at z
      exact .inr ⟨q, z, List.getElem?_set_ne (Ne.symm q)⟩
  refine ⟨h.dom, fun j own e z => ?_, h.sm, h.up, h.dn, fun j e z => ?_, fun j k e f a z1 z2 z3 z4 => ?_⟩
  · by_cases q : j = i
    · subst q
      rw [List.getElem?_set] at z
      simp only [if_pos] at z
      split at z
      · cases z
        exact ⟨.ref p, List.getElem?_set_self hi, r, fun z => nomatch z⟩
      · cases z
    · rw [List.getElem?_set_ne (Ne.symm q)] at z
      obtain ⟨u, h1, h2⟩ := h.rel j own e z
      exact ⟨u, by rw [List.getElem?_set_ne (Ne.symm q)]; exact h1, h2⟩
  · rcases key j e z with ⟨_, q⟩ | ⟨n, z, q⟩
    · exact ⟨p, q, hO, h0⟩
    · obtain ⟨a, h1, h2⟩ := h.own j e z
      exact ⟨a, q.trans h1, h2⟩
  · rcases key j e z1 with ⟨y1, q⟩ | ⟨n, y1, q⟩
    · rcases key k f z2 with ⟨y2, q'⟩ | ⟨n', y2, q'⟩
      · rw [y1, y2]
      · rw [q] at z3
        cases z3
        rw [q'] at z4
        exact absurd z4 (hn k f y2)
    · rcases key k f z2 with ⟨y2, q'⟩ | ⟨n', y2, q'⟩
      · rw [q'] at z4
        cases z4
        rw [q] at z3
        exact absurd z3 (hn j e y1)
      · exact h.ap j k e f a y1 y2 (q ▸ z3) (q' ▸ z4)
theorem put_all {P : Program} {w : World} {K : PySem.W.Frag} {H0 H : Hp} {O0 O : Addr → Prop} : ∀ (is : List (Bool × Nat)) (ds : List D) (vs : List V) (U : Addr → Prop) (σ : L2.St) (env : Env), RelS P w K H0 O0 H O σ env → (∀ (j : Nat) (e : D) a, env[j]? = some (some (true, e)) → σ[j]? = some (some (.ref a)) → U a) → (∀ a, O0 a → U a) →
    ParV P w K H O is ds vs U → (∀ q ∈ is, q.2 < σ.length) → RelS P w K H0 O0 H O (setV is vs σ) (setAll is ds env)
  | [], ds, vs, U, σ, env, r, _, _, h, _ => by
    obtain ⟨rfl, rfl⟩ := h
    exact r
  | (f, i) :: is, ds, vs, U, σ, env, r, h1, h2, h, hl => by
    obtain ⟨d, ds', v, vs', rfl, rfl, h⟩ := h
    have hi : i < σ.length := hl (f, i) List.mem_cons_self
    have hl' : ∀ (x : Option V), ∀ q ∈ is, q.2 < (σ.set i x).length := fun x q hq => by rw [List.length_set]; exact hl q (List.mem_cons_of_mem _ hq)
    unfold setV setAll
    by_cases hf : (f && isMut d) = true
    · rw [if_pos hf] at h
      obtain ⟨p, rfl, hO, hU, rb, h⟩ := h
      rw [hf]
      refine put_all is ds' vs' _ _ _ (r.put hi hO (fun z => hU (h2 p z)) (fun j e z1 z2 => hU (h1 j e p z1 z2)) rb) (fun j e a z1 z2 => ?_) (fun a z => .inl (h2 a z)) h (hl' _)
      by_cases q : j = i
      · subst q
        rw [List.getElem?_set_self hi] at z2
        cases z2
        exact .inr rfl
      · rw [List.getElem?_set_ne (Ne.symm q)] at z1 z2
        exact .inl (h1 j e a z1 z2)
    · rw [if_neg hf] at h
      have hf' : (f && isMut d) = false := by simpa using hf
      rw [hf']
      refine put_all is ds' vs' _ _ _ (r.set hi h.1) (fun j e a z1 z2 => ?_) h2 h.2 (hl' _)
      obtain ⟨z1, q⟩ := Keep.set (v := some v) j e z1
      rw [q] at z2
      exact h1 j e a z1 z2
def tAP (P : Program) (w : World) (K : PySem.W.Frag) (is : List (Bool × Nat)) (cs : List Ex) : TA := fun σ H Q => ∃ O env, Dom H O ∧ RelX P w K H O σ env ∧
  (eAll cs env).post (fun ds => ∀ vs H' O', Same H H' → (∀ a, O a → O' a) → (∀ a, O' a → O a ∨ H a = none) → Dom H' O' → RelX P w K H' O' σ env → ParV P w K H' O' is ds vs O → Q vs H') noE
abbrev HAP (X : Cx) (es : List Expr) (is : List (Bool × Nat)) (cs : List Ex) : Prop := PA X es (tAP X.prog X.w X.K is cs)
theorem p_nil : HAP X [] [] [] := pa_nil.imp fun σ H Q ⟨O, env, h1, h2, h3⟩ => h3 [] H O (Same.refl H) (fun _ z => z) (fun _ z => .inl z) h1 h2 ⟨rfl, rfl⟩
theorem RepB.carryS {P : Program} {w : World} {K : PySem.W.Frag} {H H' : Hp} {O O' : Addr → Prop} (hD : Dom H O) (h : PresS H O H' O') {d : D} {v : V} (r : RepB P w K H O d v) : RepB P w K H' O' d v := by
  have c : Carry K H H' O O' := h.pres.carry hD
  cases d with
  | lst l => obtain ⟨a, vs, e1, s, r⟩ := r; exact ⟨a, vs, e1, h.st _ _ s, RepL.carry c _ _ r⟩
  | dct l => obtain ⟨a, o, es, ep, e1, s, m, x, dd, r⟩ := r; exact ⟨a, o, es, ep, e1, h.st _ _ s, m, x, dd, RepK.carry c _ _ r⟩
  | _ => exact Rep.carry c _ _ r
theorem p_cons {e : Expr} {es : List Expr} {c : Ex} {cs : List Ex} {i : Nat} {is : List (Bool × Nat)} (h1 : HE X e c) (h2 : HAP X es is cs) (hs : starEach (e :: es) X.env = (false, eval e X.env) :: starEach es X.env) : HAP X (e :: es) ((false, i) :: is) (c :: cs) :=
  (pa_cons h1 h2 hs).imp fun σ H Q ⟨O, env, k1, k2, k3⟩ => by
    unfold eAll at k3
    rw [post_bind] at k3
    refine ⟨O, env, k1, k2, post_mono k3 (fun d q v H1 s r => ?_) fun _ _ z => z⟩
    rw [post_bind] at q
    refine ⟨O, env, k1.same s, k2.same s, post_mono q (fun ds q vs H' O' s' sub no dom rel pv => ?_) fun _ _ z => z⟩
    have no' : ∀ a, O' a → O a ∨ H a = none := fun a z => (no a z).elim .inl fun z => .inr (none_before s z)
    refine q (v :: vs) H' O' (s.trans s') sub no' dom rel ⟨d, ds, v, vs, rfl, rfl, ?_⟩
    rw [Bool.false_and, if_neg (by decide)]
    exact ⟨Rep.carry ((PresS.pres ⟨s', no⟩).carry (k1.same s)) _ _ r, pv⟩
theorem p_own {e : Expr} {es : List Expr} {c : Ex} {cs : List Ex} {i : Nat} {is : List (Bool × Nat)} (h1 : HF X e c) (h2 : HAP X es is cs) (hs : starEach (e :: es) X.env = (false, eval e X.env) :: starEach es X.env) : HAP X (e :: es) ((true, i) :: is) (c :: cs) :=
  (pa_cons h1 h2 hs).imp fun σ H Q ⟨O, env, k1, k2, k3⟩ => by
    unfold eAll at k3
    rw [post_bind] at k3
    refine ⟨O, env, k1, k2, post_mono k3 (fun d q v H1 s r => ?_) fun _ _ z => z⟩
    rw [post_bind] at q
    by_cases hm : isMut d = true
    · obtain ⟨p, rfl, hp, hc, rb⟩ : ∃ p, v = .ref p ∧ H p = none ∧ (∃ u, H1 p = some u ∧ chg u = true) ∧ RepB X.prog X.w X.K H1 (fun a => O a ∨ a = p) d (.ref p) := by
        cases d with
        | lst l =>
          obtain ⟨p, vs, rfl, hp, e, r⟩ := r
          exact ⟨p, rfl, hp, ⟨_, e, rfl⟩, p, vs, rfl, e, r⟩
        | dct l =>
          obtain ⟨p, o, es, ep, rfl, hp, e, m, x, dd, r⟩ := r
          exact ⟨p, rfl, hp, ⟨_, e, rfl⟩, p, o, es, ep, rfl, e, m, x, dd, r⟩
        | _ => cases hm
      have dom1 : Dom H1 (fun a => O a ∨ a = p) := fun a z => by
        rcases z with z | z
        · exact k1.same s a z
        · rw [z]; exact hc
      refine ⟨fun a => O a ∨ a = p, env, dom1, (k2.apart hp).same s, post_mono q (fun ds q vs H' O' s' sub no dom rel pv => ?_) fun _ _ z => z⟩
      refine q (.ref p :: vs) H' O' (s.trans s') (fun a z => sub a (.inl z)) (fun a z => ?_) dom rel ⟨d, ds, .ref p, vs, rfl, rfl, ?_⟩
      · rcases no a z with (z | z) | z
        · exact .inl z
        · rw [z]; exact .inr hp
        · exact .inr (none_before s z)
      · rw [Bool.true_and, if_pos hm]
        exact ⟨p, rfl, sub p (.inr rfl), k1.not hp, RepB.carryS dom1 ⟨s', no⟩ rb, pv⟩
    · refine ⟨O, env, k1.same s, k2.same s, post_mono q (fun ds q vs H' O' s' sub no dom rel pv => ?_) fun _ _ z => z⟩
      have no' : ∀ a, O' a → O a ∨ H a = none := fun a z => (no a z).elim .inl fun z => .inr (none_before s z)
      refine q (v :: vs) H' O' (s.trans s') sub no' dom rel ⟨d, ds, v, vs, rfl, rfl, ?_⟩
      rw [Bool.true_and, if_neg hm]
      exact ⟨Rep.carry ((PresS.pres ⟨s', no⟩).carry (k1.same s)) _ _ (r.rep k1), pv⟩
theorem par_len {P : Program} {w : World} {K : PySem.W.Frag} {H : Hp} {O : Addr → Prop} : ∀ {is : List (Bool × Nat)} {ds : List D} {vs : List V} {U : Addr → Prop}, ParV P w K H O is ds vs U → vs.length = is.length
  | [], _, _, _, h => by obtain ⟨rfl, rfl⟩ := h; rfl
  | (f, i) :: r, _, _, _, h => by
    obtain ⟨d, ds, v, vs, rfl, rfl, h⟩ := h
    by_cases hf : (f && isMut d) = true
    · rw [if_pos hf] at h
      obtain ⟨p, _, _, _, _, h⟩ := h
      rw [List.length_cons, List.length_cons, par_len h]
    · rw [if_neg hf] at h
      rw [List.length_cons, List.length_cons, par_len h.2]
theorem par_pre {is : List (Bool × Nat)} {cs : List Ex} {D0 : Ends} {σ : L2.St} {H : Hp} (hl : ∀ q ∈ is, q.2 < σ.length) (h : tS X.prog X.w X.K (sPar is cs) D0 σ H) : tAP X.prog X.w X.K is cs σ H fun vs H1 => vs.length = is.length ∧ ∀ H2, Same H1 H2 → D0.nx (setV is vs σ) H2 := by
  obtain ⟨H0, O0, O, env, r, h⟩ := h
  unfold sPar at h
  rw [post_bind] at h
  refine ⟨O, env, r.dom, r.rel, post_mono h (fun ds q vs H' O' s sub no dom rel pv => ⟨par_len pv, fun H2 s2 => ?_⟩) fun _ _ z => z⟩
  have r' : RelS X.prog X.w X.K H0 O0 H' O' σ env := ⟨dom, rel, r.sm.trans s, fun a z => sub a (r.up a z), fun a z => (no a z).elim (r.dn a) fun z => .inr (none_before r.sm z), fun j d z => let ⟨a, k1, k2, k3⟩ := r.own j d z; ⟨a, k1, sub a k2, k3⟩, r.ap⟩
  refine q _ H2 O' ((put_all is ds vs O σ env r' (fun j e a z1 z2 => ?_) r.up pv hl).same s2)
  obtain ⟨b, k1, k2, _⟩ := r.own j e z1
  rw [z2] at k1
  cases k1
  exact k2
theorem ps_len2 {st : Stmt} {t t' : TS} {is : List (Bool × Nat)} (hi : ∀ q ∈ is, q.2 < X.N.length) (h : PS X st t) (k : ∀ D σ H, (∀ q ∈ is, q.2 < σ.length) → t' D σ H → t D σ H) : PS X st t' := ⟨fun pins s σ H D I q => h.run pins s σ H D I (k D σ H (by
  rw [I.len]
  exact hi) q)⟩
theorem s_par2 {i j : Nat} {f g : Bool} {x y : Str} {a b : Expr} {ca cb : Ex} {px py pt pos : Pos} {kt k2 pt2} (hc : X.calm = true) (hN : X.N.Nodup) (hi : X.N[i]? = some x) (hj : X.N[j]? = some y) (hij : i ≠ j)
    (hx : X.env.scope.names.lookup x = some .local) (hy : X.env.scope.names.lookup y = some .local) (ha : HAP X [a, b] [(f, i), (g, j)] [ca, cb])
    (hw : swappedStores [.Tuple [.Name x px, .Name y py] kt pt] (.Tuple [a, b] k2 pt2) X.env = pure (some [x, y]))
    (hs : swapsWithSole [.Tuple [.Name x px, .Name y py] kt pt] (.Tuple [a, b] k2 pt2) pos.line X.env = pure false) :
    HS X (.Assign [.Tuple [.Name x px, .Name y py] kt pt] (.Tuple [a, b] k2 pt2) pos) (sPar [(f, i), (g, j)] [ca, cb]) :=
  ps_len2 (is := [(f, i), (g, j)]) (fun q hq => by
    simp only [List.mem_cons, List.not_mem_nil, or_false] at hq
    rcases hq with rfl | rfl
    · exact (List.getElem?_eq_some_iff.mp hi).1
    · exact (List.getElem?_eq_some_iff.mp hj).1) (ps_par hc hN hi hj hij hx hy ha hw hs) fun D0 σ H hl h => by
    obtain ⟨O, env, h1, h2, h3⟩ := par_pre hl h
    refine ⟨O, env, h1, h2, post_mono h3 (fun ds q vs H' O' s sub no dom rel pv => ?_) fun _ _ z => z⟩
    obtain ⟨e, k⟩ := q vs H' O' s sub no dom rel pv
    match vs, e, k with
    | [v, u], _, k => exact ⟨v, u, rfl, k H' (Same.refl H')⟩
theorem s_par3 {i j l : Nat} {f g h' : Bool} {x y z : Str} {a b c : Expr} {ca cb cc : Ex} {px py pz pt pos : Pos} {kt k2 pt2} (hc : X.calm = true) (hN : X.N.Nodup) (hi : X.N[i]? = some x) (hj : X.N[j]? = some y) (hl : X.N[l]? = some z) (hij : i ≠ j) (hil : i ≠ l) (hjl : j ≠ l)
    (hx : X.env.scope.names.lookup x = some .local) (hy : X.env.scope.names.lookup y = some .local) (hz : X.env.scope.names.lookup z = some .local) (ha : HAP X [a, b, c] [(f, i), (g, j), (h', l)] [ca, cb, cc])
    (hw : swappedStores [.Tuple [.Name x px, .Name y py, .Name z pz] kt pt] (.Tuple [a, b, c] k2 pt2) X.env = pure (some [x, y, z]))
    (hs : swapsWithSole [.Tuple [.Name x px, .Name y py, .Name z pz] kt pt] (.Tuple [a, b, c] k2 pt2) pos.line X.env = pure false) :
    HS X (.Assign [.Tuple [.Name x px, .Name y py, .Name z pz] kt pt] (.Tuple [a, b, c] k2 pt2) pos) (sPar [(f, i), (g, j), (h', l)] [ca, cb, cc]) :=
  ps_len2 (is := [(f, i), (g, j), (h', l)]) (fun q hq => by
    simp only [List.mem_cons, List.not_mem_nil, or_false] at hq
    rcases hq with rfl | rfl | rfl
    · exact (List.getElem?_eq_some_iff.mp hi).1
    · exact (List.getElem?_eq_some_iff.mp hj).1
    · exact (List.getElem?_eq_some_iff.mp hl).1) (ps_par3 hc hN hi hj hl hij hil hjl hx hy hz ha hw hs) fun D0 σ H hl h => by
    obtain ⟨O, env, h1, h2, h3⟩ := par_pre hl h
    refine ⟨O, env, h1, h2, post_mono h3 (fun ds q vs H' O' s sub no dom rel pv => ?_) fun _ _ z => z⟩
    obtain ⟨e, k⟩ := q vs H' O' s sub no dom rel pv
    match vs, e, k with
    | [v, u, t], _, k => exact ⟨v, u, t, rfl, k H' (Same.refl H')⟩
/-- names one behind another -/
def gNames : List (Bool × Nat) → TGs
  | [] => gNil
  | (_, i) :: r => gCons (gName i) (gNames r)
theorem gNames_ok : ∀ {is : List (Bool × Nat)} {vs : List V} {σ : L2.St} {H : Hp} {Q : L2.St → Hp → Prop}, vs.length = is.length → Q (setV is vs σ) H → gNames is vs σ H Q
  | [], [], _, _, _, _, q => ⟨rfl, q⟩
  | [], _ :: _, _, _, _, e, _ => by simp at e
  | _ :: _, [], _, _, _, e, _ => by simp at e
  | (f, i) :: r, v :: vs, σ, H, Q, e, q => ⟨v, vs, rfl, gNames_ok (is := r) (by simpa using e) q⟩
theorem s_parN {is : List (Bool × Nat)} {ts es : List Expr} {cs : List Ex} {k k2 : Nat} {pt pt2 pos : Pos} (hc : X.calm = true) (hi : is.all (fun q => decide (q.2 < X.N.length)) = true) (ha : HAP X es is cs) (hg : PGs X ts (gNames is)) (hl : cs.length ≤ LIM) (hil : is.length ≤ LIM)
    (hn : (assignEach ts X.env).length = is.length) (hst : (assignEach ts X.env).findIdx? (·.1) = none) (hs : swapsWithSole [.Tuple ts k pt] (.Tuple es k2 pt2) pos.line X.env = pure false) (hw : swappedStores [.Tuple ts k pt] (.Tuple es k2 pt2) X.env = pure none)
    (h1 : (assignEach [.Tuple ts k pt] X.env).map (·.2) = [assign (.Tuple ts k pt) X.env]) : HS X (.Assign [.Tuple ts k pt] (.Tuple es k2 pt2) pos) (sPar is cs) :=
  ps_len2 (is := is) (fun q hq => of_decide_eq_true (List.all_eq_true.mp hi q hq)) (ps_asg (pe_tup ha) (pg_tup hc hg hn hst) hs hw h1) fun D0 σ H hl h => by
    obtain ⟨O, env, h1, h2, h3⟩ := par_pre hl h
    refine ⟨O, env, h1, h2, post_mono h3 (fun ds q vs H' O' s sub no dom rel pv => ?_) fun _ _ z => z⟩
    obtain ⟨e, k⟩ := q vs H' O' s sub no dom rel pv
    refine ⟨lim_size (by rw [e]; exact hil), fun p hp => ⟨p, vs, rfl, .inl (.inl upd_same), e, gNames_ok e (k _ (same_new hp))⟩⟩
end
end PV
/-! a def; the shared thing that draws are taken from -/
namespace PV
open PySem PySem.Spec PyProof.Rows L2
theorem room64 {k : Nat} {A : Around} (r : Room k A) : A.units + 64 < cLine := by
  have := r.un
  omega
theorem fn_ok {P : Program} {w : World} {K : PySem.W.Frag} {mg : Str → Option Value} {base : Heap} {x qual : Str} {params : Arguments} {body : List Stmt} {scope : Scope} {f : Addr} {fd : FuncData} {N ps : List Str} {k : Nat} {c : St}
    (F : FunD K x qual params body scope [] [] f fd) (S : FnScope N ps scope)
    (h : ∀ (cdv : Value) (A : Around) (outer : List PySem.Env) (s : Shared) (H : Hp) (E : XK), Room k (A.deeper (envOfC qual scope s.heap.objs.size f cdv)) → HSs (cxOf CX0 P w K mg base N qual scope f cdv A outer s H E).nox body c) :
    FnOk P w K mg base CX0 (k + 1) f fd ps (spF P w K ps.length (run N.length c)) := by
  refine F.ok S (fun vs H Q E h => ?_) (fun cdv A outer s H vs Q E hr hsp => ⟨tS P w K c, PSs.nox (h cdv A outer s H E hr), ?_⟩)
  · obtain ⟨O, ds, _, r, e, _⟩ := h
    exact r.length.trans e
  · obtain ⟨O, ds, hD, r, e, h⟩ := hsp
    unfold run at h
    rw [post_bind] at h
    have no : ∀ (i : Nat) (d : D), (ds.map (fun d => some (false, d)) ++ List.replicate (N.length - ds.length) none)[i]? ≠ some (some (true, d)) := fun i d z => by
      rw [List.getElem?_append] at z
      split at z
      · rw [List.getElem?_map] at z
        cases q : ds[i]? with
        | none => rw [q] at z; cases z
        | some d => rw [q] at z; cases z
      · rw [List.getElem?_replicate] at z
        split at z <;> cases z
    have rel : RelX P w K H O (L2.start N vs) (ds.map (fun d => some (false, d)) ++ List.replicate (N.length - ds.length) none) := fun i own d z => by
      rw [List.getElem?_append] at z
      split at z
      · rename_i hl
        rw [List.length_map] at hl
        rw [List.getElem?_map] at z
        cases q : ds[i]? with
        | none => rw [q] at z; cases z
        | some d' =>
          rw [q] at z
          cases z
          obtain ⟨v, h1, h2⟩ := r.get q
          refine ⟨v, ?_, h2.b, fun _ => h2⟩
          unfold L2.start
          have hv : i < (vs.map some).length := by rw [List.length_map, r.length]; exact hl
          rw [List.getElem?_append_left hv, List.getElem?_map, h1]
          rfl
      · rw [List.getElem?_replicate] at z
        split at z <;> cases z
    refine ⟨H, O, O, _, ⟨hD, rel, Same.refl H, fun _ z => z, fun _ z => .inl z, fun i d z => (no i d z).elim, fun i j d e a z => (no i d z).elim⟩, post_mono h (fun o q => ?_) fun _ _ z => z⟩
    cases o with
    | nx e => exact fun σ' H' O' r' => q .non H' r'.sm rfl
    | rt d => exact q
    | bk e => exact q.elim
/-! ### the shared thing -/
def kDraws : Str := Str.ofString "draws"
def kAt : Str := Str.ofString "at"
def wKv (l : Addr) (k : Int) : List (Key × V) := [(Sum.inr kDraws, .ref l), (Sum.inr kAt, .int k)]
section
variable {X : Cx} {pins : List (Addr × Obj)} {σ : L2.St} {H : Hp} {s : Shared}
/-- it is seen as a dict -/
theorem w_open {a l : Addr} (I : Inv X pins σ H s) (h : H a = some (wO X.prog X.w a l)) : ∃ k : Int, 0 ≤ k ∧ Inv X pins σ (upd H a (.dK (wKv l k))) s := by
  obtain ⟨⟨k, t, hk, hm, hd⟩, ⟨o, ho⟩, _⟩ := I.hok a _ h
  refine ⟨k, hk, I.write (x := a) (e := a) (t' := s.toks) (h' := s.heap) (by rw [h]; trivial) (.inl rfl) (fun b v _ q => q) ⟨o, ho⟩ ⟨?_, hm, [(Sum.inr kDraws, .ref l), (Sum.inr kAt, .int k t)], .cons ⟨rfl, rfl⟩ (.cons ⟨rfl, t, rfl⟩ .nil), hd⟩⟩
  show 2 ≤ sizeLine
  rw [sizeLine_eq]
  omega
/-- .. and put away again -/
theorem w_close {a l : Addr} {k : Int} (hk : 0 ≤ k) (I : Inv X pins σ H s) (h : H a = some (.dK (wKv l k))) : Inv X pins σ (upd H a (wO X.prog X.w a l)) s := by
  obtain ⟨_, hm, vs, kv, hd⟩ := I.hok a _ h
  obtain ⟨o, es, ep, ho, rest⟩ := id hd
  refine I.write (x := a) (e := a) (t' := s.toks) (h' := s.heap) (by rw [h]; trivial) (.inl rfl) (fun b v _ q => q) ⟨o, ho⟩ ⟨?_, ⟨o, ho⟩, fun h1 h2 q e => ?_⟩
  · obtain ⟨e1, ⟨t, e2⟩⟩ : ∃ x : vs = vs, ∃ t, vs = [(Sum.inr kDraws, .ref l), (Sum.inr kAt, .int k t)] := by
      refine ⟨rfl, ?_⟩
      cases kv with
      | cons p q =>
        cases q with
        | cons p' q' =>
          cases q'
          rename_i b c
          obtain ⟨b1, b2⟩ := b
          obtain ⟨c1, c2⟩ := c
          obtain ⟨pe, pv⟩ := p
          obtain ⟨pe', t, pv'⟩ := p'
          cases pe
          cases pe'
          cases pv
          cases pv'
          exact ⟨t, rfl⟩
    rw [e2] at hd
    exact ⟨k, t, hk, hm, hd⟩
  · obtain ⟨k', t', hk', hm', o', es', ep', ho', rest'⟩ := q
    exact ⟨k', t', hk', hm', o', es', ep', e o' ho', rest'⟩
/-- the block runs while it is seen so -/
def tW (P : Program) (w : World) (a l : Addr) (t : TS) : TS := fun D σ H => H a = some (wO P w a l) ∧ ∀ k : Int, 0 ≤ k → t ⟨fun σ' H' => (∃ k', 0 ≤ k' ∧ H' a = some (.dK (wKv l k'))) ∧ D.nx σ' (upd H' a (wO P w a l)), fun v H' => (∃ k', 0 ≤ k' ∧ H' a = some (.dK (wKv l k'))) ∧ D.rt v (upd H' a (wO P w a l)),
  fun σ' H' => (∃ k', 0 ≤ k' ∧ H' a = some (.dK (wKv l k'))) ∧ D.bk σ' (upd H' a (wO P w a l)), fun σ' H' => (∃ k', 0 ≤ k' ∧ H' a = some (.dK (wKv l k'))) ∧ D.ct σ' (upd H' a (wO P w a l))⟩ σ (upd H a (.dK (wKv l k)))
theorem pss_w {sts : List Stmt} {t : TS} (a l : Addr) (h : PSs X sts t) : PSs X sts (tW X.prog X.w a l t) := by
  refine ⟨fun pins s σ H D I hw => ?_⟩
  obtain ⟨ha, hw⟩ := hw
  obtain ⟨k, hk, I1⟩ := w_open I ha
  refine thn (h.run pins s σ _ _ I1 (hw k hk)) fun f s1 q => ?_
  cases f with
  | next => obtain ⟨σ', H', I2, ⟨k', hk', e⟩, q⟩ := q; exact ⟨σ', _, w_close hk' I2 e, q⟩
  | brk => obtain ⟨σ', H', I2, ⟨k', hk', e⟩, q⟩ := q; exact ⟨σ', _, w_close hk' I2 e, q⟩
  | cont => obtain ⟨σ', H', I2, ⟨k', hk', e⟩, q⟩ := q; exact ⟨σ', _, w_close hk' I2 e, q⟩
  | ret v => obtain ⟨x, σ', H', I2, r, ⟨k', hk', e⟩, q⟩ := q; exact ⟨x, σ', _, w_close hk' I2 e, r, q⟩
end
abbrev eW (p : Pos) : Expr := .Name "w" p
abbrev eK (x : Str) (j : Nat) (p : Pos) : Expr := .Constant (.str x) j p
section
variable {X : Cx} {p1 p2 p3 p4 p5 p6 p7 p8 p9 p10 p11 p12 p13 p14 p15 p16 p17 p18 p19 p20 p21 p22 p23 p24 p25 p26 p27 p28 p29 p30 p31 : Pos} {j1 j2 j3 j4 j5 j6 j7 j8 : Nat}
/-- the def that takes the next number -/
abbrev bNext (p1 p2 p3 p4 p5 p6 p7 p8 p9 p10 p11 p12 p13 p14 p15 p16 p17 p18 p19 p20 p21 p22 p23 p24 p25 p26 p27 p28 p29 p30 p31 : Pos) (j1 j2 j3 j4 j5 j6 j7 j8 : Nat) : List Stmt :=
  [.AugAssign (.Subscript (eW p1) (eK "at" j1 p2) p3) .Add (.Constant (.int 1) j2 p4) p5,
   .If (.Compare (.Subscript (eW p6) (eK "at" j3 p7) p8) [.Gt] [.Call (.Name "len" p9) [.Subscript (eW p10) (eK "draws" j4 p11) p12] [] p13] p14) [.Return (some (.Constant (.int 0) j5 p15)) p16] [] p17,
   .Return (some (.BinOp (.Call (.Name "int" p18) [.Subscript (.Subscript (eW p19) (eK "draws" j6 p20) p21) (.BinOp (.Subscript (eW p22) (eK "at" j7 p23) p24) .Sub (.Constant (.int 1) j8 p25) p26) p27] [] p28) .Mod (.Name "many" p29) p30)) p31]
theorem next_ok (hu : X.A.units + 64 < cLine) (hcalm : X.calm = true) (h0 : X.N[0]? = some ("w" : Str)) (h1 : X.N[1]? = some ("many" : Str)) (v0 : Vis X.env.scope "w") (v1 : Vis X.env.scope "many") (gl : Gl X "len") (gi : Gl X "int") (ml : X.mg "len" = none) (mi : X.mg "int" = none)
    (st1 : starEach [Expr.Subscript (eW p10) (eK "draws" j4 p11) p12] X.env = (false, eval (Expr.Subscript (eW p10) (eK "draws" j4 p11) p12) X.env) :: starEach [] X.env)
    (st2 : starEach [Expr.Subscript (.Subscript (eW p19) (eK "draws" j6 p20) p21) (.BinOp (.Subscript (eW p22) (eK "at" j7 p23) p24) .Sub (.Constant (.int 1) j8 p25) p26) p27] X.env = (false, eval (Expr.Subscript (.Subscript (eW p19) (eK "draws" j6 p20) p21) (.BinOp (.Subscript (eW p22) (eK "at" j7 p23) p24) .Sub (.Constant (.int 1) j8 p25) p26) p27) X.env) :: starEach [] X.env) :
    PSs X (bNext p1 p2 p3 p4 p5 p6 p7 p8 p9 p10 p11 p12 p13 p14 p15 p16 p17 p18 p19 p20 p21 p22 p23 p24 p25 p26 p27 p28 p29 p30 p31 j1 j2 j3 j4 j5 j6 j7 j8)
      (fun D σ H => ∃ (a l : Addr) (ns : List Int) (n : Int), σ[0]? = some (some (.ref a)) ∧ σ[1]? = some (some (.int n)) ∧ 0 < n ∧ a ≠ l ∧ H a = some (wO X.prog X.w a l) ∧ H l = some (.lst (ns.map V.int)) ∧ (∀ m ∈ ns, isDraw m) ∧ ∀ i, 0 ≤ i → i < n → D.rt (.int i) H) := by
  have hu1 : X.A.units + 1 < cLine := by omega
  have iat : ∀ {j p}, NoSl (eK "at" j p) := fun _ _ => rfl
  have idr : ∀ {j p}, NoSl (eK "draws" j p) := fun _ _ => rfl
  have w_ : ∀ {p}, PE X (eW p) (tVar 0) := fun {p} => pe_var h0 v0 (by decide) (by decide)
  have m_ : ∀ {p}, PE X (.Name "many" p) (tVar 1) := fun {p} => pe_var h1 v1 (by decide) (by decide)
  have at_ : ∀ {p q r j}, PE X (.Subscript (eW p) (eK "at" j q) r) (tDGet (tVar 0) (tC (.str kAt))) := fun {p q r j} => pe_dget hu1 w_ pe_str iat
  have dr_ : ∀ {p q r j}, PE X (.Subscript (eW p) (eK "draws" j q) r) (tDGet (tVar 0) (tC (.str kDraws))) := fun {p q r j} => pe_dget hu1 w_ pe_str idr
  have k1 := ps_daug (X := X) (tpos := p3) (pos := p5) (rd := rAdd) hu1 (w_ (p := p1)) (pe_str (X := X) (x := kAt) (j := j1) (pos := p2)) (pe_int (X := X) (i := 1) (j := j2) (pos := p4)) in_add (fun _ _ _ => rfl)
  have k2 := ps_if (X := X) (pos := p17) (pt_cmpR (X := X) (pos := p14) op_gt (at_ (p := p6) (q := p7) (r := p8) (j := j3)) (pe_callB (X := X) (p := p9) (pos := p13) call_len_seq gl ml boot_len (pa_cons (dr_ (p := p10) (q := p11) (r := p12) (j := j4)) pa_nil st1) (by decide) (by decide) st1 rfl) (nomark _))
    (pss_one (ps_ret (pos := p16) (pe_int (X := X) (i := 0) (j := j5) (pos := p15)))) pss_nil
  have k3 := ps_ret (X := X) (pos := p31) (pe_op (X := X) (pos := p30) op_mod (pe_callTy (X := X) (p := p18) (pos := p28) call_int1 gi mi boot_int (pa_cons (pe_ix (X := X) (pos := p27) ix_list (dr_ (p := p19) (q := p20) (r := p21) (j := j6)) (pe_op (X := X) (pos := p26) op_sub (at_ (p := p22) (q := p23) (r := p24) (j := j7)) (pe_int (X := X) (i := 1) (j := j8) (pos := p25))) (fun _ _ => rfl)) pa_nil st2) (by decide) (by decide) st2 rfl) (m_ (p := p29)))
  refine ⟨fun pins s σ H D I h => ?_⟩
  obtain ⟨a, l, ns, n, e0, e1, hn, hal, hw, hl, hd, q⟩ := h
  refine (pss_w a l (pss_cons k1 (pss_cons k2 (pss_one k3)))).run pins s σ H D I ⟨hw, fun k hk => ?_⟩
  have va : ∀ k, valV (wKv l k) (.inr kAt) = some (.int k) := fun k => by
    show valV [_, _] _ = _
    have nd : ¬ ((Sum.inr kDraws : Key) = Sum.inr kAt) := by decide
    rw [valV_neg (by exact nd), valV_pos rfl]
  have vd : ∀ k, valV (wKv l k) (.inr kDraws) = some (.ref l) := fun k => by
    show valV [_, _] _ = _
    rw [valV_pos rfl]
  have pa : L2.putK (wKv l k) (.inr kAt) (.int (k + 1)) = wKv l (k + 1) := by
    unfold L2.putK wKv
    have nd : ¬ ((Sum.inr kDraws : Key) = Sum.inr kAt) := by decide
    simp [nd]
  have ha0 : (upd H a (.dK (wKv l k))) a = some (.dK (wKv l k)) := upd_same
  generalize hH1 : upd H a (.dK (wKv l (k + 1))) = H1
  have ha1 : H1 a = some (.dK (wKv l (k + 1))) := by rw [← hH1]; exact upd_same
  have hl1 : H1 l = some (.lst (ns.map V.int)) := by rw [← hH1, upd_ne (Ne.symm hal)]; exact hl
  have back : upd H1 a (wO X.prog X.w a l) = H := by
    rw [← hH1, upd_upd]
    exact upd_noop hw
  have fin : ∀ i, 0 ≤ i → i < n → (∃ k', 0 ≤ k' ∧ H1 a = some (.dK (wKv l k'))) ∧ D.rt (.int i) (upd H1 a (wO X.prog X.w a l)) := fun i h1 h2 => ⟨⟨k + 1, by omega, ha1⟩, by rw [back]; exact q i h1 h2⟩
  have gat : DGet H1 a (.str kAt) (some (.int (k + 1))) := by
    have := DGet.k (k := .inr kAt) ha1
    rw [va] at this
    exact this
  have gdr : DGet H1 a (.str kDraws) (some (.ref l)) := by
    have := DGet.k (k := .inr kDraws) ha1
    rw [vd] at this
    exact this
  refine ⟨.ref a, e0, a, .int k, rfl, by have := DGet.k (k := .inr kAt) ha0; rw [va] at this; exact this, k, 1, rfl, rfl, H1, ?_, ?_⟩
  · have := DPut.k (k := .inr kAt) (v := .int (k + 1)) ha0 (by show 2 < sizeLine; rw [sizeLine_eq]; omega)
    rw [pa, upd_upd, hH1] at this
    exact this
  · refine ⟨.ref a, e0, a, .int (k + 1), rfl, gat, .ref a, e0, a, .ref l, rfl, gdr, l, ns.map V.int, rfl, .inl (SqL.of hl1), k + 1, ((ns.map V.int).length : Nat), rfl, rfl, _, rfl, ?_⟩
    by_cases hk2 : (((ns.map V.int).length : Nat) : Int) < k + 1
    · rw [decide_eq_true hk2]
      exact fin 0 (Int.le_refl _) hn
    · rw [decide_eq_false hk2]
      have hk3 : k < (ns.length : Nat) := by rw [List.length_map] at hk2; omega
      obtain ⟨m, hm⟩ : ∃ m, ns[k.toNat]? = some m := ⟨ns[k.toNat]'(by omega), List.getElem?_eq_getElem _⟩
      have g : getI ns (k + 1 - 1) = some m := by
        have e : k + 1 - 1 = k := by omega
        rw [e]
        unfold getI PV.ixN
        rw [if_pos hk, if_pos hk3]
        exact hm
      have hmd := hd m (List.mem_of_getElem? hm)
      refine ⟨.ref a, e0, a, .ref l, rfl, gdr, .ref a, e0, a, .int (k + 1), rfl, gat, k + 1, 1, rfl, rfl, l, ns.map V.int, k + 1 - 1, .int m, rfl, rfl, SqL.of hl1, getI_map V.int ns _ g, .inl ⟨m, rfl, .int n, e1, m, n, rfl, rfl, hn, ?_⟩⟩
      exact fin _ (Int.emod_nonneg _ (by omega)) (Int.emod_lt_of_pos _ hn)
/-- as a def: a number below n -/
theorem next_fn {P : Program} {w : World} {K : PySem.W.Frag} {mg : Str → Option Value} {base : Heap} {x qual : Str} {params : Arguments} {body : List Stmt} {scope : Scope} {f : Addr} {fd : FuncData} {k : Nat}
    (F : FunD K x qual params body scope [] [] f fd) (S : FnScope ["w", "many"] ["w", "many"] scope)
    (h : ∀ (cdv : Value) (A : Around) (outer : List PySem.Env) (s : Shared) (H : Hp) (E : XK), Room k (A.deeper (envOfC qual scope s.heap.objs.size f cdv)) → PSs (cxOf CX0 P w K mg base ["w", "many"] qual scope f cdv A outer s H E).nox body
      (fun D σ H => ∃ (a l : Addr) (ns : List Int) (n : Int), σ[0]? = some (some (.ref a)) ∧ σ[1]? = some (some (.int n)) ∧ 0 < n ∧ a ≠ l ∧ H a = some (wO P w a l) ∧ H l = some (.lst (ns.map V.int)) ∧ (∀ m ∈ ns, isDraw m) ∧ ∀ i, 0 ≤ i → i < n → D.rt (.int i) H)) :
    FnOk P w K mg base CX0 (k + 1) f fd ["w", "many"] (spF P w K 2 fDraw) := by
  refine F.ok S (fun vs H Q E h => ?_) (fun cdv A outer s H vs Q E hr hsp => ⟨_, PSs.nox (h cdv A outer s H E hr), ?_⟩)
  · obtain ⟨O, ds, _, r, e, _⟩ := h
    exact r.length.trans e
  · obtain ⟨O, ds, hD, r, e, h⟩ := hsp
    match ds, e, r, h with
    | [d1, d2], _, r, h =>
      obtain ⟨v1, r1, rfl, q1, v2, r2, rfl, q2, rfl⟩ := r
      cases d1 with
      | w =>
        cases d2 with
        | int n =>
          unfold fDraw at h
          rw [post_ck] at h
          obtain ⟨hn, _, h⟩ := h
          obtain ⟨a, l, ns, rfl, na, nl, ha, hl, hd⟩ := q1
          cases q2
          refine ⟨a, l, ns, n, rfl, rfl, hn, ?_, ha, hl, hd, fun i h1 h2 => h i h1 h2 _ H (Same.refl H) rfl⟩
          intro e
          rw [e, hl] at ha
          cases ha
        | _ => exact h.elim
      | _ => exact h.elim
end
end PV
/-! in; sets of rows of numbers; sums of lists -/
namespace PV
open PySem PySem.Spec PyProof.Rows L2
section
variable {X : Cx} {H : Hp} {O : Addr → Prop}
theorem any_toPys : ∀ (l : List D) (x : D), flatL l = true → flat x = true → ((toPys l).any fun y => PyData.eqv y (toPy x)) = l.any fun y => eqD y x
  | [], _, _, _ => rfl
  | y :: r, x, h, hx => by
    simp only [flatL, Bool.and_eq_true] at h
    rw [toPys, List.any_cons, List.any_cons, any_toPys r x h.2 hx, eqv_toPy y x h.1 hx]
theorem un_min1 {A : Around} {a b : Nat} (hu : A.units + 64 < cLine) (h : min a b ≤ DEP) : A.units + 1 + min a b < cLine := by
  unfold DEP at h
  omega
theorem op_oIn (hu : X.A.units + 64 < cLine) : OpR X (compareOp .In) (rOp X.prog X.w X.K oIn) := by
  intro pins s σ H x y v u Q I rx ry h
  obtain ⟨O, dx, dy, hD, hx, hy, h⟩ := h
  unfold oIn bl at h
  rw [post_bind] at h
  cases dy with
  | lst l =>
    simp only [dIn, post_ck] at h
    obtain ⟨⟨f1, f2, hd⟩, h⟩ := h
    obtain ⟨as, q1⟩ := hx.reads I f1 rx
    obtain ⟨bs, q2⟩ := hy.reads I (d := .lst l) (by simp only [flat]; exact f2) ry
    rw [toPy] at q2
    refine PySem.SeqAt.in_list_data q2 q1 (plain_toPys l f2) (plain_toPy dx f1) (by rw [depth_toPys l f2, depth_toPy dx f1]; exact un_min1 hu hd) ?_
    rw [any_toPys l dx f2 f1]
    exact ep_bl I (h _ H (Same.refl H) rfl)
  | tup l =>
    simp only [dIn, post_ck] at h
    obtain ⟨⟨f1, f2, hd⟩, h⟩ := h
    obtain ⟨as, q1⟩ := hx.reads I f1 rx
    obtain ⟨bs, q2⟩ := hy.reads I (d := .tup l) (by simp only [flat]; exact f2) ry
    rw [toPy] at q2
    refine PySem.SeqAt.in_tuple_data q2 q1 (plain_toPys l f2) (plain_toPy dx f1) (by rw [depth_toPys l f2, depth_toPy dx f1]; exact un_min1 hu hd) ?_
    rw [any_toPys l dx f2 f1]
    exact ep_bl I (h _ H (Same.refl H) rfl)
  | _ => exact h.elim
theorem op_oNotIn (hu : X.A.units + 64 < cLine) : OpR X (compareOp .NotIn) (rOp X.prog X.w X.K oNotIn) := by
  intro pins s σ H x y v u Q I rx ry h
  obtain ⟨O, dx, dy, hD, hx, hy, h⟩ := h
  unfold oNotIn at h
  rw [post_bind] at h
  cases dy with
  | lst l =>
    simp only [dIn, post_ck] at h
    obtain ⟨⟨f1, f2, hd⟩, h⟩ := h
    obtain ⟨as, q1⟩ := hx.reads I f1 rx
    obtain ⟨bs, q2⟩ := hy.reads I (d := .lst l) (by simp only [flat]; exact f2) ry
    rw [toPy] at q2
    refine PySem.SeqAt.notIn_list_data q2 q1 (plain_toPys l f2) (plain_toPy dx f1) (by rw [depth_toPys l f2, depth_toPy dx f1]; exact un_min1 hu hd) ?_
    rw [any_toPys l dx f2 f1]
    exact ep_bl I (h _ H (Same.refl H) rfl)
  | tup l =>
    simp only [dIn, post_ck] at h
    obtain ⟨⟨f1, f2, hd⟩, h⟩ := h
    obtain ⟨as, q1⟩ := hx.reads I f1 rx
    obtain ⟨bs, q2⟩ := hy.reads I (d := .tup l) (by simp only [flat]; exact f2) ry
    rw [toPy] at q2
    refine PySem.SeqAt.notIn_tuple_data q2 q1 (plain_toPys l f2) (plain_toPy dx f1) (by rw [depth_toPys l f2, depth_toPy dx f1]; exact un_min1 hu hd) ?_
    rw [any_toPys l dx f2 f1]
    exact ep_bl I (h _ H (Same.refl H) rfl)
  | _ => exact h.elim
/-! ### sorted(a set) -/
theorem each_perm {R : Value → D → Prop} {us us' : List Value} (p : us'.Perm us) : ∀ {ds : List D}, PySem.W.EachIs R us ds → ∃ ds', ds'.Perm ds ∧ PySem.W.EachIs R us' ds' := by
  induction p with
  | nil => intro ds e; exact ⟨ds, .refl _, e⟩
  | cons x p ih =>
    intro ds e
    cases e with
    | cons h t =>
      obtain ⟨ds', q, e'⟩ := ih t
      exact ⟨_, q.cons _, .cons h e'⟩
  | swap x y l =>
    intro ds e
    cases e with
    | cons h t =>
      cases t with
      | cons h' t' => exact ⟨_, .swap _ _ _, .cons h' (.cons h t')⟩
  | trans p q ih ih' =>
    intro ds e
    obtain ⟨d1, p1, e1⟩ := ih' e
    obtain ⟨d2, p2, e2⟩ := ih e1
    exact ⟨d2, p2.trans p1, e2⟩
theorem sorted_set {prog : Program} {w : World} {A : Around} {E : Value → Shared → Prop} {s : Shared} {a : Addr} {es : Array (Int × Value)} {ep : Nat} {t : SetTable} {Q : Value → Shared → Prop} {R : Value → D → Prop} {ds : List D} (hh : A.handled = none) (hu : A.units + 64 < cLine)
    (ho : ∃ o, s.heap.get? a = some o ∧ o.ExactSet ∧ o.data = .set es ep t) (hf : t.fits es.size = true) (hz : ds.length < 64) (ris : Ris t.place.toList) (led : w.params.followText "set-order" = true ∨ t.led = true)
    (e : PySem.W.EachIs R (es.toList.map (·.2)) ds) (er : ∀ u d, R u d → ∃ as, Reads s.heap u (toPy d) as) (hal : allAlk ds = true) (hso : sortable ds = true) (hdep : depL ds ≤ DEP)
    (h : ∀ (s' : Shared) (p : Addr) (out : List Value) (c : Nat) (ds' : List D), (∀ b o, s.heap.get? b = some o → s'.heap.get? b = some o) → s'.gens = s.gens → s'.os = s.os → s.heap.objs.size ≤ p → s'.heap.get? p = some (seqObj "list" (List.toArray out) c) →
      ds'.Perm ds → PySem.W.EachIs R out (sortD ltD ds') → Q (.ref p) s') : wpAny (model prog w) A (call (.builtin "sorted") [.ref a]) Q E s := by
  obtain ⟨o, ho, hex, hd⟩ := ho
  have hes : es.size = ds.length := by
    have := e.length
    rw [List.length_map, Array.length_toList] at this
    exact this
  refine Calls.call_function_entry kind_sorted plain_sorted entry_sorted (args_sorted1 _) ?_
  unfold Builtin.«sorted»
  refine wpAny_bind (m := checkCount "sorted" 1 1 _) (wpAny_pure ?_)
  refine wpAny_bind (collect_set (A := A.in1) hh ⟨o, ho, hex.1, hd⟩ hf (by unfold scanBound; omega) ris led fun s1 vs k1 hz1 g1 o1 pm => ?_)
  obtain ⟨ds', pd, e'⟩ := each_perm pm e
  have hl' : vs.length = ds'.length := e'.length
  have hdl : ds'.length = ds.length := pd.length_eq
  refine wpAny_bind (wpAny_newList ?_ (by rw [sizeLine_eq]; omega))
  have hoL : (s1.heap.push (seqObj "list" vs.toArray 0)).get? s1.heap.objs.size = some (seqObj "list" vs.toArray 0) := Heap.get?_push_size _ rfl
  have mm : ∀ d, d ∈ ds' → d ∈ ds := fun d hd => pd.mem_iff.mp hd
  have hal' : allAlk ds' = true := List.all_eq_true.mpr fun x hx => List.all_eq_true.mpr fun y hy => alk_of_all hal (mm x hx) (mm y hy)
  have hso' : sortable ds' = true := by
    unfold sortable at hso ⊢
    rw [Bool.or_eq_true] at hso ⊢
    exact hso.imp (fun z => List.all_eq_true.mpr fun x hx => List.all_eq_true.mp z x (mm x hx)) fun z => List.all_eq_true.mpr fun x hx => List.all_eq_true.mp z x (mm x hx)
  have hf' := flat_of_all hal'
  have rd : PySem.W.EachIs (fun u d => ∃ as, Reads (s1.heap.push (seqObj "list" vs.toArray 0)) u (toPy d) as ∧ s1.heap.objs.size ∉ as) vs ds' := by
    refine e'.mono fun u d r => ?_
    obtain ⟨as, q⟩ := er u d r
    refine ⟨as, PySem.W.reads_keeps (fun b ob z => Heap.get?_push_of_some _ (k1 b ob z)) q, fun hm => ?_⟩
    obtain ⟨ob, z⟩ := PyProof.On.reads_mem_get q _ hm
    exact absurd (Heap.lt_size (k1 _ _ z)) (Nat.lt_irrefl _)
  refine wpAny_bind (wpAny_holding (PySem.W.list_sort_data (s := { s1 with heap := s1.heap.push (seqObj "list" vs.toArray 0) }) (R := R) (bs := ds') (enc := toPy) hoL e' rd (fun x hx y hy => ?_) (py_sortable hf' hso') (by rw [hdl, sizeLine_eq]; omega) (fun b hb => ?_) fun out hol eo => ?_))
  · obtain ⟨x, hx', rfl⟩ := List.mem_map.mp hx
    obtain ⟨y, hy', rfl⟩ := List.mem_map.mp hy
    exact alike_toPy x y (alk_of_all hal' hx' hy')
  · have hb' : flat b = true := flat_of_alk b (alk_of_all hal' hb hb)
    rw [depth_toPy b hb']
    have := dep_mem (mm b hb)
    unfold DEP at hdep
    show A.in1.units + 1 + dep b < cLine
    rw [Around.in1_units]
    omega
  · rw [py_sort hal'] at eo
    obtain ⟨c, hc⟩ := sortedHeap_at (vs := vs) (out := List.toArray out) hoL
    refine wpAny_pure ⟨_, rfl, h _ s1.heap.objs.size out c ds' (fun b u z => ?_) g1 o1 hz1 hc pd eo⟩
    have q := k1 b u z
    have hlt := Heap.lt_size q
    show (sortedHeap (s1.heap.push (seqObj "list" vs.toArray 0)) s1.heap.objs.size vs (List.toArray out)).get? b = some u
    rw [sortedHeap_old (Nat.ne_of_lt hlt) (by rw [size_push']; exact Nat.lt_succ_of_lt hlt)]
    exact Heap.get?_push_of_some _ q
/-- rows of numbers, as they stand -/
theorem ti_rows : ∀ {nss : List (List Int)} {vs : List V}, RepL X.prog X.w X.K H O (nss.map dTI) vs → ∃ ks : List (Addr × List Int), vs = ks.map (fun p => V.ref p.1) ∧ ks.map (·.2) = nss ∧ ∀ p ∈ ks, SqT X.K H p.1 (p.2.map V.int)
  | [], vs, h => by
    cases h
    exact ⟨[], rfl, rfl, fun p hp => by cases hp⟩
  | ns :: r, vs, h => by
    obtain ⟨v, vs', rfl, ⟨a, us, rfl, ht, hr⟩, h2⟩ := h
    obtain ⟨ks, rfl, rfl, hk⟩ := ti_rows h2
    have e : us = ns.map V.int := ints_rep (l := ns.map D.int) (ns := ns) (by
      clear hr ht h2
      induction ns with
      | nil => rfl
      | cons x r ih => rw [List.map_cons, intsOf, ih]; rfl) hr
    subst e
    refine ⟨(a, ns) :: ks, rfl, rfl, fun p hp => ?_⟩
    rcases List.mem_cons.mp hp with rfl | hp
    · exact ht
    · exact hk p hp
/-- the set of them is made -/
theorem set_made {pins : List (Addr × Obj)} {σ : L2.St} {s : Shared} {l : List D} {v : V} {u : Value} (hc : X.calm = true) (hu : X.A.units + 64 < cLine) (I : Inv X pins σ H s) (rv : RelV v u) (hx : RepB X.prog X.w X.K H O (.lst l) v) (h1 : l.all isTI = true) (h2 : l.length ≤ 60) {Q : Value → Shared → Prop}
    (h : ∀ (s' : Shared) (a : Addr) (es : Array (Int × Value)) (ep : Nat) (t : SetTable) (ds : List D), Inv X pins σ H s' → (∃ o, s'.heap.get? a = some o ∧ o.ExactSet ∧ o.data = .set es ep t) → t.fits es.size = true → ds.length < 64 → Ris t.place.toList → (X.w.params.followText "set-order" = true ∨ t.led = true) →
      PySem.W.EachIs (fun u d => ∃ v, RelV v u ∧ Rep X.prog X.w X.K H O d v) (es.toList.map (·.2)) ds → ds.Perm (dedup l) → Q (.ref a) s') : wpAny (model X.prog X.w) X.A (call (.type "set") [u]) Q X.xe s := by
  obtain ⟨p, vs, rfl, hl, hr⟩ := hx
  cases rv
  obtain ⟨nss, hne, rfl⟩ := isTI_all h1
  obtain ⟨ks, rfl, hks, hk⟩ := ti_rows hr
  obtain ⟨its, rr, pl, hz⟩ := I.list (SqL.of hl)
  have e := refs_of_vals rr
  have hlen : ks.length < 64 := by
    have := congrArg List.length hks
    rw [List.length_map] at this
    rw [List.length_map] at h2
    omega
  refine call_set_tups ks (I.ok.hd hc) pl.isList (by simpa using e) (fun q hq => I.isT (hk q hq)) hlen (by omega) fun h' tk L es ep t R g kp => ?_
  have I' : Inv X pins σ H { s with heap := h', toks := tk } := I.kept kp
  have sub : ∀ q ∈ L, q ∈ ks := fun q hq => by
    have := g.sub q hq
    rw [List.take_length] at this
    exact this
  obtain ⟨ms, em, hn, hm⟩ := dedup_TI nss
  refine h _ s.heap.objs.size es ep t (L.map fun q => dTI q.2) I' R.ob (SetTR.fits (s := { s with heap := h', toks := tk }) R) (by rw [List.length_map]; exact R.few) R.tab.ris R.led ?_ ?_
  · have hr : es.toList.map (·.2) = L.map fun q => Value.ref q.1 := by
      rw [R.rows]
      unfold rowsOf
      rw [List.map_map] <;> rfl
    rw [hr]
    have hall : ∀ q ∈ L, SqT X.K H q.1 (q.2.map V.int) := fun q hq => hk q (sub q hq)
    clear hr R g sub
    induction L with
    | nil => exact .nil
    | cons q L ih =>
      rw [List.map_cons, List.map_cons]
      exact .cons ⟨.ref q.1, rfl, q.1, _, rfl, hall q List.mem_cons_self, RepL.ints _⟩ (ih fun q hq => hall q (List.mem_cons_of_mem _ hq))
  · rw [em]
    have e2 : (L.map fun q => dTI q.2) = (L.map (·.2)).map dTI := by rw [List.map_map]; rfl
    rw [e2]
    refine List.Perm.map _ ((List.perm_ext_iff_of_nodup R.nd hn).mpr fun m => ?_)
    rw [hm, ← hks]
    constructor
    · intro z
      obtain ⟨q, hq, rfl⟩ := List.mem_map.mp z
      exact List.mem_map.mpr ⟨q, sub q hq, rfl⟩
    · intro z
      obtain ⟨q, hq, rfl⟩ := List.mem_map.mp z
      have := g.all q (by rw [List.take_length]; exact hq)
      exact this
section
variable {a : Expr} {ca : Ex} {p p2 q pos : Pos}
/-- sorted(set(x)) -/
theorem e_sortSet (hc : X.calm = true) (hu : X.A.units + 64 < cLine) (hg : Gl X "sorted") (hm : X.mg "sorted" = none) (hg2 : Gl X "set") (hm2 : X.mg "set" = none) (ha : HB X a ca)
    (ns : starEach [Expr.Call (.Name "set" p2) [a] [] q] X.env = (false, eval (Expr.Call (.Name "set" p2) [a] [] q) X.env) :: starEach [] X.env) (na : starEach [a] X.env = (false, eval a X.env) :: starEach [] X.env) : HE X (.Call (.Name "sorted" p) [.Call (.Name "set" p2) [a] [] q] [] pos) (ePrim pSortSet [ca]) := by
  refine ⟨fun pins s σ H Q I h => ?_⟩
  obtain ⟨O, env, h1, h2, h3⟩ := h
  unfold ePrim at h3
  rw [post_bind] at h3
  have h3' : (ca env).post (fun d => (pSortSet [d]).post (fun d => ∀ v H', Same H H' → Rep X.prog X.w X.K H' O d v → Q v H') noE) noE := by
    unfold eAll at h3
    rw [post_bind] at h3
    exact post_mono h3 (fun d z => z) fun _ _ z => z
  refine Call_ (ld_blt I hg hm boot_sorted ?_)
  refine PyProof.Rows.callWith_builtin1 (PyProof.Rows.args_cons ?_ ns) ns rfl
  refine Call_ (ld_blt I hg2 hm2 boot_set ?_)
  refine PyProof.Rows.callWith_type1 (PyProof.Rows.args_cons (thn (ha.run pins s σ H (fun v H1 => ∃ d, Same H H1 ∧ RepB X.prog X.w X.K H1 O d v ∧ (pSortSet [d]).post (fun d => ∀ v H', Same H H' → Rep X.prog X.w X.K H' O d v → Q v H') noE) I ⟨O, env, h1, h2, post_mono h3' (fun d z v H' sm r => ⟨d, sm, r, z⟩) fun _ _ z => z⟩) fun v s1 ⟨x, H1, I1, r1, d, sm, rd, z⟩ => PyProof.Rows.args_nil ?_) na) na rfl
  cases d with
  | lst l =>
    unfold pSortSet at z
    rw [post_ck] at z
    obtain ⟨⟨c1, c2⟩, z⟩ := z
    have hD := h1.same sm
    refine set_made hc hu I1 r1 rd c1 c2 fun s2 a es ep t ds I2 ho hf hz ris led e pd => ?_
    refine PyProof.Rows.args_nil ?_
    obtain ⟨nss, hne, rfl⟩ := isTI_all c1
    have hti : ∀ d ∈ ds, ∃ ns, ns ≠ [] ∧ d = dTI ns := fun d hd => by
      have := mem_dedup (pd.mem_iff.mp hd)
      obtain ⟨ns, hn, rfl⟩ := List.mem_map.mp this
      exact ⟨ns, hne ns hn, rfl⟩
    have hal : allAlk ds = true := List.all_eq_true.mpr fun x hx => List.all_eq_true.mpr fun y hy => by
      obtain ⟨a, _, rfl⟩ := hti x hx
      obtain ⟨b, _, rfl⟩ := hti y hy
      exact alk_dTI a b
    have hso : sortable ds = true := by
      unfold sortable
      rw [Bool.or_eq_true]
      refine .inl (List.all_eq_true.mpr fun x hx => ?_)
      obtain ⟨a, hn, rfl⟩ := hti x hx
      cases a with
      | nil => exact absurd rfl hn
      | cons y r => rfl
    have hdep : depL ds ≤ DEP := by
      have : ∀ l : List D, (∀ d ∈ l, ∃ ns, ns ≠ [] ∧ d = dTI ns) → depL l ≤ 1 := by
        intro l
        induction l with
        | nil => intro _; exact Nat.zero_le _
        | cons y r ih =>
          intro hl
          obtain ⟨ns, _, rfl⟩ := hl y List.mem_cons_self
          simp only [depL, dep_dTI]
          have := ih fun d hd => hl d (List.mem_cons_of_mem _ hd)
          omega
      have := this ds hti
      unfold DEP
      omega
    refine sorted_set (R := fun u d => (∃ v, RelV v u ∧ Rep X.prog X.w X.K H1 O d v) ∧ ∃ ns, d = dTI ns) (I2.ok.hd hc) hu ho hf hz ris led ?_ (fun u d r => ?_) hal hso hdep fun s3 p out c ds' kp hg ho' hp hgp pd' eo => ?_
    · have : ∀ {us : List Value} {dd : List D}, (∀ d ∈ dd, ∃ ns, ns ≠ [] ∧ d = dTI ns) → PySem.W.EachIs (fun u d => ∃ v, RelV v u ∧ Rep X.prog X.w X.K H1 O d v) us dd → PySem.W.EachIs (fun u d => (∃ v, RelV v u ∧ Rep X.prog X.w X.K H1 O d v) ∧ ∃ ns, d = dTI ns) us dd := by
        intro us dd hdd e
        induction e with
        | nil => exact .nil
        | cons h t ih =>
          obtain ⟨ns, _, rfl⟩ := hdd _ List.mem_cons_self
          exact .cons ⟨h, ns, rfl⟩ (ih fun d hd => hdd d (List.mem_cons_of_mem _ hd))
      exact this hti e
    · obtain ⟨⟨v, r, rd⟩, ns, rfl⟩ := r
      exact Rep.reads I2 _ v u (flat_dTI ns) rd r
    · obtain ⟨ws, q1, q2⟩ := of_each (eo.mono fun u d r => r.1)
      have hn : H1 p = none := I2.hok.fresh hp
      have es : sortD ltD ds' = sortD ltD (dedup (nss.map dTI)) := sort_TI (fun a ha => by
        obtain ⟨ns, _, e⟩ := hti a (pd'.mem_iff.mp ha)
        exact ⟨ns, e⟩) (fun a ha => by
        obtain ⟨ns, _, e⟩ := hti a (pd.mem_iff.mpr ha)
        exact ⟨ns, e⟩) (pd'.trans pd)
      rw [es] at q2
      have hwl : ws.length ≤ sizeLine := by
        rw [q2.length, perm_sortD.length_eq, ← pd.length_eq, sizeLine_eq]
        omega
      have I3 : Inv X pins σ (upd H1 p (.lst ws)) s3 := I2.call' (ch := []) ho' (Un.laid kp hp hn) (I2.hok.laid kp hp ⟨hwl, out, c, q1, hgp⟩) (by rw [hg]; exact I2.bare) (fun _ z => nomatch z)
      exact ⟨.ref p, _, I3, rfl, z _ _ (sm.trans (same_new hn)) (rep_lst hD hn q2)⟩
  | _ => exact z.elim
end
end
end PV
/-! sum(lists, []) -/
namespace PV
open PySem PySem.Spec PyProof.Rows L2
abbrev lsO (vs : Array Value) (c : Nat) : Obj := { cls := .type "list", data := .seq vs c }
/-- what is left to be joined -/
def joinV (val : Nat → Array Value) : Nat → Nat → Array Value
  | _, 0 => #[]
  | i, k + 1 => val i ++ joinV val (i + 1) k
section
variable {prog : Program} {w : World} {A : Around} {R : Result → Shared → Prop} {I : Addr} {fp wr : List Addr} {G : Array GenState → Array GenState → Prop} {n : Nat} {P : Nat → Value → Prop} {St : Nat → Shared → Prop}
theorem sum_lists_loop (W : WalksS prog w A.in1 I fp wr G n P St) (val : Nat → Array Value) (adr : Nat → Addr) (hval : ∀ i v, P i v → v = .ref (adr i)) (S : Addr) (hSf : S ∉ fp) (hA : ∀ i, i < n → adr i ∉ S :: wr) (hw : ∀ i s, St i s → ∀ b ∈ wr, ∃ o, s.heap.get? b = some o) :
    ∀ (k i : Nat) (s : Shared) (acc : Array Value) (p c ca : Nat), n - i = k → i ≤ n → St i s → s.heap.get? S = some (lsO #[.ref p] c) → s.heap.get? p = some (lsO acc ca) → p ∉ S :: wr → (∀ j, j < n → ∃ cj, s.heap.get? (adr j) = some (lsO (val j) cj)) →
      (acc ++ joinV val i k).size ≤ sizeLine → (∀ s' q cq, Moved (S :: wr) G s s' → s'.heap.get? q = some (lsO (acc ++ joinV val i k) cq) → (q = p ∨ s.heap.get? q = none) → R (.ok (.ret (.ref q))) s') → codeAny (model prog w) A (.builtin "sum.loop" ⟨[.ref I, .ref S, rawInt 2, rawInt 0], []⟩) R s := by
  have hSw : S ∉ wr := fun h => hSf (W.sub _ h)
  have hsub : ∀ b ∈ wr, b ∈ S :: wr := fun b hb => List.mem_cons_of_mem _ hb
  intro k
  induction k with
  | zero =>
    intro i s acc p c ca hk hi hst hS hp hpn hv hz hR
    have hin : i = n := by omega
    subst hin
    refine codeAny_builtin F.entry_sum_loop ?_
    rw [Around.under_plainId F.plain_sum_loop _]
    show wpAny _ A.in1 (seqItems? (.ref S) >>= _) _ _ s
    refine wpAny_bind (wpAny_seqItems hS rfl ?_)
    show wpAny _ A.in1 (tryCatch (pyNext (.ref I)) _ >>= _) _ _ s
    refine wpAny_bind (wpAny_tryCatch (W.done s _ _ hst fun s' hm => ?_))
    refine wpAny_pure (hR s' p ca (hm.mono hsub) ?_ (.inl rfl))
    have e : acc ++ joinV val i 0 = acc := by simp [joinV]
    rw [e]
    exact hm.heap p _ (fun z => hpn (hsub _ z)) hp
  | succ k ih =>
    intro i s acc p c ca hk hi hst hS hp hpn hv hz hR
    have hlt : i < n := by omega
    refine codeAny_builtin F.entry_sum_loop ?_
    rw [Around.under_plainId F.plain_sum_loop _]
    show wpAny _ A.in1 (seqItems? (.ref S) >>= _) _ _ s
    refine wpAny_bind (wpAny_seqItems hS rfl ?_)
    show wpAny _ A.in1 (tryCatch (pyNext (.ref I)) _ >>= _) _ _ s
    refine wpAny_bind (wpAny_tryCatch (W.item i s _ _ hlt hst fun v s' hP hst' hm => ?_))
    have ev := hval i v hP
    subst ev
    have hS' := hm.heap S _ hSw hS
    have hp' := hm.heap p _ (fun z => hpn (hsub _ z)) hp
    obtain ⟨ci, hi0⟩ := hv i hlt
    have hi' := hm.heap (adr i) _ (fun z => hA i hlt (hsub _ z)) hi0
    have hj : joinV val i (k + 1) = val i ++ joinV val (i + 1) k := rfl
    rw [hj] at hz hR
    have hsz : acc.size + (val i).size ≤ sizeLine := by
      rw [Array.size_append, Array.size_append] at hz
      omega
    show wpAny _ A.in1 ((holding [Value.ref (adr i)] (binaryOp .Add (.ref p) (.ref (adr i)))).attempt >>= _) _ _ _
    refine wpAny_bind (wpAny_attempt (wpAny_holding (PySem.P.add_list hp' hi' ?_ hsz)))
    have hS1 : (s'.heap.push (lsO (acc ++ val i) 0)).get? S = some (lsO #[.ref p] c) := Heap.get?_push_of_some _ hS'
    show wpAny _ A.in1 (updateSeq S (fun _ => #[Value.ref s'.heap.objs.size]) >>= _) _ _ _
    refine wpAny_bind (wpAny_updateSeq hS1 rfl ?_)
    have hS2 := Heap.get?_update_self (Obj.mapSeq fun _ => #[Value.ref s'.heap.objs.size]) hS1 rfl
    refine wpAny_bind (wpAny_letGo ?_)
    have hne : ∀ b, b ≠ S → ∀ o, s'.heap.get? b = some o → (((s'.heap.push (lsO (acc ++ val i) 0)).update S (Obj.mapSeq fun _ => #[Value.ref s'.heap.objs.size])).update S (Obj.mapSeq fun _ => #[Value.ref s'.heap.objs.size])).get? b = some o := fun b hb o e => by
      rw [Heap.get?_update_other _ _ (Ne.symm hb), Heap.get?_update_other _ _ (Ne.symm hb)]
      exact Heap.get?_push_of_some _ e
    have hSlt : S < s'.heap.objs.size := Heap.lt_size hS'
    have hnew : (((s'.heap.push (lsO (acc ++ val i) 0)).update S (Obj.mapSeq fun _ => #[Value.ref s'.heap.objs.size])).update S (Obj.mapSeq fun _ => #[Value.ref s'.heap.objs.size])).get? s'.heap.objs.size = some (lsO (acc ++ val i) 0) := by
      have hb : S ≠ s'.heap.objs.size := Nat.ne_of_lt hSlt
      rw [Heap.get?_update_other _ _ hb, Heap.get?_update_other _ _ hb]
      exact Heap.get?_push_size _ rfl
    have nfp : ∀ b ∈ fp, b ≠ S := fun b hb e => hSf (e ▸ hb)
    refine wpAny_bind (wpAny_updateSeq hS2 rfl (wpAny_pure ⟨plainId_quiet F.plain_sum_loop _, ih (i + 1) _ (acc ++ val i) s'.heap.objs.size _ 0 (by omega) hlt (W.frame _ s' _ _ hst' (by first | exact Nat.le_refl _ | exact Nat.le_succ _ | omega) fun b hb o e => hne b (nfp b hb) o e) (Heap.get?_update_self _ hS2 rfl) hnew ?_ (fun j hj => ?_) ?_ fun s'' q cq hm'' hq ho => ?_⟩))
    · intro hm2
      rcases List.mem_cons.mp hm2 with e | e
      · exact absurd e (Nat.ne_of_gt hSlt)
      · obtain ⟨o, q⟩ := hw _ _ hst' _ e
        exact absurd (Heap.lt_size q) (Nat.lt_irrefl _)
    · obtain ⟨cj, e⟩ := hv j hj
      have e' := hm.heap (adr j) _ (fun z => hA j hj (hsub _ z)) e
      exact ⟨cj, hne _ (fun z => hA j hj (z ▸ List.mem_cons_self)) _ e'⟩
    · rw [Array.append_assoc]
      exact hz
    · rw [Array.append_assoc] at hq
      refine hR s'' q cq (Moved.trans W.gtrans ((hm.mono hsub).then_heap (by first | exact Nat.le_refl _ | exact Nat.le_succ _ | omega) fun b o hb e => hne b (fun z => hb (z ▸ List.mem_cons_self)) o e) hm'') hq (.inr ?_)
      cases hq0 : s.heap.get? q with
      | none => rfl
      | some o =>
        have step : ∃ o', s'.heap.get? q = some o' := by
          by_cases hb : q ∈ wr
          · exact hw _ _ hst' q hb
          · exact ⟨o, hm.heap q o hb hq0⟩
        obtain ⟨o', e'⟩ := step
        rcases ho with e | e
        · rw [e] at e'
          exact absurd (Heap.lt_size e') (Nat.lt_irrefl _)
        · by_cases hb : q = S
          · rw [hb] at e
            rw [Heap.get?_update_self _ hS2 rfl] at e
            cases e
          · have := hne q hb o' e'
            rw [show Shared.heap _ = _ from rfl] at e
            rw [e] at this
            cases this
theorem args_sum_two (a b : Value) : argsOk "sum" ⟨[a, b], []⟩ := by unfold argsOk; kernel_rfl
theorem sub_list_str : isSubtype (.type "list") (.type "str") = pure false := by rw [isSubtype_type]; kernel_rfl
theorem sub_list_bytes : isSubtype (.type "list") (.type "bytes") = pure false := by rw [isSubtype_type]; kernel_rfl
theorem sub_list_bytearray : isSubtype (.type "list") (.type "bytearray") = pure false := by rw [isSubtype_type]; kernel_rfl
end
section
variable {prog : Program} {w : World} {A : Around} {E : Value → Shared → Prop} {s : Shared}
theorem call_sum_lists {l z : Addr} {vs : Array Value} {cz : Nat} {adr : Nat → Addr} {val : Nat → Array Value} {Q : Value → Shared → Prop} (hh : A.handled = none) (hl : s.heap.IsList l vs) (hz : s.heap.get? z = some (lsO #[] cz)) (hv : ∀ (i : Nat) (v : Value), vs[i]? = some v → v = Value.ref (adr i))
    (hi : ∀ j, j < vs.size → ∃ cj, s.heap.get? (adr j) = some (lsO (val j) cj)) (hsz : (joinV val 0 vs.size).size ≤ sizeLine)
    (h : ∀ s' q cq, (∀ b o, s.heap.get? b = some o → s'.heap.get? b = some o) → s'.gens = s.gens → s'.os = s.os → s'.heap.get? q = some (lsO (joinV val 0 vs.size) cq) → (q = z ∨ s.heap.get? q = none) → Q (.ref q) s') :
    wpAny (model prog w) A (call (.builtin "sum") [.ref l, .ref z]) Q E s := by
  refine call_function_tree F.kind_sum F.plain_sum F.entry_sum (args_sum_two _ _) ?_
  unfold Builtin.«sum»
  simp only [List.length_cons, List.length_nil]
  rw [if_neg (by decide)]
  refine wpAny_bind (wpAny_of_eq (show Builtin.Builtins.bindParams "sum" ["start"] 0 ⟨[Value.ref z], []⟩ = pure [some (Value.ref z)] from rfl) ?_)
  refine wpAny_bind (PySem.W.iter_listW (A := A.in1) hh hl fun s2 e2 W st2 hlt hn kp => ?_)
  have hz2 : s2.heap.get? z = some (lsO #[] cz) := kp _ _ hz
  have tz : s2.TypeIs (.ref z) "list" := ⟨_, hz2, rfl⟩
  refine wpAny_bind (wpAny_pure ?_)
  simp only [List.forIn_cons, List.forIn_nil]
  refine wpAny_bind (wpAny_bind (wpAny_bind (wpAny_isInstance (T := "list") (b := false) tz sub_list_str ?_)))
  simp only [Bool.false_eq_true, if_false]
  refine wpAny_pure (wpAny_bind (wpAny_bind (wpAny_isInstance (T := "list") (b := false) tz sub_list_bytes ?_)))
  simp only [Bool.false_eq_true, if_false]
  refine wpAny_pure (wpAny_bind (wpAny_bind (wpAny_isInstance (T := "list") (b := false) tz sub_list_bytearray ?_)))
  simp only [Bool.false_eq_true, if_false]
  refine wpAny_pure (wpAny_pure ?_)
  refine wpAny_bind (wpAny_newObj_type ?_)
  have hSf : s2.heap.objs.size ∉ [s.heap.objs.size, l] := fun hm => Nat.lt_irrefl _ (hlt _ hm)
  have old : ∀ b o, s2.heap.get? b = some o → (s2.heap.push (lsO #[Value.ref z] 0)).get? b = some o := fun b o e => Heap.get?_push_of_some _ e
  have hs2 : s2.heap.objs.size = s.heap.objs.size + 1 := by rw [e2]; exact Heap.size_push _ _
  have nin : ∀ b o, s.heap.get? b = some o → b ∉ [s2.heap.objs.size, s.heap.objs.size] := fun b o e hm => by
    have hb := Heap.lt_size e
    rcases List.mem_cons.mp hm with e1 | e1
    · rw [e1, hs2] at hb
      exact absurd hb (Nat.not_lt.mpr (Nat.le_succ _))
    · rw [List.mem_singleton.mp e1] at hb
      exact absurd hb (Nat.lt_irrefl _)
  refine wpAny_pure ⟨plainId_quiet F.plain_sum_loop _, sum_lists_loop W val adr (fun i v e => hv i v e) s2.heap.objs.size hSf (fun i hlt' => ?_) (fun i s3 st b hb => ?_) vs.size 0 _ #[] z 0 cz rfl (Nat.zero_le _)
    (W.frame 0 s2 _ _ st2 (by first | exact Nat.le_refl _ | exact Nat.le_succ _ | omega) fun b _ o e => Heap.get?_push_of_some _ e) (Heap.get?_push_size _ rfl) (old _ _ hz2) (nin _ _ hz) (fun j hj => ?_) (by simpa using hsz) fun s3 q cq hm hq ho => ?_⟩
  · obtain ⟨cj, e⟩ := hi i hlt'
    exact nin _ _ e
  · have e : b = s.heap.objs.size := by simpa using hb
    subst e
    obtain ⟨o, e, _⟩ := st.1
    exact ⟨o, e⟩
  · obtain ⟨cj, e⟩ := hi j hj
    exact ⟨cj, old _ _ (kp _ _ e)⟩
  · have hm' := hm.drop_new (o := lsO #[.ref z] 0) (tk := s2.toks) (by first | exact Nat.le_refl _ | exact Nat.le_succ _ | omega)
    have g2 : s2.gens = s.gens := by rw [e2]
    have o2 : s2.os = s.os := by rw [e2]
    have hq' : s3.heap.get? q = some (lsO (joinV val 0 vs.size) cq) := by simpa using hq
    refine h s3 q cq (fun b o e => hm'.heap b o (hn b o e) (kp b o e)) (hm'.gens.trans g2) (hm'.os.trans o2) hq' (ho.imp id fun e => ?_)
    cases hq0 : s.heap.get? q with
    | none => rfl
    | some o =>
      have := old _ _ (kp _ _ hq0)
      rw [show Shared.heap _ = _ from rfl] at e
      rw [e] at this
      cases this
end
section
variable {X : Cx} {H : Hp} {O : Addr → Prop}
theorem lsts_of : ∀ {l : List D} {ls : List (List D)}, lstsOf l = some ls → l = ls.map D.lst
  | [], ls, e => by
    cases e
    rfl
  | x :: r, ls, e => by
    cases x with
    | lst m =>
      simp only [lstsOf] at e
      cases q : lstsOf r with
      | none => rw [q] at e; cases e
      | some ms =>
        rw [q] at e
        cases e
        rw [List.map_cons, lsts_of q]
    | _ => simp [lstsOf] at e
theorem join_rep : ∀ {ls : List (List D)} {vs : List V} {us : List Value} {pins : List (Addr × Obj)} {σ : L2.St} {s : Shared}, Inv X pins σ H s → RepL X.prog X.w X.K H O (ls.map D.lst) vs → Vals vs us →
    ∃ (adr : Nat → Addr) (val : Nat → Array Value) (ws : List V), us.length = ls.length ∧ (∀ (i : Nat) (v : Value), us[i]? = some v → v = Value.ref (adr i)) ∧ (∀ j, j < us.length → ∃ cj, s.heap.get? (adr j) = some (lsO (val j) cj)) ∧ (∀ k, k = us.length → Vals ws (joinV val 0 k).toList) ∧ RepL X.prog X.w X.K H O ls.flatten ws
  | [], vs, us, pins, σ, s, I, h, r => by
    cases h
    cases r
    exact ⟨fun _ => 0, fun _ => #[], [], rfl, fun i v e => by simp at e, fun j hj => absurd hj (Nat.not_lt_zero _), fun k e => by subst e; exact .nil, rfl⟩
  | l :: ls, vs, us, pins, σ, s, I, h, r => by
    obtain ⟨v, vs', rfl, ⟨a, xs, rfl, _, ha, hx⟩, h2⟩ := h
    cases r with
    | cons q1 q2 =>
      cases q1
      rename_i us'
      obtain ⟨adr, val, ws, e0, e1, e2, e3, e4⟩ := join_rep I h2 q2
      obtain ⟨z, its, n, rx, hl, e⟩ := I.lstM ha
      refine ⟨fun i => match i with | 0 => a | i + 1 => adr i, fun i => match i with | 0 => its.toArray | i + 1 => val i, xs ++ ws, by rw [List.length_cons, List.length_cons, e0], fun i v q => ?_, fun j hj => ?_, fun k ek => ?_, ?_⟩
      · cases i with
        | zero => simp at q; exact q.symm
        | succ i => exact e1 i v (by simpa using q)
      · cases j with
        | zero => exact ⟨n, e⟩
        | succ j => exact e2 j (by simpa using hj)
      · rw [List.length_cons] at ek
        subst ek
        have shift : ∀ (k i : Nat), joinV (fun i => match i with | 0 => its.toArray | i + 1 => val i) (i + 1) k = joinV val i k := by
          intro k
          induction k with
          | zero => intro i; rfl
          | succ k ih => intro i; show val i ++ joinV _ (i + 1 + 1) k = val i ++ joinV val (i + 1) k; rw [ih]
        show Vals (xs ++ ws) (its.toArray ++ joinV _ (0 + 1) us'.length).toList
        rw [shift, Array.toList_append]
        exact Vals.append rx (e3 _ rfl)
      · rw [List.flatten_cons]
        exact hx.append e4
/-- sum(x, []) -/
theorem e_sumL {a : Expr} {ca : Ex} {p p2 pos : Pos} (hc : X.calm = true) (hg : Gl X "sum") (hm : X.mg "sum" = none) (ha : HB X a ca) (ns : starEach [a, .List [] p2] X.env = (false, eval a X.env) :: starEach [.List [] p2] X.env) (ns2 : starEach [Expr.List [] p2] X.env = (false, eval (Expr.List [] p2) X.env) :: starEach [] X.env)
    (hpl : (backTo pos (starEach [Expr.List [] p2] X.env)).any (·.1) = false) : HE X (.Call (.Name "sum" p) [a, .List [] p2] [] pos) (eUn pSumL ca) := by
  have k := pe_callB (X := X) (p := p) (pos := pos) (id := "sum") (x := ("sum" : Str)) (r := fun vs H Q => ∃ (O : Addr → Prop) (d : D) (v : V) (z : Addr), vs = [v, .ref z] ∧ Dom H O ∧ ¬ O z ∧ H z = some (.lst []) ∧ RepB X.prog X.w X.K H O d v ∧ (pSumL d).post (fun d => ∀ v H', Same H H' → Rep X.prog X.w X.K H' O d v → Q v H') noE) (fun pins s σ H xs us Q I r h => ?_) hg hm PyProof.Rows.boot_sum
    (pa_cons ha (pa_cons (pe_lst (pos := p2) pa_nil) pa_nil ns2) ns) (by decide) (by decide) ns hpl
  · refine k.imp fun σ H Q ⟨O, env, h1, h2, h3⟩ => ?_
    unfold eUn at h3
    rw [post_bind] at h3
    refine ⟨O, env, h1, h2, post_mono h3 (fun d q v H1 s1 r1 => ?_) fun _ _ z => z⟩
    refine ⟨Nat.zero_le _, fun z hz => ?_⟩
    have s2 : Same H1 (upd H1 z (.lst [])) := same_new hz
    exact ⟨O, d, v, z, rfl, (h1.same s1).same s2, (h1.same s1).not hz, upd_same, r1.same s2, post_mono q (fun d' q v' H' s' r' => q v' H' ((s1.trans s2).trans s') r') fun _ _ z => z⟩
  · obtain ⟨O, d, v, z, rfl, hD, hO, hz, hd, h⟩ := h
    obtain ⟨u, u2, rfl, r1, r2⟩ := Vals.two r
    cases r2
    cases d with
    | lst l =>
      unfold pSumL at h
      cases e : lstsOf l with
      | none => simp only [e] at h; exact h.elim
      | some ls =>
        simp only [e, post_ck] at h
        obtain ⟨hlim, h⟩ := h
        have el := lsts_of e
        subst el
        obtain ⟨b, vs, rfl, hb, hr⟩ := hd
        cases r1
        obtain ⟨its, rv, pl, _⟩ := I.list (SqL.of hb)
        obtain ⟨adr, val, ws, e0, e1, e2, e3, e4⟩ := join_rep I hr rv
        obtain ⟨_, zi, zn, zr, _, ze⟩ := I.lstM hz
        cases zr
        have hv3 := e3 _ rfl
        have hsz : (joinV val 0 its.length).size = ls.flatten.length := by
          rw [← Array.length_toList, ← hv3.length, e4.length]
        refine call_sum_lists (adr := adr) (val := val) (I.ok.hd hc) pl.isList ze (fun i v e => e1 i v (by simpa using e)) (fun j hj => e2 j (by simpa using hj)) (by have ez : its.toArray.size = its.length := List.size_toArray; rw [ez, hsz]; exact lim_size hlim) fun s' q cq kp hg' ho' hq hw => ?_
        have ez : its.toArray.size = its.length := List.size_toArray
        rw [ez] at hq
        rcases hw with e | hn
        · subst e
          have zz := kp _ _ ze
          rw [zz] at hq
          have eA : joinV val 0 its.length = #[] := by
            injection hq with hq
            injection hq with _ _ hq _
            injection hq with hq _
            exact hq.symm
          have hws : ws = [] := by
            rw [eA] at hv3
            exact List.length_eq_zero_iff.mp hv3.length
          rw [hws] at e4
          have I' : Inv X pins σ H s' := I.call' (ch := []) ho' (Un.kept kp) (I.hok.kept kp) (by rw [hg']; exact I.bare) (fun _ z => nomatch z)
          exact ⟨.ref q, H, I', rfl, h _ H (Same.refl H) ⟨q, [], rfl, hO, hz, e4⟩⟩
        · have hn' : H q = none := HOk.gone I.hok hn
          have I' : Inv X pins σ (upd H q (.lst ws)) s' := I.call' (ch := []) ho' (Un.laidN kp hn hn') (I.hok.laidN kp hn' ⟨by rw [e4.length]; exact lim_size hlim, (joinV val 0 its.length).toList, cq, hv3, by simpa using hq⟩) (by rw [hg']; exact I.bare) (fun _ z => nomatch z)
          exact ⟨.ref q, _, I', rfl, h _ _ (same_new hn') (rep_lst hD hn' e4)⟩
    | _ => exact h.elim
end
end PV
/-! the shared thing is made; the law's head -/
namespace PV
open PySem PySem.Spec PyProof.Rows L2
section
variable {X : Cx} {H : Hp} {O : Addr → Prop}
theorem isDraws_of : ∀ {l : List D}, (l.all (fun x => match x with | .int i => decide (0 ≤ i ∧ i < 997) | _ => false)) = true → ∃ ns : List Int, l = ns.map D.int ∧ ∀ n ∈ ns, isDraw n
  | [], _ => ⟨[], rfl, by simp⟩
  | x :: r, h => by
    rw [List.all_cons, Bool.and_eq_true] at h
    obtain ⟨ns, rfl, hn⟩ := isDraws_of h.2
    cases x with
    | int i =>
      refine ⟨i :: ns, rfl, fun n hm => ?_⟩
      rcases List.mem_cons.mp hm with rfl | hm
      · exact (of_decide_eq_true h.1 : 0 ≤ n ∧ n < 997)
      · exact hn n hm
    | _ => exact absurd h.1 (by simp)
theorem merge_w {l : Addr} : L2.mergeK [] [(Sum.inr kDraws, V.ref l), (Sum.inr kAt, V.int 0)] = wKv l 0 := by
  have nd : ¬ ((Sum.inr kDraws : Key) = Sum.inr kAt) := by decide
  unfold L2.mergeK wKv
  simp [L2.putK, nd]
/-- {'draws': e, 'at': 0} -/
theorem e_mkw {e : Expr} {c : Ex} {j1 j2 j3 : Nat} {p1 p2 p3 pos : Pos} (he : HE X e c) : HE X (.Dict [some (.Constant (.str kDraws) j1 p1), some (.Constant (.str kAt) j2 p2)] [e, .Constant (.int 0) j3 p3] pos) (eMkw c) := by
  have k := pe_disp (X := X) (pos := pos) (pps_cons (pe_str (x := kDraws) (j := j1) (pos := p1)) he (pps_cons (pe_str (x := kAt) (j := j2) (pos := p2)) (pe_int (i := 0) (j := j3) (pos := p3)) pps_nil)) rfl rfl (by simp) (by show 2 ≤ 15; omega)
  refine ⟨fun pins s σ H Q I h => ?_⟩
  obtain ⟨O, env, h1, h2, h3⟩ := h
  unfold eMkw at h3
  rw [post_bind] at h3
  refine thn (k.run pins s σ H (fun v H' => ∃ p l, v = .ref p ∧ H' p = some (.dK (wKv l 0)) ∧ Q v (upd H' p (wO X.prog X.w p l))) I fun p hp => ?_) fun u s1 ⟨v, H', I', r, p, l, e, ep, q⟩ => ?_
  · have s0 : Same H (upd H p (.dK [])) := same_new hp
    refine ⟨O, env, h1.same s0, h2.same s0, post_mono h3 (fun d z y H2 s2 r => ?_) fun _ _ z => z⟩
    cases d with
    | lst l =>
      simp only [post_ck] at z
      obtain ⟨hall, z⟩ := z
      obtain ⟨ns, rfl, hn⟩ := isDraws_of hall
      obtain ⟨a, vs, rfl, na, ea, hr⟩ := r
      have ev := ints_rep (ns := ns) (by
        clear hr hall hn
        induction ns with
        | nil => rfl
        | cons x r ih => rw [List.map_cons, intsOf, ih]; rfl) hr
      subst ev
      have ep : H2 p = some (.dK []) := s2 _ _ upd_same
      have nap : a ≠ p := fun e => by
        rw [e, ep] at ea
        cases ea
      refine ⟨ep, [(Sum.inr kDraws, .ref a), (Sum.inr kAt, .int 0)], rfl, by show 2 ≤ 15; omega, p, a, rfl, ?_, ?_⟩
      · rw [merge_w, upd_same]
      · rw [upd_upd]
        have nOp : ¬ O p := h1.not hp
        refine z (.ref p) _ (fun b x q => ?_) ⟨p, a, ns, rfl, nOp, na, upd_same, ?_, hn⟩
        · have nb : b ≠ p := ne_of_none q hp
          rw [upd_ne nb]
          exact s2 _ _ (s0 _ _ q)
        · rw [upd_ne nap]
          exact ea
    | _ => exact z.elim
  · subst e
    exact ⟨.ref p, _, w_close (Int.le_refl _) I' ep, r, q⟩
end
end PV
/-! short forms for the printed proofs -/
namespace PV
open PySem PySem.Spec PyProof.Rows L2
def visC (sc : Scope) (x : Str) : Bool := match sc.names.lookup x with
  | some .local => true
  | some .cell => true
  | some .free => true
  | _ => false
theorem visC_ok {sc : Scope} {x : Str} (h : visC sc x = true) : Vis sc x := by
  unfold visC at h
  split at h
  · exact .inl (by assumption)
  · exact .inr (.inl (by assumption))
  · exact .inr (.inr (by assumption))
  · cases h
def locC (sc : Scope) (x : Str) : Bool := match sc.names.lookup x with
  | some .local => true
  | some .cell => true
  | _ => false
theorem locC_ok {sc : Scope} {x : Str} (h : locC sc x = true) : Loc sc x := by
  unfold locC at h
  split at h
  · exact .inl (by assumption)
  · exact .inr (by assumption)
  · cases h
/-- a name at its place, seen -/
def nmC (N : List Str) (sc : Scope) (i : Nat) (x : Str) : Bool := decide (N[i]? = some x) && visC sc x && !(x == ("__debug__" : Str)) && !(x == ("__classdict__" : Str))
theorem nmC_ok {N : List Str} {sc : Scope} {i : Nat} {x : Str} (h : nmC N sc i x = true) : N[i]? = some x ∧ Vis sc x ∧ (x == ("__debug__" : Str)) = false ∧ (x == ("__classdict__" : Str)) = false := by
  unfold nmC at h
  simp only [Bool.and_eq_true, decide_eq_true_eq, Bool.not_eq_true'] at h
  exact ⟨h.1.1.1, visC_ok h.1.1.2, h.1.2, h.2⟩
section
variable {X : Cx}
theorem e_v {i : Nat} {x : Str} {pos : Pos} (h : nmC X.N X.env.scope i x = true) : HE X (.Name x pos) (eVar i) := let ⟨a, b, c, d⟩ := nmC_ok h; e_var a b c d
theorem e_vB {i : Nat} {x : Str} {pos : Pos} (h : nmC X.N X.env.scope i x = true) : HB X (.Name x pos) (eVarB i) := let ⟨a, b, c, d⟩ := nmC_ok h; e_varB a b c d
/-- a def that may be called -/
def Cal (P : Program) (w : World) (K : PySem.W.Frag) (mg : Str → Option Value) (base : Heap) (k : Nat) (x : Str) (n : Nat) (F : List D → M D) : Prop :=
  ∃ (f : Addr) (fd : FuncData) (ps : List Str), FnOk P w K mg base CX0 k f fd ps (spF P w K ps.length F) ∧ mg x = some (.ref f) ∧ PySem.W.keepIn K (.ref f) = true ∧ Binds K fd ps [] ∧ ps.length = n
theorem e_cal {k : Nat} {n : Nat} {F : List D → M D} {x : Str} {p pos : Pos} {e : Expr} {es : List Expr} {cs : List Ex} (C : Cal X.prog X.w X.K X.mg X.base k x n F) (hr : Room k X.A) (hg : Gl X x) (ha : HA X (e :: es) cs) (hl : cs.length = n) (hdb : (x == ("__debug__" : Str)) = false)
    (he : starEach (e :: es) X.env = (false, eval e X.env) :: starEach es X.env) (hpl : (backTo pos (starEach es X.env)).any (·.1) = false) : HE X (.Call (.Name x p) (e :: es) [] pos) (eCall F cs) := by
  obtain ⟨f, fd, ps, G, hm, hk, hb, hn⟩ := C
  exact e_call G hr hg hm hk hb ha (hl.trans hn.symm) hdb he hpl
theorem cal_of {P : Program} {w : World} {K : PySem.W.Frag} {mg : Str → Option Value} {base : Heap} {x qual : Str} {params : Arguments} {body : List Stmt} {scope : Scope} {f : Addr} {fd : FuncData} {ps : List Str} {k n : Nat} {F : List D → M D} (D0 : FunD K x qual params body scope [] [] f fd)
    (G : FnOk P w K mg base CX0 k f fd ps (spF P w K ps.length F)) (hm : mg x = some (.ref f)) (hn : ps.length = n) (hb : ∀ (kV doc pm : Value) (an : Option Addr) (cdv ct : Value) (us : List Value), us.length = ps.length → bindArgs (PySem.W.fnOf x qual params body scope .none kV doc pm an cdv ct) ⟨us, []⟩ = pure (ps.zip us)) : Cal P w K mg base k x n F :=
  ⟨f, fd, ps, G, hm, D0.kp, D0.bindsN hb, hn⟩
end
end PV
namespace PV
open PySem PySem.Spec PyProof.Rows L2
section
variable {X : Cx}
/-- the last of a chain of and, or -/
theorem e_bo1 {a : Expr} {c : Ex} {o : BoolOp} {pos : Pos} (h : HE X a c) : HE X (.BoolOp o [a] pos) c := pe_one h
theorem w_bo1 {a : Expr} {c : Ex} {o : BoolOp} {pos : Pos} (h : HT X a c) : HW X (.BoolOp o [a] pos) c := by
  cases o with
  | And => exact pw_and1 h
  | Or => exact pw_or1 h
/-! ### new things -/
theorem f_lst {es : List Expr} {cs : List Ex} {pos : Pos} (h : HA X es cs) (hl : cs.length ≤ LIM) : HF X (.List es pos) (eLst cs) :=
  (pe_lst h).imp fun σ H Q ⟨O, env, h1, h2, h3⟩ => by
    unfold eLst at h3
    rw [post_bind] at h3
    refine ⟨O, env, h1, h2, post_mono (all_len _ _ h3) (fun ds h4 vs H1 s1 r1 => ⟨lim_size (by rw [r1.length, h4.1]; exact hl), fun p hp => ?_⟩) fun _ _ z => z⟩
    exact h4.2 _ _ (s1.trans (same_new hp)) ((repF_lst hp r1).back s1)
theorem f_ite {c a b : Expr} {cc ca cb : Ex} {pos : Pos} (hc : HT X c cc) (ha : HF X a ca) (hb : HF X b cb) : HF X (.IfExp c a b pos) (eIte cc ca cb) :=
  (pe_ifExp hc ha hb).imp fun σ H Q ⟨O, env, h1, h2, h3⟩ => by
    unfold eIte at h3
    rw [← bind_asc, post_bind] at h3
    refine ⟨O, env, h1, h2, post_mono h3 (fun k q H' s => ?_) fun _ _ z => z⟩
    cases k with
    | true => exact ⟨O, env, h1.same s, h2.same s, post_mono q (fun d q v H2 s2 r => q v H2 (s.trans s2) (r.back s)) fun _ _ z => z⟩
    | false => exact ⟨O, env, h1.same s, h2.same s, post_mono q (fun d q v H2 s2 r => q v H2 (s.trans s2) (r.back s)) fun _ _ z => z⟩
/-- a def that keeps its word may be called -/
theorem cal_fn {P : Program} {w : World} {K : PySem.W.Frag} {mg : Str → Option Value} {base : Heap} {x : Str} {params : Arguments} {body : List Stmt} {scope : Scope} {f : Addr} {fd : FuncData} (N ps : List Str) (k m n : Nat) (F : List D → M D) (c : St) (hF : F = run m c)
    (D0 : FunD K x x params body scope [] [] f fd) (S : FnScope N ps scope) (hm : N.length = m) (hn : ps.length = n) (gF : mg x = some (.ref f))
    (hb : ∀ (kV doc pm : Value) (an : Option Addr) (cdv ct : Value) (us : List Value), us.length = ps.length → bindArgs (PySem.W.fnOf x x params body scope .none kV doc pm an cdv ct) ⟨us, []⟩ = pure (ps.zip us))
    (h : ∀ (cdv : Value) (A : Around) (outer : List PySem.Env) (s : Shared) (H : Hp) (E : XK), Room k (A.deeper (envOfC x scope s.heap.objs.size f cdv)) → HSs (cxOf CX0 P w K mg base N x scope f cdv A outer s H E).nox body c) : Cal P w K mg base (k + 1) x n F := by
  subst hF hm hn
  exact cal_of D0 (fn_ok D0 S h) gF rfl hb
end
/-- the same of one def alone -/
theorem fn_fn {P : Program} {w : World} {K : PySem.W.Frag} {mg : Str → Option Value} {base : Heap} {x : Str} {params : Arguments} {body : List Stmt} {scope : Scope} {f : Addr} {fd : FuncData} (N ps : List Str) (k m n : Nat) (F : List D → M D) (c : St) (hF : F = run m c)
    (D0 : FunD K x x params body scope [] [] f fd) (S : FnScope N ps scope) (hm : N.length = m) (hn : ps.length = n)
    (h : ∀ (cdv : Value) (A : Around) (outer : List PySem.Env) (s : Shared) (H : Hp) (E : XK), Room k (A.deeper (envOfC x scope s.heap.objs.size f cdv)) → HSs (cxOf CX0 P w K mg base N x scope f cdv A outer s H E).nox body c) : FnOk P w K mg base CX0 (k + 1) f fd ps (spF P w K n F) := by
  subst hF hm hn
  exact fn_ok D0 S h
/-- the law's word for the head -/
theorem safe_at {P : Program} {w : World} {K : PySem.W.Frag} {F : List D → M D} {ns : List Int} {H : Hp} {a : Addr} (h : Safe (F [.scr ns])) (ho : Only H) (hS : SqL K H a (ns.map V.int)) : spF P w K 1 F [.ref a] H (fun v _ => v = .bl true) fun _ _ _ => False := by
  refine ⟨fun _ => False, [.scr ns], fun _ z => z.elim, ⟨.ref a, [], rfl, ⟨a, rfl, ScrAt.of ho hS⟩, rfl⟩, rfl, post_mono h.ok (fun d e v H' _ r => ?_) fun _ _ z => z⟩
  subst e
  exact r
end PV
/-! plain facts of loops, comprehensions, draws -/
namespace PV
theorem ck_pos {α : Type} {c : Prop} [Decidable c] {m : M α} (h : c) : ck c m = m := if_pos h
theorem post_ret {α : Type} {P : α → Prop} {E : PySem.Str → D → Prop} {a : α} : (M.ret a).post P E ↔ P a := Iff.rfl
theorem flat_one_map {α β : Type} (f : α → β) : ∀ xs : List α, xs.flatMap (fun x => [f x]) = xs.map f
  | [] => rfl
  | x :: r => by rw [List.flatMap_cons, List.map_cons, flat_one_map f r]; rfl
/-! ### comprehensions -/
theorem fold_app {body : D → List D → M (List D)} (f : D → List D) : ∀ (xs : List D) (acc : List D), (∀ x ∈ xs, ∀ acc : List D, acc.length + (f x).length ≤ LIM → body x acc = .ret (acc ++ f x)) → acc.length + (xs.flatMap f).length ≤ LIM → fold body xs acc = .ret (acc ++ xs.flatMap f)
  | [], acc, _, _ => by simp [fold]
  | x :: xs, acc, h, hl => by
    rw [List.flatMap_cons, List.length_append] at hl
    unfold fold
    rw [h x List.mem_cons_self acc (by omega), ret_bind, fold_app f xs (acc ++ f x) (fun y hy => h y (List.mem_cons_of_mem _ hy)) (by rw [List.length_append]; omega), List.flatMap_cons, List.append_assoc]
/-- one clause -/
theorem lc_one {elt : Ex} {g : Gen} {env : Env} {xs : List D} (f : D → List D) (hi : g.it env = .ret xs) (hl : (xs.flatMap f).length ≤ LIM)
    (h : ∀ x ∈ xs, ∃ env', g.tgt x (wipeE env g.own) = .ret env' ∧ ((tests g.ifs env' = .ret true ∧ ∃ y, elt env' = .ret y ∧ f x = [y]) ∨ (tests g.ifs env' = .ret false ∧ f x = []))) : eLc elt [g] env = .ret (.lst (xs.flatMap f)) := by
  unfold eLc comp
  rw [hi, ret_bind, fold_app f xs [] (fun x hx acc hacc => ?_) (by simpa using hl), ret_bind, List.nil_append]
  obtain ⟨env', e1, e2⟩ := h x hx
  rw [e1, ret_bind]
  rcases e2 with ⟨e2, y, e3, e4⟩ | ⟨e2, e4⟩
  · rw [e2, ret_bind, if_pos rfl]
    unfold comp
    rw [e4] at hacc
    rw [e3, ret_bind, e4, ck_pos (Nat.lt_of_succ_le (by simpa using hacc))]
  · rw [e2, ret_bind, if_neg (by decide), e4, List.append_nil]
/-- .. without tests: a map -/
theorem lc_map {elt : Ex} {g : Gen} {env : Env} {xs : List D} (f : D → D) (hi : g.it env = .ret xs) (hn : g.ifs = []) (hl : xs.length ≤ LIM) (h : ∀ x ∈ xs, (g.tgt x (wipeE env g.own) >>= elt) = .ret (f x)) : eLc elt [g] env = .ret (.lst (xs.map f)) := by
  have e : xs.flatMap (fun x => [f x]) = xs.map f := flat_one_map f xs
  unfold eLc comp
  rw [hi, ret_bind, fold_app (fun x => [f x]) xs [] (fun x hx acc hacc => ?_) (by rw [e]; simpa using hl), ret_bind, List.nil_append, e]
  have hx := h x hx
  rw [hn]
  cases q : g.tgt x (wipeE env g.own) with
  | ret env' =>
    rw [q, ret_bind] at hx
    rw [ret_bind]
    unfold tests
    rw [ret_bind, if_pos rfl]
    unfold comp
    rw [hx, ret_bind, ck_pos (Nat.lt_of_succ_le (by simpa using hacc))]
  | exc c v => rw [q] at hx; cases hx
  | bad => rw [q] at hx; cases hx
  | draw n k => rw [q] at hx; cases hx
/-- two clauses, no tests -/
theorem lc_two {elt : Ex} {g g1 : Gen} {env : Env} {xs : List D} (f : D → List D) (hi : g.it env = .ret xs) (hn : g.ifs = []) (hn1 : g1.ifs = []) (hl : (xs.flatMap f).length ≤ LIM)
    (h : ∀ x ∈ xs, ∃ env' ys φ, g.tgt x (wipeE env g.own) = .ret env' ∧ g1.it env' = .ret ys ∧ f x = ys.map φ ∧ ∀ y ∈ ys, (g1.tgt y (wipeE env' g1.own) >>= elt) = .ret (φ y)) : eLc elt [g, g1] env = .ret (.lst (xs.flatMap f)) := by
  unfold eLc comp
  rw [hi, ret_bind, fold_app f xs [] (fun x hx acc hacc => ?_) (by simpa using hl), ret_bind, List.nil_append]
  obtain ⟨env', ys, φ, e1, e2, e3, e4⟩ := h x hx
  rw [e1, ret_bind, hn]
  unfold tests
  rw [ret_bind, if_pos rfl]
  unfold comp
  have e : ys.flatMap (fun x => [φ x]) = ys.map φ := flat_one_map φ ys
  rw [e2, ret_bind, fold_app (fun x => [φ x]) ys acc (fun y hy ac hac => ?_) (by rw [e, ← e3]; exact hacc), e, e3]
  have hy := e4 y hy
  rw [hn1]
  cases q : g1.tgt y (wipeE env' g1.own) with
  | ret env2 =>
    rw [q, ret_bind] at hy
    rw [ret_bind]
    unfold tests
    rw [ret_bind, if_pos rfl]
    unfold comp
    rw [hy, ret_bind, ck_pos (Nat.lt_of_succ_le (by simpa using hac))]
  | exc c v => rw [q] at hy; cases hy
  | bad => rw [q] at hy; cases hy
  | draw n k => rw [q] at hy; cases hy
/-- with draws: each item is of Q -/
theorem lc_post {elt : Ex} {g : Gen} {env : Env} {xs : List D} (Q : D → Prop) (hi : g.it env = .ret xs) (hn : g.ifs = []) (hl : xs.length ≤ LIM) (h : ∀ x ∈ xs, (g.tgt x (wipeE env g.own) >>= elt).post Q noE) {R : D → Prop} (hR : ∀ l : List D, l.length = xs.length → (∀ y ∈ l, Q y) → R (.lst l)) : (eLc elt [g] env).post R noE := by
  obtain ⟨own, tgt, it, ifs⟩ := g
  cases hn
  have hb : (fun x acc => tgt x (wipeE env own) >>= fun env' => tests [] env' >>= fun k => if k = true then comp elt [] env' acc else .ret acc) = (fun (x : D) (acc : List D) => tgt x (wipeE env own) >>= fun env' => elt env' >>= fun y => ck (acc.length < LIM) (.ret (acc ++ [y]))) := rfl
  have key : ∀ (ys acc : List D), (∀ x ∈ ys, (tgt x (wipeE env own) >>= elt).post Q noE) → acc.length + ys.length ≤ LIM → (∀ y ∈ acc, Q y) →
      (fold (fun x acc => tgt x (wipeE env own) >>= fun env' => elt env' >>= fun y => ck (acc.length < LIM) (.ret (acc ++ [y]))) ys acc).post (fun l => l.length = acc.length + ys.length ∧ ∀ y ∈ l, Q y) noE := by
    intro ys
    induction ys with
    | nil => intro acc _ _ ha; exact ⟨rfl, ha⟩
    | cons y ys ih =>
      intro acc hy hl ha
      rw [List.length_cons] at hl
      unfold fold
      rw [post_bind]
      have h1 := hy y List.mem_cons_self
      rw [post_bind] at h1 ⊢
      refine post_mono h1 (fun env' h1 => ?_) fun _ _ z => z
      rw [post_bind]
      refine post_mono h1 (fun d hd => ?_) fun _ _ z => z
      rw [ck_pos (by omega), post_ret]
      refine post_mono (P := fun l => l.length = (acc ++ [d]).length + ys.length ∧ ∀ y ∈ l, Q y) (ih (acc ++ [d]) (fun x hx => hy x (List.mem_cons_of_mem _ hx)) (by rw [List.length_append, List.length_singleton]; omega) (fun z hz => ?_)) (fun l hl => ⟨?_, hl.2⟩) fun _ _ z => z
      · rcases List.mem_append.mp hz with hz | hz
        · exact ha z hz
        · rw [List.mem_singleton.mp hz]; exact hd
      · rw [hl.1, List.length_append, List.length_singleton, List.length_cons]; omega
  unfold eLc comp
  rw [hi, ret_bind, post_bind, hb]
  exact post_mono (key xs [] h (by simpa using hl) (by simp)) (fun l hl => hR l (by simpa using hl.1) hl.2) fun _ _ z => z
/-! ### for -/
theorem for_post {t : Tgt} {body : St} {P : Out → Prop} (I : Nat → Env → Prop) : ∀ (xs : List D) (i0 : Nat) (env : Env), I i0 env → (∀ i x env, xs[i]? = some x → I (i0 + i) env → (t x env >>= body).post (fun o => ∃ e, o = .nx e ∧ I (i0 + i + 1) e) noE) → (∀ env, I (i0 + xs.length) env → P (.nx env)) → (forGo t body xs env).post P noE
  | [], i0, env, h0, _, hd => hd env h0
  | x :: xs, i0, env, h0, hs, hd => by
    unfold forGo
    have h1 := hs 0 x env rfl h0
    rw [post_bind] at h1 ⊢
    refine post_mono h1 (fun env' h1 => ?_) fun _ _ z => z
    rw [post_bind]
    refine post_mono h1 (fun o ⟨e, ho, he⟩ => ?_) fun _ _ z => z
    subst ho
    refine for_post I xs (i0 + 1) e (by simpa using he) (fun i y env hy hi => ?_) (fun env he => hd env ?_)
    · have e1 : i0 + 1 + i = i0 + (i + 1) := by omega
      rw [e1] at hi ⊢
      exact hs (i + 1) y env (by simpa using hy) hi
    · rw [List.length_cons]
      have e1 : i0 + (xs.length + 1) = i0 + 1 + xs.length := by omega
      rw [e1]
      exact he
/-- a loop that only goes on -/
theorem for_det {α : Type} {t : Tgt} {body : St} (R : α → Env → Prop) (step : α → D → α) : ∀ (xs : List D) (a : α) (env : Env), R a env → (∀ a x env, x ∈ xs → R a env → ∃ e, (t x env >>= body) = .ret (.nx e) ∧ R (step a x) e) → ∃ e, forGo t body xs env = .ret (.nx e) ∧ R (xs.foldl step a) e
  | [], a, env, h0, _ => ⟨env, rfl, h0⟩
  | x :: xs, a, env, h0, hs => by
    obtain ⟨e, h1, h2⟩ := hs a x env List.mem_cons_self h0
    obtain ⟨e', h3, h4⟩ := for_det R step xs (step a x) e h2 fun a y env hy => hs a y env (List.mem_cons_of_mem _ hy)
    refine ⟨e', ?_, h4⟩
    unfold forGo
    cases q : t x env with
    | ret env' =>
      rw [q, ret_bind] at h1
      rw [ret_bind, h1, ret_bind]
      exact h3
    | exc c v => rw [q] at h1; cases h1
    | bad => rw [q] at h1; cases h1
    | draw n k => rw [q] at h1; cases h1
/-! ### small steps -/
theorem rng_mem {lo : Int} {n : Nat} {x : D} (h : x ∈ rng lo n 1) : ∃ k : Nat, k < n ∧ x = .int (lo + k) := by
  unfold rng at h
  obtain ⟨k, hk, rfl⟩ := List.mem_map.mp h
  exact ⟨k, List.mem_range.mp hk, by rw [Int.mul_one]; rfl⟩
theorem rng_at {lo : Int} {n : Nat} {i : Nat} {x : D} (h : (rng lo n 1)[i]? = some x) : i < n ∧ x = .int (lo + i) := by
  unfold rng at h
  rw [List.getElem?_map] at h
  cases e : (List.range n)[i]? with
  | none => rw [e] at h; cases h
  | some k =>
    rw [e] at h
    cases h
    obtain ⟨h1, h2⟩ := List.getElem?_eq_some_iff.mp e
    rw [List.length_range] at h1
    rw [List.getElem_range] at h2
    subst h2
    exact ⟨h1, by show D.int (lo + Int.ofNat i * 1) = _; rw [Int.mul_one]; rfl⟩
theorem length_rng {lo : Int} {n : Nat} {c : Int} : (rng lo n c).length = n := by
  unfold rng
  rw [List.length_map, List.length_range]
theorem blk_nx {a b : St} {r : List St} {env e : Env} (h : a env = .ret (.nx e)) : sBlk (a :: b :: r) env = sBlk (b :: r) e := by
  show sSeq a (sBlk (b :: r)) env = _
  unfold sSeq
  rw [h, ret_bind]
theorem blk_rt {a b : St} {r : List St} {env : Env} {d : D} (h : a env = .ret (.rt d)) : sBlk (a :: b :: r) env = .ret (.rt d) := by
  show sSeq a (sBlk (b :: r)) env = _
  unfold sSeq
  rw [h, ret_bind]
theorem blk_post {a b : St} {r : List St} {env : Env} {P : Out → Prop} {E : PySem.Str → D → Prop} (h : (a env).post (fun o => ∃ e, o = .nx e ∧ (sBlk (b :: r) e).post P E) E) : (sBlk (a :: b :: r) env).post P E := by
  show (sSeq a (sBlk (b :: r)) env).post P E
  unfold sSeq
  rw [post_bind]
  refine post_mono h (fun o ⟨e, ho, h⟩ => ?_) fun _ _ z => z
  subst ho
  exact h
theorem getI_nat {α : Type} {l : List α} {i : Nat} : getI l (i : Int) = l[i]? := by
  unfold getI ixN
  have h0 : (0 : Int) ≤ (i : Nat) := Int.natCast_nonneg i
  rw [if_pos h0]
  by_cases h : i < l.length
  · have h1 : ((i : Nat) : Int) < (l.length : Nat) := by omega
    rw [if_pos h1]
    simp
  · have h1 : ¬ ((i : Nat) : Int) < (l.length : Nat) := by omega
    rw [if_neg h1, List.getElem?_eq_none (by omega)]
    rfl
def outP (P : D → Prop) : Out → Prop
  | .nx _ => P .non
  | .rt d => P d
  | .bk _ => False
theorem run_post {n : Nat} {body : St} {args : List D} {env : Env} {P : D → Prop} (he : args.map (fun d => some (false, d)) ++ List.replicate (n - args.length) none = env) (h : (body env).post (outP P) noE) : (run n body args).post P noE := by
  unfold run
  rw [he, post_bind]
  refine post_mono h (fun o h => ?_) fun _ _ z => z
  cases o with
  | nx e => exact h
  | rt d => exact h
  | bk e => exact h.elim
theorem run_ret {n : Nat} {body : St} {args : List D} {env : Env} {d : D} (he : args.map (fun d => some (false, d)) ++ List.replicate (n - args.length) none = env) (h : body env = .ret (.rt d)) : run n body args = .ret d := by
  unfold run
  rw [he, h, ret_bind]
/-- the same, closed -/
structure Post {α : Type} (m : M α) (P : α → Prop) : Prop where
  ok : m.post P noE
section
variable {α β : Type} {P Q : α → Prop}
theorem Post.ret {a : α} (h : P a) : Post (.ret a) P := ⟨h⟩
theorem Post.eq {m : M α} {a : α} (e : m = .ret a) (h : P a) : Post m P := by rw [e]; exact ⟨h⟩
theorem Post.bind {m : M α} {f : α → M β} {R : β → Prop} (h : Post m fun a => Post (f a) R) : Post (m >>= f) R := ⟨by
  rw [post_bind]
  exact post_mono h.ok (fun a h => h.ok) fun _ _ z => z⟩
theorem Post.mono {m : M α} (h : Post m P) (k : ∀ a, P a → Q a) : Post m Q := ⟨post_mono h.ok k fun _ _ z => z⟩
theorem Post.draw {n : Int} {k : Int → M α} (h0 : 0 < n) (h : ∀ i, 0 ≤ i → i < n → Post (k i) P) : Post (.draw n k) P := ⟨⟨h0, fun i h1 h2 => (h i h1 h2).ok⟩⟩
theorem Post.run {n : Nat} {body : St} {args : List D} {env : Env} {P : D → Prop} (he : args.map (fun d => some (false, d)) ++ List.replicate (n - args.length) none = env) (h : Post (body env) (outP P)) : Post (run n body args) P := ⟨run_post he h.ok⟩
theorem Post.blk {a b : St} {r : List St} {env : Env} {P : Out → Prop} (h : Post (a env) fun o => ∃ e, o = .nx e ∧ Post (sBlk (b :: r) e) P) : Post (sBlk (a :: b :: r) env) P := ⟨blk_post (post_mono h.ok (fun o ⟨e, h1, h2⟩ => ⟨e, h1, h2.ok⟩) fun _ _ z => z)⟩
theorem Post.blk1 {a b : St} {r : List St} {env e : Env} {P : Out → Prop} (h1 : a env = .ret (.nx e)) (h : Post (sBlk (b :: r) e) P) : Post (sBlk (a :: b :: r) env) P := by rw [blk_nx h1]; exact h
theorem Post.forGo {t : Tgt} {body : St} {P : Out → Prop} (I : Nat → Env → Prop) (xs : List D) (env : Env) (h0 : I 0 env) (hs : ∀ i x env, xs[i]? = some x → I i env → Post (t x env >>= body) fun o => ∃ e, o = .nx e ∧ I (i + 1) e) (hd : ∀ env, I xs.length env → P (.nx env)) : Post (forGo t body xs env) P :=
  ⟨for_post I xs 0 env h0 (fun i x env hx hi => by rw [Nat.zero_add] at hi ⊢; exact (hs i x env hx hi).ok) fun env he => hd env (by rw [Nat.zero_add] at he; exact he)⟩
theorem Post.for {t : Tgt} {it : Its} {body : St} {P : Out → Prop} {env : Env} {xs : List D} (hi : it env = .ret xs) (I : Nat → Env → Prop) (h0 : I 0 env) (hs : ∀ i x env, xs[i]? = some x → I i env → Post (t x env >>= body) fun o => ∃ e, o = .nx e ∧ I (i + 1) e) (hd : ∀ env, I xs.length env → P (.nx env)) : Post (sFor t it body env) P := by
  unfold sFor
  rw [hi, ret_bind]
  exact Post.forGo I xs env h0 hs hd
theorem Post.lc {elt : Ex} {g : Gen} {env : Env} {xs : List D} (Q : D → Prop) (hi : g.it env = .ret xs) (hn : g.ifs = []) (hl : xs.length ≤ LIM) (h : ∀ x ∈ xs, Post (g.tgt x (wipeE env g.own) >>= elt) Q) {R : D → Prop} (hR : ∀ l : List D, l.length = xs.length → (∀ y ∈ l, Q y) → R (.lst l)) : Post (eLc elt [g] env) R :=
  ⟨lc_post Q hi hn hl (fun x hx => (h x hx).ok) hR⟩
end
/-! ### ranges -/
theorem sml_hi {i : Int} (h : i ≤ 1000000) : i < SML := by
  have h2 : (1000000 : Int) < SML := by decide
  omega
theorem sml_lo {i : Int} (h : -1000000 ≤ i) : -SML ≤ i := by
  have h2 : (1000000 : Int) < SML := by decide
  omega
theorem range1 {n : Nat} (h : n ≤ 1000000) : dRange [.int (n : Nat)] = .ret (rng 0 n 1) := by
  have e : ((n : Nat) : Int).toNat = n := Int.toNat_natCast n
  show ck (-SML ≤ ((n : Nat) : Int) ∧ ((n : Nat) : Int) < SML) (M.ret (rng 0 ((n : Nat) : Int).toNat 1)) = _
  rw [e, ck_pos ⟨sml_lo (by omega), sml_hi (by omega)⟩]
theorem range1' {i : Int} (h0 : 0 ≤ i) (h : i ≤ 1000000) : dRange [.int i] = .ret (rng 0 i.toNat 1) := by
  show ck (-SML ≤ i ∧ i < SML) (M.ret (rng 0 i.toNat 1)) = _
  rw [ck_pos ⟨sml_lo (by omega), sml_hi h⟩]
theorem range2 {i j : Int} (h1 : -1000000 ≤ i) (h2 : i ≤ 1000000) (h3 : -1000000 ≤ j) (h4 : j ≤ 1000000) : dRange [.int i, .int j] = .ret (rng i (j - i).toNat 1) := by
  show ck (-SML ≤ i ∧ i < SML ∧ -SML ≤ j ∧ j < SML) (M.ret (rng i (j - i).toNat 1)) = _
  rw [ck_pos ⟨sml_lo h1, sml_hi h2, sml_lo h3, sml_hi h4⟩]
theorem range3 {i j : Int} (h1 : -1000000 ≤ i) (h2 : i ≤ 1000000) (h3 : -1000000 ≤ j) (h4 : j ≤ 1000000) : dRange [.int i, .int j, .int (-1)] = .ret (rng i (i - j).toNat (-1)) := by
  show ck ((-1 : Int) = -1 ∧ -SML ≤ i ∧ i < SML ∧ -SML ≤ j ∧ j < SML) (M.ret (rng i (i - j).toNat (-1))) = _
  rw [ck_pos ⟨rfl, sml_lo h1, sml_hi h2, sml_lo h3, sml_hi h4⟩]
theorem iRng1 {x : Ex} {env : Env} {d : D} (h : x env = .ret d) : iRng [x] env = dRange [d] := by
  unfold iRng eAll
  rw [h]
  rfl
theorem iRng2 {x y : Ex} {env : Env} {d e : D} (h : x env = .ret d) (k : y env = .ret e) : iRng [x, y] env = dRange [d, e] := by
  unfold iRng eAll eAll
  rw [h, k]
  rfl
theorem iRng3 {x y z : Ex} {env : Env} {d e f : D} (h : x env = .ret d) (k : y env = .ret e) (l : z env = .ret f) : iRng [x, y, z] env = dRange [d, e, f] := by
  unfold iRng eAll eAll eAll
  rw [h, k, l]
  rfl
/-! ### one step at a time -/
theorem bin_ret {o : D → D → M D} {a b : Ex} {env : Env} {x y : D} {r : M D} (h : a env = .ret x) (k : b env = .ret y) (e : o x y = r) : eBin o a b env = r := by
  unfold eBin
  rw [h, ret_bind, k, ret_bind, e]
theorem un_ret {o : D → M D} {a : Ex} {env : Env} {x : D} {r : M D} (h : a env = .ret x) (e : o x = r) : eUn o a env = r := by
  unfold eUn
  rw [h, ret_bind, e]
theorem prim1 {p : List D → M D} {a : Ex} {env : Env} {x : D} {r : M D} (h : a env = .ret x) (e : p [x] = r) : ePrim p [a] env = r := by
  unfold ePrim eAll
  rw [h]
  exact e
theorem call_ret {F : List D → M D} {es : List Ex} {env : Env} {ds : List D} {r : M D} (h : eAll es env = .ret ds) (e : F ds = r) : eCall F es env = r := by
  unfold eCall
  rw [h, ret_bind, e]
theorem all_cons {e : Ex} {es : List Ex} {env : Env} {d : D} {ds : List D} (h : e env = .ret d) (k : eAll es env = .ret ds) : eAll (e :: es) env = .ret (d :: ds) := by
  unfold eAll
  rw [h, ret_bind, k, ret_bind]
theorem tup_ret {es : List Ex} {env : Env} {ds : List D} (h : eAll es env = .ret ds) : eTup es env = .ret (.tup ds) := by
  unfold eTup
  rw [h, ret_bind]
theorem ret1 {e : Ex} {env : Env} {d : D} (h : e env = .ret d) : sBlk [sRet e] env = .ret (.rt d) := by
  show sRet e env = _
  unfold sRet
  rw [h, ret_bind]
theorem set1 {i : Nat} {e : Ex} {env : Env} {d : D} (h : e env = .ret d) : sTgt (tName i) e env = .ret (.nx (env.set i (some (false, d)))) := by
  unfold sTgt tName
  rw [h, ret_bind, ret_bind]
theorem own1 {i : Nat} {e : Ex} {env : Env} {d : D} (h : e env = .ret d) : sOwn i e env = .ret (.nx (env.set i (some (isMut d, d)))) := by
  unfold sOwn
  rw [h, ret_bind]
theorem for1 {t : Tgt} {it : Its} {body : St} {env : Env} {xs : List D} {r : M Out} (h : it env = .ret xs) (e : forGo t body xs env = r) : sFor t it body env = r := by
  unfold sFor
  rw [h, ret_bind, e]
theorem val1 {e : Ex} {env : Env} {d : D} {r : M (List D)} (h : e env = .ret d) (k : dItems d = r) : iVal e env = r := by
  unfold iVal
  rw [h, ret_bind, k]
theorem if_ret {c : Ex} {a b : St} {env : Env} {k : Bool} {r : M Out} (h : c env = .ret (.bl k)) (e : (if k = true then a env else b env) = r) : sIf c a b env = r := by
  unfold sIf
  rw [h, ret_bind]
  exact e
theorem add_lst {a b : List D} (h : a.length + b.length ≤ LIM) : dAdd (.lst a) (.lst b) = .ret (.lst (a ++ b)) := ck_pos h
theorem app_lst {l : List D} {d : D} (h : l.length < LIM) : fAppend (.lst l) d = .ret (.lst (l ++ [d])) := ck_pos h
theorem mul_lst {l : List D} {k : Nat} (hk : k ≤ 1000) (h : l.length * k ≤ LIM) : dMul (.lst l) (.int (k : Nat)) = .ret (D.lst (List.replicate k l).flatten) := by
  have h1 : ((k : Nat) : Int) ≤ 1000000 := by omega
  have e : ((k : Nat) : Int).toNat = k := Int.toNat_natCast k
  show ck (((k : Nat) : Int) ≤ 1000000 ∧ -SML ≤ ((k : Nat) : Int) ∧ l.length * ((k : Nat) : Int).toNat ≤ LIM) (M.ret (D.lst (List.replicate ((k : Nat) : Int).toNat l).flatten)) = _
  rw [e, ck_pos ⟨h1, sml_lo (by omega), h⟩]
theorem mut1 {i : Nat} {f : D → D → M D} {e : Ex} {env : Env} {c d c' : D} (h : e env = .ret d) (k : env[i]? = some (some (true, c))) (hf : f c d = .ret c') : sMut i f e env = .ret (.nx (env.set i (some (true, c')))) := by
  unfold sMut
  rw [h, ret_bind, k]
  show (f c d >>= fun c' => M.ret (Out.nx (env.set i (some (true, c'))))) = _
  rw [hf, ret_bind]
theorem idx_lst {l : List D} {i : Nat} {d : D} (h : l[i]? = some d) : dIdx (.lst l) (.int (i : Nat)) = .ret d := by
  show ofOpt (getI l (i : Nat)) = _
  rw [getI_nat, h]
  rfl
theorem idx_tup {l : List D} {i : Nat} {d : D} (h : l[i]? = some d) : dIdx (.tup l) (.int (i : Nat)) = .ret d := by
  show ofOpt (getI l (i : Nat)) = _
  rw [getI_nat, h]
  rfl
theorem getI_last {α : Type} {l : List α} {a : α} (h : l.getLast? = some a) : getI l (-1) = some a := by
  have hl : l ≠ [] := by rintro rfl; cases h
  have hp : 0 < l.length := List.length_pos_iff.mpr hl
  unfold getI ixN
  rw [if_neg (by decide), if_pos (by omega)]
  have e : ((-1 : Int) + (l.length : Nat)).toNat = l.length - 1 := by omega
  show l[((-1 : Int) + (l.length : Nat)).toNat]? = some a
  rw [e, ← List.getLast?_eq_getElem?, h]
theorem last_lst {l : List D} {d : D} (h : l.getLast? = some d) : dIdx (.lst l) (.int (-1)) = .ret d := by
  show ofOpt (getI l (-1)) = _
  rw [getI_last h]
  rfl
theorem last_tup {l : List D} {d : D} (h : l.getLast? = some d) : dIdx (.tup l) (.int (-1)) = .ret d := by
  show ofOpt (getI l (-1)) = _
  rw [getI_last h]
  rfl
theorem lstsOf_map : ∀ ls : List (List D), lstsOf (ls.map D.lst) = some ls
  | [] => rfl
  | l :: r => by rw [List.map_cons, lstsOf, lstsOf_map r]; rfl
theorem sum_lsts {ls : List (List D)} (h : ls.flatten.length ≤ LIM) : pSumL (.lst (ls.map D.lst)) = .ret (.lst ls.flatten) := by
  unfold pSumL
  simp only [lstsOf_map]
  exact ck_pos h
theorem lit1 {d : D} {env : Env} : eLit d env = .ret d := rfl
theorem all_nil {env : Env} : eAll [] env = .ret [] := rfl
theorem and_ret {a b : Ex} {env : Env} {k : Bool} {r : M D} (h : a env = .ret (.bl k)) (e : (if k = true then b env else .ret (.bl false)) = r) : eAnd a b env = r := by
  unfold eAnd
  rw [h, ret_bind]
  exact e
theorem or_ret {a b : Ex} {env : Env} {k : Bool} {r : M D} (h : a env = .ret (.bl k)) (e : (if k = true then .ret (.bl true) else b env) = r) : eOr a b env = r := by
  unfold eOr
  rw [h, ret_bind]
  exact e
theorem ite_ret {c a b : Ex} {env : Env} {k : Bool} {r : M D} (h : c env = .ret (.bl k)) (e : (if k = true then a env else b env) = r) : eIte c a b env = r := by
  unfold eIte
  rw [h, ret_bind]
  exact e
/-! ### draws in expressions -/
section
variable {P : D → Prop} {Q : Out → Prop} {env : Env}
theorem Post.next {w a : Ex} {n : Int} (h0 : w env = .ret .w) (h : a env = .ret (.int n)) (hn : 0 < n) (hP : ∀ i, 0 ≤ i → i < n → P (.int i)) : Post (eCall fDraw [w, a] env) P := by
  have e : eCall fDraw [w, a] env = .draw n fun i => .ret (.int i) := by
    unfold eCall
    rw [all_cons h0 (all_cons h all_nil), ret_bind]
    exact ck_pos hn
  rw [e]
  exact Post.draw hn fun i h1 h2 => Post.ret (hP i h1 h2)
theorem Post.bin {o : D → D → M D} {a b : Ex} (h : Post (a env) fun x => Post (b env) fun y => Post (o x y) P) : Post (eBin o a b env) P := by
  unfold eBin
  exact Post.bind (h.mono fun x h => Post.bind h)
theorem Post.all {e : Ex} {es : List Ex} {P : List D → Prop} (h : Post (e env) fun d => Post (eAll es env) fun ds => P (d :: ds)) : Post (eAll (e :: es) env) P := by
  unfold eAll
  exact Post.bind (h.mono fun d h => Post.bind (h.mono fun ds h => Post.ret h))
theorem Post.tup {es : List Ex} (h : Post (eAll es env) fun ds => P (.tup ds)) : Post (eTup es env) P := by
  unfold eTup
  exact Post.bind (h.mono fun ds h => Post.ret h)
theorem Post.prim {p : List D → M D} {a : Ex} (h : Post (a env) fun d => Post (p [d]) P) : Post (ePrim p [a] env) P := by
  unfold ePrim
  exact Post.bind (Post.all (h.mono fun d h => Post.eq all_nil h))
theorem Post.set {i : Nat} {e : Ex} (h : Post (e env) fun d => Q (.nx (env.set i (some (false, d))))) : Post (sTgt (tName i) e env) Q := by
  unfold sTgt tName
  exact Post.bind (h.mono fun d h => Post.bind (Post.ret (Post.ret h)))
theorem Post.par {is : List (Bool × Nat)} {es : List Ex} (h : Post (eAll es env) fun ds => Q (.nx (setAll is ds env))) : Post (sPar is es env) Q := by
  unfold sPar
  exact Post.bind (h.mono fun d h => Post.ret h)
theorem Post.call {F : List D → M D} {es : List Ex} {ds : List D} (h : eAll es env = .ret ds) (k : Post (F ds) P) : Post (eCall F es env) P := by
  unfold eCall
  rw [h, ret_bind]
  exact k
end
/-! ### slices -/
theorem sIx_nat {n d k : Nat} : sIx n d (some (k : Int)) = min k n := by
  unfold sIx
  have h : ¬ ((k : Nat) : Int) < 0 := by omega
  simp only [if_neg h]
  rw [Int.toNat_natCast]
theorem cut_nat {α : Type} {l : List α} {i j : Nat} (h : j ≤ l.length) (hij : i ≤ j) : cut l (some (i : Int)) (some (j : Int)) = (l.drop i).take (j - i) := by
  unfold cut
  rw [sIx_nat, sIx_nat, Nat.min_eq_left h, Nat.min_eq_left (by omega)]
theorem cut_to {α : Type} {l : List α} {j : Nat} (h : j ≤ l.length) : cut l none (some (j : Int)) = l.take j := by
  unfold cut
  rw [sIx_nat, Nat.min_eq_left h]
  rfl
theorem cut_from {α : Type} {l : List α} {i : Nat} (h : i ≤ l.length) : cut l (some (i : Int)) none = l.drop i := by
  unfold cut
  rw [sIx_nat, Nat.min_eq_left h]
  show (l.drop i).take (l.length - i) = l.drop i
  rw [← List.length_drop, List.take_length]
theorem slc_ret {a : Ex} {lo hi : Option Ex} {env : Env} {x : D} {l h : Option Int} {r : M D} (e : a env = .ret x) (k : part lo env = .ret l) (m : part hi env = .ret h) (q : dSlc x l h = r) : eSlc a lo hi env = r := by
  unfold eSlc
  rw [e, ret_bind, k, ret_bind, m, ret_bind, q]
theorem part_none {env : Env} : part none env = .ret none := rfl
theorem part_int {e : Ex} {env : Env} {i : Int} (h : e env = .ret (.int i)) : part (some e) env = .ret (some i) := by
  show (e env >>= fun d => match d with | .int i => M.ret (some i) | _ => M.bad) = _
  rw [h]
  rfl
theorem tgt1 {β : Type} {t : Tgt} {x : D} {env e : Env} {elt : Env → M β} (h : t x env = .ret e) : (t x env >>= elt) = elt e := by rw [h, ret_bind]
theorem Post.lcI {elt : Ex} {own : List Nat} {tgt : Tgt} {it : Its} {env : Env} {R : D → Prop} (h : Post (it env) fun xs => Post (eLc elt [⟨own, tgt, fun _ => .ret xs, []⟩] env) R) : Post (eLc elt [⟨own, tgt, it, []⟩] env) R := by
  unfold eLc comp
  rw [bind_asc]
  refine Post.bind (h.mono fun xs h => ?_)
  unfold eLc comp at h
  exact h
theorem Post.rng1 {e : Ex} {env : Env} {P : List D → Prop} (h : Post (e env) fun d => Post (dRange [d]) P) : Post (iRng [e] env) P := by
  unfold iRng
  exact Post.bind (Post.all (h.mono fun d h => Post.eq all_nil h))
theorem Post.next1 {P : D → Prop} {w a : Ex} {env : Env} {n : Int} (h0 : w env = .ret .w) (h : a env = .ret (.int n)) (hn : 0 < n) (hP : ∀ i : Nat, (i : Int) < n → P (.int i)) : Post (eCall fDraw [w, a] env) P := Post.next h0 h hn fun i h1 h2 => by
  have e : ((i.toNat : Nat) : Int) = i := by omega
  rw [← e]
  exact hP i.toNat (by omega)
theorem Post.safe {m : M D} (h : Post m fun d => d = .bl true) : Safe m := ⟨h.ok⟩
end PV
/-! the list of draws -/
namespace PV
open PySem
def c_draws : St := (sBlk [(sOwn 2 (eLst [])),
    (sTgt (tName 3) (eLit (.int 7))),
    (sFor (tName 4) (iRng [(ePrim pLen [(eVarB 0)])]) (sBlk [(sTgt (tName 5) (ePrim pAbs [(ePrim pInt [(eBin dIdx (eVarB 0) (eVar 4))])])),
    (sTgt (tName 3) (eBin dMod (ePrim pInt [(eBin dAdd (eBin dAdd (eBin dMul (eVarB 3) (eLit (.int 48271))) (eBin dMod (eVarB 5) (eLit (.int 1000003)))) (eVarB 4))]) (eLit (.int 65537)))),
    (sTgt (tName 6) (eLit (.int 0))),
    (sIf (eBin oGe (eVarB 5) (eBin dPow (eLit (.int 10)) (eLit (.int 18)))) (sBlk [(sTgt (tName 6) (eVar 5))]) (sBlk [(sMut 2 fAppend (eBin dMod (ePrim pInt [(eVarB 5)]) (eLit (.int 997)))),
    (sMut 2 fAppend (eBin dMod (eBin dMod (ePrim pInt [(eBin dAdd (eBin dMul (eVarB 3) (eLit (.int 69621))) (eLit (.int 5)))]) (eLit (.int 65521))) (eLit (.int 997))))])),
    (sFor (tName 7) (iRng [(eLit (.int 60))]) (sBlk [(sIf (eBin oGt (eVarB 6) (eLit (.int 0))) (sBlk [(sMut 2 fAppend (eBin dMod (ePrim pInt [(eVarB 6)]) (eLit (.int 997)))),
    (sTgt (tName 6) (eBin dFdiv (eVarB 6) (eLit (.int 997))))]) (sBlk []))]))])),
    (sFor (tName 4) (iRng [(eVar 1)]) (sBlk [(sTgt (tName 3) (eBin dMod (ePrim pInt [(eBin dAdd (eBin dAdd (eBin dMul (eVarB 3) (eLit (.int 16807))) (eVarB 4)) (eLit (.int 1)))]) (eLit (.int 65537)))),
    (sMut 2 fAppend (eBin dMod (ePrim pInt [(eVarB 3)]) (eLit (.int 997))))])),
    (sRet (eSlc (eVarB 2) none (some (eVar 1))))])
def F_draws : List D → M D := run 8 c_draws
def isDr (n : Int) : Prop := 0 ≤ n ∧ n < 997
theorem mod997 (a : Int) : isDr (a % 997) := ⟨Int.emod_nonneg _ (by decide), Int.emod_lt_of_pos _ (by decide)⟩
theorem all_snoc {l : List Int} {a : Int} (h : ∀ n ∈ l, isDr n) (ha : isDr a) : ∀ n ∈ l ++ [a], isDr n := fun n hn => (List.mem_append.mp hn).elim (h n) fun z => by rw [List.mem_singleton.mp z]; exact ha
abbrev b_in : St := (sBlk [(sIf (eBin oGt (eVarB 6) (eLit (.int 0))) (sBlk [(sMut 2 fAppend (eBin dMod (ePrim pInt [(eVarB 6)]) (eLit (.int 997)))),
    (sTgt (tName 6) (eBin dFdiv (eVarB 6) (eLit (.int 997))))]) (sBlk []))])
def E8 (ns : List Int) (m : Int) (l : List Int) (mixed k cell rest : Int) (o : Option (Bool × D)) : Env := [some (false, .scr ns), some (false, .int m), some (true, .lst (l.map D.int)), some (false, .int mixed), some (false, .int k), some (false, .int cell), some (false, .int rest), o]
theorem in_step {ns : List Int} {m : Int} {l : List Int} {mixed k cell rest j : Int} {o : Option (Bool × D)} (hl : l.length < LIM) (hd : ∀ n ∈ l, isDr n) :
    ∃ l' rest', (tName 7 (.int j) (E8 ns m l mixed k cell rest o) >>= b_in) = .ret (.nx (E8 ns m l' mixed k cell rest' (some (false, .int j)))) ∧ l'.length ≤ l.length + 1 ∧ ∀ n ∈ l', isDr n := by
  by_cases h : 0 < rest
  · refine ⟨l ++ [rest % 997], rest / 997, ?_, by simp, all_snoc hd (mod997 _)⟩
    simp [tName, E8, b_in, sBlk, sIf, eBin, eVarB, eLit, oGt, ordC, flat, alk, notNon, dep, ck, truth, ltD, h, sMut, fAppend, ePrim, eAll, pInt, dMod, dFdiv, sSeq, sTgt, hl, W30, DEP]
  · refine ⟨l, rest, ?_, by omega, hd⟩
    simp [tName, E8, b_in, sBlk, sIf, eBin, eVarB, eLit, oGt, ordC, flat, alk, notNon, dep, ck, truth, ltD, h, sNop, DEP]
def EG (ns : List Int) (m : Int) (l : List Int) (mixed : Int) (o4 o5 o6 o7 : Option (Bool × D)) : Env := [some (false, .scr ns), some (false, .int m), some (true, .lst (l.map D.int)), some (false, .int mixed), o4, o5, o6, o7]
theorem in_loop {ns : List Int} {m : Int} {mixed k cell rest : Int} {o : Option (Bool × D)} {l : List Int} (n : Nat) (hl : l.length + n < LIM) (hd : ∀ n ∈ l, isDr n) :
    ∃ l' rest' o', forGo (tName 7) b_in (rng 0 n 1) (E8 ns m l mixed k cell rest o) = .ret (.nx (E8 ns m l' mixed k cell rest' o')) ∧ l'.length ≤ l.length + n ∧ ∀ n ∈ l', isDr n := by
  have key : ∀ (xs : List D) (l : List Int) (rest : Int) (o : Option (Bool × D)), (∀ x ∈ xs, ∃ j, x = .int j) → l.length + xs.length < LIM → (∀ n ∈ l, isDr n) →
      ∃ l' rest' o', forGo (tName 7) b_in xs (E8 ns m l mixed k cell rest o) = .ret (.nx (E8 ns m l' mixed k cell rest' o')) ∧ l'.length ≤ l.length + xs.length ∧ ∀ n ∈ l', isDr n := by
    intro xs
    induction xs with
    | nil => intro l rest o _ _ hd; exact ⟨l, rest, o, rfl, Nat.le_refl _, hd⟩
    | cons x xs ih =>
      intro l rest o hx hl hd
      obtain ⟨j, rfl⟩ := hx x List.mem_cons_self
      rw [List.length_cons] at hl
      obtain ⟨l1, rest1, e1, h1, h2⟩ := in_step (ns := ns) (m := m) (l := l) (mixed := mixed) (k := k) (cell := cell) (rest := rest) (j := j) (o := o) (by omega) hd
      obtain ⟨l2, rest2, o2, e2, h3, h4⟩ := ih l1 rest1 (some (false, .int j)) (fun y hy => hx y (List.mem_cons_of_mem _ hy)) (by omega) h2
      refine ⟨l2, rest2, o2, ?_, by rw [List.length_cons]; omega, h4⟩
      unfold forGo
      have e0 : tName 7 (.int j) (E8 ns m l mixed k cell rest o) = .ret (E8 ns m l mixed k cell rest (some (false, .int j))) := rfl
      rw [e0, ret_bind] at e1 ⊢
      rw [e1, ret_bind]
      exact e2
  have := key (rng 0 n 1) l rest o (fun x hx => let ⟨k, _, e⟩ := rng_mem hx; ⟨_, e⟩) (by rw [length_rng]; exact hl) hd
  rw [length_rng] at this
  exact this
/-- the outer body -/
abbrev b_out : St := (sBlk [(sTgt (tName 5) (ePrim pAbs [(ePrim pInt [(eBin dIdx (eVarB 0) (eVar 4))])])),
    (sTgt (tName 3) (eBin dMod (ePrim pInt [(eBin dAdd (eBin dAdd (eBin dMul (eVarB 3) (eLit (.int 48271))) (eBin dMod (eVarB 5) (eLit (.int 1000003)))) (eVarB 4))]) (eLit (.int 65537)))),
    (sTgt (tName 6) (eLit (.int 0))),
    (sIf (eBin oGe (eVarB 5) (eBin dPow (eLit (.int 10)) (eLit (.int 18)))) (sBlk [(sTgt (tName 6) (eVar 5))]) (sBlk [(sMut 2 fAppend (eBin dMod (ePrim pInt [(eVarB 5)]) (eLit (.int 997)))),
    (sMut 2 fAppend (eBin dMod (eBin dMod (ePrim pInt [(eBin dAdd (eBin dMul (eVarB 3) (eLit (.int 69621))) (eLit (.int 5)))]) (eLit (.int 65521))) (eLit (.int 997))))])),
    (sFor (tName 7) (iRng [(eLit (.int 60))]) b_in)])
theorem small_c (a : Int) : small a ∨ small 48271 := .inr (by unfold small W64; decide)
theorem out_step {ns : List Int} {m : Int} {l : List Int} {mixed : Int} {o4 o5 o6 o7 : Option (Bool × D)} {i : Nat} (hi : i < ns.length) (hl : l.length + 62 < LIM) (hd : ∀ n ∈ l, isDr n) :
    ∃ l' mixed' o4' o5' o6' o7', (tName 4 (.int (0 + (i : Nat))) (EG ns m l mixed o4 o5 o6 o7) >>= b_out) = .ret (.nx (EG ns m l' mixed' o4' o5' o6' o7')) ∧ l'.length ≤ l.length + 62 ∧ ∀ n ∈ l', isDr n := by
  obtain ⟨n, hn⟩ : ∃ n, ns[i]? = some n := ⟨ns[i], List.getElem?_eq_getElem hi⟩
  have hg : getI ns (0 + (i : Nat)) = some n := by
    have e : (0 : Int) + (i : Nat) = i := by omega
    rw [e, getI_nat, hn]
  generalize hki : (0 : Int) + (i : Nat) = ki at hg ⊢
  obtain ⟨cell, hc⟩ : ∃ c, c = (if n < 0 then -n else n) := ⟨_, rfl⟩
  obtain ⟨mixed', hm⟩ : ∃ m', m' = (mixed * 48271 + cell % 1000003 + ki) % 65537 := ⟨_, rfl⟩
  have sm1 : small 69621 := by unfold small W64; decide
  have sm2 : small 48271 := by unfold small W64; decide
  have sm3 : small 10 := by unfold small W64; decide
  have rr : ∀ env : Env, iRng [(eLit (.int 60))] env = .ret (rng 0 60 1) := fun env => (iRng1 (d := .int 60) rfl).trans (range1 (n := 60) (by omega))
  have h1 : (sTgt (tName 5) (ePrim pAbs [(ePrim pInt [(eBin dIdx (eVarB 0) (eVar 4))])])) (EG ns m l mixed (some (false, .int ki)) o5 o6 o7) = .ret (.nx (EG ns m l mixed (some (false, .int ki)) (some (false, .int cell)) o6 o7)) := by
    simp [sTgt, tName, EG, ePrim, eAll, eBin, eVarB, eVar, dIdx, hg, pInt, pAbs, hc]
  have h2 : (sTgt (tName 3) (eBin dMod (ePrim pInt [(eBin dAdd (eBin dAdd (eBin dMul (eVarB 3) (eLit (.int 48271))) (eBin dMod (eVarB 5) (eLit (.int 1000003)))) (eVarB 4))]) (eLit (.int 65537)))) (EG ns m l mixed (some (false, .int ki)) (some (false, .int cell)) o6 o7) =
      .ret (.nx (EG ns m l mixed' (some (false, .int ki)) (some (false, .int cell)) o6 o7)) := by
    simp [sTgt, tName, EG, ePrim, eAll, eBin, eVarB, eLit, dMod, dAdd, dMul, ck, pInt, sm2, hm]
  have h3 : (sTgt (tName 6) (eLit (.int 0))) (EG ns m l mixed' (some (false, .int ki)) (some (false, .int cell)) o6 o7) = .ret (.nx (E8 ns m l mixed' ki cell 0 o7)) := by
    simp [sTgt, tName, EG, E8, eLit]
  have e0 : tName 4 (.int ki) (EG ns m l mixed o4 o5 o6 o7) = .ret (EG ns m l mixed (some (false, .int ki)) o5 o6 o7) := rfl
  rw [e0, ret_bind]
  unfold b_out
  rw [blk_nx h1, blk_nx h2, blk_nx h3]
  have st : ∀ (l : List Int) (rest : Int), sBlk [sFor (tName 7) (iRng [(eLit (.int 60))]) b_in] (E8 ns m l mixed' ki cell rest o7) = forGo (tName 7) b_in (rng 0 60 1) (E8 ns m l mixed' ki cell rest o7) := fun l rest => by
    show sFor _ _ _ _ = _
    unfold sFor
    rw [rr, ret_bind]
  by_cases h : (1000000000000000000 : Int) ≤ cell
  · obtain ⟨l1, r1, o1, e1, g1, g2⟩ := in_loop (ns := ns) (m := m) (mixed := mixed') (k := ki) (cell := cell) (rest := cell) (o := o7) (l := l) 60 (by omega) hd
    have h4 : (sIf (eBin oGe (eVarB 5) (eBin dPow (eLit (.int 10)) (eLit (.int 18)))) (sBlk [(sTgt (tName 6) (eVar 5))]) (sBlk [(sMut 2 fAppend (eBin dMod (ePrim pInt [(eVarB 5)]) (eLit (.int 997)))),
    (sMut 2 fAppend (eBin dMod (eBin dMod (ePrim pInt [(eBin dAdd (eBin dMul (eVarB 3) (eLit (.int 69621))) (eLit (.int 5)))]) (eLit (.int 65521))) (eLit (.int 997))))])) (E8 ns m l mixed' ki cell 0 o7) = .ret (.nx (E8 ns m l mixed' ki cell cell o7)) := by
      have h' : ¬ cell < 1000000000000000000 := by omega
      simp [sIf, eBin, eVarB, eVar, eLit, E8, dPow, ck, sm3, oGe, ordC, flat, alk, notNon, dep, DEP, ltD, truth, h', sBlk, sTgt, tName]
    rw [blk_nx h4, st, e1]
    exact ⟨l1, mixed', _, _, _, _, rfl, by omega, g2⟩
  · have hlen : (l ++ [cell % 997] ++ [(mixed' * 69621 + 5) % 65521 % 997]).length = l.length + 2 := by simp
    obtain ⟨l1, r1, o1, e1, g1, g2⟩ := in_loop (ns := ns) (m := m) (mixed := mixed') (k := ki) (cell := cell) (rest := 0) (o := o7) (l := l ++ [cell % 997] ++ [(mixed' * 69621 + 5) % 65521 % 997]) 60 (by omega) (all_snoc (all_snoc hd (mod997 _)) (mod997 _))
    have h4 : (sIf (eBin oGe (eVarB 5) (eBin dPow (eLit (.int 10)) (eLit (.int 18)))) (sBlk [(sTgt (tName 6) (eVar 5))]) (sBlk [(sMut 2 fAppend (eBin dMod (ePrim pInt [(eVarB 5)]) (eLit (.int 997)))),
    (sMut 2 fAppend (eBin dMod (eBin dMod (ePrim pInt [(eBin dAdd (eBin dMul (eVarB 3) (eLit (.int 69621))) (eLit (.int 5)))]) (eLit (.int 65521))) (eLit (.int 997))))])) (E8 ns m l mixed' ki cell 0 o7) = .ret (.nx (E8 ns m (l ++ [cell % 997] ++ [(mixed' * 69621 + 5) % 65521 % 997]) mixed' ki cell 0 o7)) := by
      have h' : cell < 1000000000000000000 := by omega
      have hl1 : l.length < LIM := by omega
      have hl2 : l.length + 1 < LIM := by omega
      simp [sIf, eBin, eVarB, eVar, eLit, E8, dPow, ck, sm3, sm1, oGe, ordC, flat, alk, notNon, dep, DEP, ltD, truth, h', sBlk, sSeq, sMut, fAppend, ePrim, eAll, pInt, dMod, dMul, dAdd, hl1, hl2]
    rw [blk_nx h4, st, e1]
    exact ⟨l1, mixed', _, _, _, _, rfl, by omega, g2⟩
/-- the second loop's body -/
abbrev b_two : St := (sBlk [(sTgt (tName 3) (eBin dMod (ePrim pInt [(eBin dAdd (eBin dAdd (eBin dMul (eVarB 3) (eLit (.int 16807))) (eVarB 4)) (eLit (.int 1)))]) (eLit (.int 65537)))),
    (sMut 2 fAppend (eBin dMod (ePrim pInt [(eVarB 3)]) (eLit (.int 997))))])
theorem two_step {ns : List Int} {m : Int} {l : List Int} {mixed i : Int} {o4 o5 o6 o7 : Option (Bool × D)} (hl : l.length < LIM) (hd : ∀ n ∈ l, isDr n) :
    ∃ l' mixed', (tName 4 (.int i) (EG ns m l mixed o4 o5 o6 o7) >>= b_two) = .ret (.nx (EG ns m l' mixed' (some (false, .int i)) o5 o6 o7)) ∧ l'.length ≤ l.length + 1 ∧ ∀ n ∈ l', isDr n := by
  have sm2 : small 16807 := by unfold small W64; decide
  refine ⟨l ++ [(mixed * 16807 + i + 1) % 65537 % 997], (mixed * 16807 + i + 1) % 65537, ?_, by simp, all_snoc hd (mod997 _)⟩
  simp [tName, EG, b_two, sBlk, sSeq, sTgt, sMut, fAppend, eBin, eVarB, eLit, ePrim, eAll, pInt, dMod, dMul, dAdd, ck, sm2, hl]
/-- what the draws are -/
theorem draws_ok (ns : List Int) (hn : ns.length ≤ 63) : Post (F_draws [.scr ns, .int 900]) fun d => ∃ ds : List Int, d = .lst (ds.map D.int) ∧ ∀ n ∈ ds, isDr n := by
  have h1 : (sOwn 2 (eLst [])) [some (false, .scr ns), some (false, .int 900), none, none, none, none, none, none] = .ret (.nx [some (false, .scr ns), some (false, .int 900), some (true, .lst []), none, none, none, none, none]) := by
    simp [sOwn, eLst, eAll, isMut]
  have h2 : (sTgt (tName 3) (eLit (.int 7))) [some (false, .scr ns), some (false, .int 900), some (true, .lst []), none, none, none, none, none] = .ret (.nx (EG ns 900 [] 7 none none none none)) := by
    simp [sTgt, tName, eLit, EG]
  have r1 : iRng [(ePrim pLen [(eVarB 0)])] (EG ns 900 [] 7 none none none none) = .ret (rng 0 ns.length 1) := by
    exact (iRng1 (d := .int (ns.length : Nat)) rfl).trans (range1 (by omega))
  unfold F_draws
  refine Post.run (env := [some (false, .scr ns), some (false, .int 900), none, none, none, none, none, none]) rfl ?_
  unfold c_draws
  refine Post.blk1 h1 (Post.blk1 h2 (Post.blk (Post.for r1 (fun i env => ∃ l mixed o4 o5 o6 o7, env = EG ns 900 l mixed o4 o5 o6 o7 ∧ l.length ≤ 62 * i ∧ ∀ n ∈ l, isDr n) ⟨[], 7, _, _, _, _, rfl, Nat.le_refl _, by simp⟩ (fun i x env hx hi => ?_) (fun env he => ?_))))
  · obtain ⟨hlt, rfl⟩ := rng_at hx
    obtain ⟨l, mixed, o4, o5, o6, o7, rfl, hl, hd⟩ := hi
    obtain ⟨l', m', p4, p5, p6, p7, e, g1, g2⟩ := out_step (ns := ns) (m := 900) (l := l) (mixed := mixed) (o4 := o4) (o5 := o5) (o6 := o6) (o7 := o7) (i := i) hlt (by unfold LIM; omega) hd
    exact Post.eq e ⟨_, rfl, l', m', p4, p5, p6, p7, rfl, by omega, g2⟩
  · obtain ⟨l, mixed, o4, o5, o6, o7, rfl, hl, hd⟩ := he
    rw [length_rng] at hl
    have r2 : iRng [(eVar 1)] (EG ns 900 l mixed o4 o5 o6 o7) = .ret (rng 0 900 1) := (iRng1 (d := .int 900) rfl).trans (range1 (n := 900) (by omega))
    refine ⟨_, rfl, Post.blk (Post.for r2 (fun i env => ∃ l mixed o4, env = EG ns 900 l mixed o4 o5 o6 o7 ∧ l.length ≤ 3906 + i ∧ ∀ n ∈ l, isDr n) ⟨l, mixed, o4, rfl, by omega, hd⟩ (fun i x env hx hi => ?_) (fun env he => ?_))⟩
    · obtain ⟨hlt, rfl⟩ := rng_at hx
      obtain ⟨l, mixed, o4, rfl, hl, hd⟩ := hi
      obtain ⟨l', m', e, g1, g2⟩ := two_step (ns := ns) (m := 900) (l := l) (mixed := mixed) (i := 0 + (i : Nat)) (o4 := o4) (o5 := o5) (o6 := o6) (o7 := o7) (by unfold LIM; omega) hd
      exact Post.eq e ⟨_, rfl, l', m', _, rfl, by omega, g2⟩
    · obtain ⟨l, mixed, o4, rfl, hl, hd⟩ := he
      have h5 : sBlk [(sRet (eSlc (eVarB 2) none (some (eVar 1))))] (EG ns 900 l mixed o4 o5 o6 o7) = .ret (.rt (.lst (cut (l.map D.int) none (some 900)))) := by
        simp [sBlk, sRet, eSlc, eVarB, eVar, EG, part, dSlc]
      have hc : cut (l.map D.int) none (some 900) = (cut l none (some 900)).map D.int := by
        unfold cut
        rw [List.length_map, List.map_take, List.map_drop]
      refine ⟨_, rfl, Post.eq h5 ⟨cut l none (some 900), by rw [hc], fun n hn => hd n ?_⟩⟩
      unfold cut at hn
      exact List.mem_of_mem_drop (List.mem_of_mem_take hn)
end PV
open PV
open PySem (Str)
namespace K29
/-- set_of(things); 0:things -/
def c_set_of : St := (sBlk [(sRet (ePrim pTuple [(ePrim pSortSet [(eVarB 0)])]))])
def F_set_of : List D → M D := run 1 c_set_of
/-- moved(spot, wind); 0:spot 1:wind -/
def c_moved : St := (sBlk [(sRet (eTup [(eBin dAdd (eBin dIdx (eVarB 0) (eLit (.int 0))) (eBin dIdx (eVarB 1) (eLit (.int 0)))), (eBin dAdd (eBin dIdx (eVarB 0) (eLit (.int 1))) (eBin dIdx (eVarB 1) (eLit (.int 1))))]))])
def F_moved : List D → M D := run 2 c_moved
/-- apart(one, other); 0:one 1:other -/
def c_apart : St := (sBlk [(sRet (eBin dAdd (ePrim pAbs [(eBin dSub (eBin dIdx (eVarB 0) (eLit (.int 0))) (eBin dIdx (eVarB 1) (eLit (.int 0))))]) (ePrim pAbs [(eBin dSub (eBin dIdx (eVarB 0) (eLit (.int 1))) (eBin dIdx (eVarB 1) (eLit (.int 1))))])))])
def F_apart : List D → M D := run 2 c_apart
/-- levels_along(up, down, burst); 0:up 1:down 2:burst 3:rise 4:level 5:_ -/
def c_levels_along : St := (sBlk [(sTgt (tName 3) (eLc (eVar 4) [⟨[4, 5], (tName 4), (iRng [(eVar 2)]), []⟩, ⟨[5], (tName 5), (iRng [(eVar 0)]), []⟩])),
    (sRet (eBin dAdd (eVarB 3) (eLc (eVar 4) [⟨[4, 5], (tName 4), (iRng [(eBin dSub (eVarB 2) (eLit (.int 1))), (eUn dNeg (eLit (.int 1))), (eUn dNeg (eLit (.int 1)))]), []⟩, ⟨[5], (tName 5), (iRng [(eVar 1)]), []⟩])))])
def F_levels_along : List D → M D := run 6 c_levels_along
/-- flown_sonde(airs, spot, up, down, burst); 0:airs 1:spot 2:up 3:down 4:burst 5:found 6:level -/
def c_flown_sonde : St := (sBlk [(sOwn 5 (eLst [(eVar 1)])),
    (sFor (tName 6) (iVal (eCall F_levels_along [(eVar 2), (eVar 3), (eVar 4)])) (sBlk [(sMut 5 fAppend (eCall F_moved [(eBin dIdx (eVarB 5) (eUn dNeg (eLit (.int 1)))), (eBin dIdx (eVarB 0) (eVar 6))]))])),
    (sRet (ePrim pTuple [(eVarB 5)]))])
def F_flown_sonde : List D → M D := run 7 c_flown_sonde
/-- lands_at(airs, spot, up, down, burst); 0:airs 1:spot 2:up 3:down 4:burst -/
def c_lands_at : St := (sBlk [(sRet (eBin dIdx (eCall F_flown_sonde [(eVar 0), (eVar 1), (eVar 2), (eVar 3), (eVar 4)]) (eUn dNeg (eLit (.int 1)))))])
def F_lands_at : List D → M D := run 5 c_lands_at
/-- burst_for(airs, spot, up, down, goals); 0:airs 1:spot 2:up 3:down 4:goals 5:able 6:burst -/
def c_burst_for : St := (sBlk [(sTgt (tName 5) (eLc (eVar 6) [⟨[6], (tName 6), (iRng [(eBin dAdd (ePrim pLen [(eVarB 0)]) (eLit (.int 1)))]), [(eBin oIn (eCall F_lands_at [(eVar 0), (eVar 1), (eVar 2), (eVar 3), (eVar 6)]) (eVarB 4))]⟩])),
    (sRet (eIte (eBin oNe (eVarB 5) (eLst [])) (eBin dIdx (eVarB 5) (eLit (.int 0))) (eLit .non)))])
def F_burst_for : List D → M D := run 7 c_burst_for
/-- search_area(airs, spot, up, down, least, most); 0:airs 1:spot 2:up 3:down 4:least 5:most 6:burst -/
def c_search_area : St := (sBlk [(sRet (eCall F_set_of [(eLc (eCall F_lands_at [(eVar 0), (eVar 1), (eVar 2), (eVar 3), (eVar 6)]) [⟨[6], (tName 6), (iRng [(eVar 4), (eBin dAdd (eVarB 5) (eLit (.int 1)))]), []⟩])]))])
def F_search_area : List D → M D := run 7 c_search_area
/-- airs_seen(way, up); 0:way 1:up 2:gaps 3:found 4:level 5:own 6:one 7:other 8:gap -/
def c_airs_seen : St := (sBlk [(sTgt (tName 2) (eLc (eTup [(eBin dSub (eBin dIdx (eVarB 7) (eLit (.int 0))) (eBin dIdx (eVarB 6) (eLit (.int 0)))), (eBin dSub (eBin dIdx (eVarB 7) (eLit (.int 1))) (eBin dIdx (eVarB 6) (eLit (.int 1))))]) [⟨[6, 7], (tTup [(tName 6), (tName 7)]), (iZip (eVarB 0) (eSlc (eVarB 0) (some (eLit (.int 1))) none)), []⟩])),
    (sOwn 3 (eLst [])),
    (sFor (tName 4) (iRng [(eBin dFdiv (ePrim pLen [(eVarB 2)]) (eVarB 1))]) (sBlk [(sTgt (tName 5) (eSlc (eVarB 2) (some (eBin dMul (eVarB 4) (eVarB 1))) (some (eBin dMul (eBin dAdd (eVarB 4) (eLit (.int 1))) (eVarB 1))))),
    (sIf (ePrim pAny [(eLc (eBin oNe (eVarB 8) (eBin dIdx (eVarB 5) (eLit (.int 0)))) [⟨[8], (tName 8), (iVal (eVarB 5)), []⟩])]) (sBlk [(sRet (eLit .non))]) (sBlk [])),
    (sMut 3 fAppend (eBin dIdx (eVarB 5) (eLit (.int 0))))])),
    (sRet (ePrim pTuple [(eVarB 3)]))])
def F_airs_seen : List D → M D := run 9 c_airs_seen
/-- best_post(airs, spots, up, down, burst, goal); 0:airs 1:spots 2:up 3:down 4:burst 5:goal 6:spot -/
def c_best_post : St := (sBlk [(sRet (ePrim pMin [(eLc (eTup [(eCall F_apart [(eCall F_lands_at [(eVar 0), (eVar 6), (eVar 2), (eVar 3), (eVar 4)]), (eVar 5)]), (eVar 6)]) [⟨[6], (tName 6), (iVal (eVarB 1)), []⟩])]))])
def F_best_post : List D → M D := run 7 c_best_post
/-- highest_by(up, minutes); 0:up 1:minutes -/
def c_highest_by : St := (sBlk [(sRet (eBin dFdiv (eVarB 1) (eVarB 0)))])
def F_highest_by : List D → M D := run 2 c_highest_by
/-- same_landing(airs, up, down, one, other); 0:airs 1:up 2:down 3:one 4:other -/
def c_same_landing : St := (sBlk [(sRet (eBin oEq (eCall F_lands_at [(eVar 0), (eTup [(eLit (.int 0)), (eLit (.int 0))]), (eVar 1), (eVar 2), (eVar 3)]) (eCall F_lands_at [(eVar 0), (eTup [(eLit (.int 0)), (eLit (.int 0))]), (eVar 1), (eVar 2), (eVar 4)])))])
def F_same_landing : List D → M D := run 5 c_same_landing
/-- _law_draws(script, many); 0:script 1:many 2:draws 3:mixed 4:k 5:cell 6:rest 7:turn -/
def c_law_draws : St := (sBlk [(sOwn 2 (eLst [])),
    (sTgt (tName 3) (eLit (.int 7))),
    (sFor (tName 4) (iRng [(ePrim pLen [(eVarB 0)])]) (sBlk [(sTgt (tName 5) (ePrim pAbs [(ePrim pInt [(eBin dIdx (eVarB 0) (eVar 4))])])),
    (sTgt (tName 3) (eBin dMod (ePrim pInt [(eBin dAdd (eBin dAdd (eBin dMul (eVarB 3) (eLit (.int 48271))) (eBin dMod (eVarB 5) (eLit (.int 1000003)))) (eVarB 4))]) (eLit (.int 65537)))),
    (sTgt (tName 6) (eLit (.int 0))),
    (sIf (eBin oGe (eVarB 5) (eBin dPow (eLit (.int 10)) (eLit (.int 18)))) (sBlk [(sTgt (tName 6) (eVar 5))]) (sBlk [(sMut 2 fAppend (eBin dMod (ePrim pInt [(eVarB 5)]) (eLit (.int 997)))),
    (sMut 2 fAppend (eBin dMod (eBin dMod (ePrim pInt [(eBin dAdd (eBin dMul (eVarB 3) (eLit (.int 69621))) (eLit (.int 5)))]) (eLit (.int 65521))) (eLit (.int 997))))])),
    (sFor (tName 7) (iRng [(eLit (.int 60))]) (sBlk [(sIf (eBin oGt (eVarB 6) (eLit (.int 0))) (sBlk [(sMut 2 fAppend (eBin dMod (ePrim pInt [(eVarB 6)]) (eLit (.int 997)))),
    (sTgt (tName 6) (eBin dFdiv (eVarB 6) (eLit (.int 997))))]) (sBlk []))]))])),
    (sFor (tName 4) (iRng [(eVar 1)]) (sBlk [(sTgt (tName 3) (eBin dMod (ePrim pInt [(eBin dAdd (eBin dAdd (eBin dMul (eVarB 3) (eLit (.int 16807))) (eVarB 4)) (eLit (.int 1)))]) (eLit (.int 65537)))),
    (sMut 2 fAppend (eBin dMod (ePrim pInt [(eVarB 3)]) (eLit (.int 997))))])),
    (sRet (eSlc (eVarB 2) none (some (eVar 1))))])
def F_law_draws : List D → M D := run 8 c_law_draws
def F_law_next : List D → M D := fDraw
/-- _law_pick(w, rows); 0:w 1:rows -/
def c_law_pick : St := (sBlk [(sRet (eBin dIdx (eVarB 1) (eCall F_law_next [(eVar 0), (ePrim pLen [(eVarB 1)])])))])
def F_law_pick : List D → M D := run 2 c_law_pick
/-- _law_sonde(airs, spot, up, down, burst); 0:airs 1:spot 2:up 3:down 4:burst 5:found 6:levels 7:k -/
def c_law_sonde : St := (sBlk [(sOwn 5 (eLst [(eVar 1)])),
    (sTgt (tName 6) (eBin dAdd (eUn pSumL (eLc (eBin dMul (eLst [(eVar 7)]) (eVarB 2)) [⟨[7], (tName 7), (iRng [(eVar 4)]), []⟩])) (eUn pSumL (eUn dRev (eLc (eBin dMul (eLst [(eVar 7)]) (eVarB 3)) [⟨[7], (tName 7), (iRng [(eVar 4)]), []⟩]))))),
    (sFor (tName 7) (iVal (eVar 6)) (sBlk [(sMut 5 fAppend (eTup [(eBin dAdd (eBin dIdx (eBin dIdx (eVarB 5) (eUn dNeg (eLit (.int 1)))) (eLit (.int 0))) (eBin dIdx (eBin dIdx (eVarB 0) (eVar 7)) (eLit (.int 0)))), (eBin dAdd (eBin dIdx (eBin dIdx (eVarB 5) (eUn dNeg (eLit (.int 1)))) (eLit (.int 1))) (eBin dIdx (eBin dIdx (eVarB 0) (eVar 7)) (eLit (.int 1))))]))])),
    (sFz [5] (sRet (eVar 5)))])
def F_law_sonde : List D → M D := run 8 c_law_sonde
/-- _law_holds(w); 0:w 1:airs 2:spot 3:up 4:down 5:burst 6:way 7:ends 8:goals 9:able 10:least 11:most 12:rise 13:spots 14:goal 15:offs 16:own 17:x 18:y 19:k -/
def c_law_holds : St := (sBlk [(sTgt (tName 1) (ePrim pTuple [(eLc (eTup [(eBin dSub (eCall F_law_next [(eVar 0), (eLit (.int 5))]) (eLit (.int 2))), (eBin dSub (eCall F_law_next [(eVar 0), (eLit (.int 5))]) (eLit (.int 2)))]) [⟨[19], (tName 19), (iRng [(eBin dAdd (eLit (.int 1)) (eCall F_law_next [(eVar 0), (eLit (.int 3))]))]), []⟩])])),
    (sPar [(false, 2), (false, 3), (false, 4), (false, 5)] [(eTup [(eCall F_law_next [(eVar 0), (eLit (.int 5))]), (eCall F_law_next [(eVar 0), (eLit (.int 5))])]), (eBin dAdd (eLit (.int 1)) (eCall F_law_next [(eVar 0), (eLit (.int 3))])), (eBin dAdd (eLit (.int 1)) (eCall F_law_next [(eVar 0), (eLit (.int 3))])), (eCall F_law_next [(eVar 0), (eBin dAdd (ePrim pLen [(eVarB 1)]) (eLit (.int 1)))])]),
    (sTgt (tName 6) (eCall F_law_sonde [(eVar 1), (eVar 2), (eVar 3), (eVar 4), (eVar 5)])),
    (sIf (eOr (eBin oNe (eCall F_flown_sonde [(eVar 1), (eVar 2), (eVar 3), (eVar 4), (eVar 5)]) (ePrim pTuple [(eVarB 6)])) (eBin oNe (eCall F_lands_at [(eVar 1), (eVar 2), (eVar 3), (eVar 4), (eVar 5)]) (eBin dIdx (eVarB 6) (eUn dNeg (eLit (.int 1)))))) (sBlk [(sRet (eLit (.bl false)))]) (sBlk [])),
    (sTgt (tName 7) (eLc (eBin dIdx (eCall F_law_sonde [(eVar 1), (eVar 2), (eVar 3), (eVar 4), (eVar 16)]) (eUn dNeg (eLit (.int 1)))) [⟨[16], (tName 16), (iRng [(eBin dAdd (ePrim pLen [(eVarB 1)]) (eLit (.int 1)))]), []⟩])),
    (sTgt (tName 8) (ePrim pTuple [(ePrim pSortSet [(eLc (eCall F_law_pick [(eVar 0), (eBin dAdd (eVarB 7) (eLst [(eTup [(eLit (.int 9)), (eLit (.int 9))])]))]) [⟨[19], (tName 19), (iRng [(eLit (.int 2))]), []⟩])])])),
    (sTgt (tName 9) (eLc (eVar 19) [⟨[19], (tName 19), (iRng [(ePrim pLen [(eVarB 7)])]), [(eBin oIn (eBin dIdx (eVarB 7) (eVar 19)) (eVarB 8))]⟩])),
    (sIf (eBin oNe (eCall F_burst_for [(eVar 1), (eVar 2), (eVar 3), (eVar 4), (eVar 8)]) (eIte (eBin oNe (eVarB 9) (eLst [])) (eBin dIdx (eVarB 9) (eLit (.int 0))) (eLit .non))) (sBlk [(sRet (eLit (.bl false)))]) (sBlk [])),
    (sTgt (tName 10) (eCall F_law_next [(eVar 0), (ePrim pLen [(eVarB 7)])])),
    (sTgt (tName 11) (eBin dAdd (eVarB 10) (eCall F_law_next [(eVar 0), (eBin dSub (ePrim pLen [(eVarB 7)]) (eVarB 10))]))),
    (sIf (eBin oNe (ePrim pList [(eCall F_search_area [(eVar 1), (eVar 2), (eVar 3), (eVar 4), (eVar 10), (eVar 11)])]) (ePrim pSortSet [(eSlc (eVarB 7) (some (eVar 10)) (some (eBin dAdd (eVarB 11) (eLit (.int 1)))))])) (sBlk [(sRet (eLit (.bl false)))]) (sBlk [])),
    (sTgt (tName 12) (eSlc (eVarB 6) none (some (eBin dAdd (eBin dMul (eVarB 3) (eVarB 5)) (eLit (.int 1)))))),
    (sIf (eOr (eBin oNe (eCall F_airs_seen [(ePrim pTuple [(eVarB 12)]), (eVar 3)]) (eSlc (eVarB 1) none (some (eVar 5)))) (eOr (eBin oNe (eCall F_highest_by [(eVar 3), (eLit (.int 7))]) (eBin dFdiv (eLit (.int 7)) (eVarB 3))) (eBin oNe (eCall F_same_landing [(eVar 1), (eVar 3), (eVar 4), (eVar 10), (eVar 11)]) (eBin oEq (eBin dIdx (eVarB 7) (eVar 10)) (eBin dIdx (eVarB 7) (eVar 11)))))) (sBlk [(sRet (eLit (.bl false)))]) (sBlk [])),
    (sPar [(false, 13), (false, 14)] [(ePrim pTuple [(ePrim pSortSet [(eLc (eTup [(eCall F_law_next [(eVar 0), (eLit (.int 5))]), (eCall F_law_next [(eVar 0), (eLit (.int 5))])]) [⟨[19], (tName 19), (iRng [(eBin dAdd (eLit (.int 1)) (eCall F_law_next [(eVar 0), (eLit (.int 3))]))]), []⟩])])]), (eTup [(eCall F_law_next [(eVar 0), (eLit (.int 5))]), (eCall F_law_next [(eVar 0), (eLit (.int 5))])])]),
    (sOwn 15 (eLst [])),
    (sFor (tName 16) (iVal (eVar 13)) (sBlk [(sTgt (tTup [(tName 17), (tName 18)]) (eBin dIdx (eCall F_law_sonde [(eVar 1), (eVar 16), (eVar 3), (eVar 4), (eVar 5)]) (eUn dNeg (eLit (.int 1))))),
    (sMut 15 fAppend (eTup [(eBin dAdd (ePrim pAbs [(eBin dSub (eVarB 17) (eBin dIdx (eVarB 14) (eLit (.int 0))))]) (ePrim pAbs [(eBin dSub (eVarB 18) (eBin dIdx (eVarB 14) (eLit (.int 1))))])), (eVar 16)]))])),
    (sIf (eBin oNe (eCall F_best_post [(eVar 1), (eVar 13), (eVar 3), (eVar 4), (eVar 5), (eVar 14)]) (ePrim pMin [(eVarB 15)])) (sBlk [(sRet (eLit (.bl false)))]) (sBlk [])),
    (sRet (eLit (.bl true)))])
def F_law_holds : List D → M D := run 20 c_law_holds
/-- law(script); 0:script 1:w 2:turn -/
def c_law : St := (sBlk [(sTgt (tName 1) (eMkw (eCall F_law_draws [(eVar 0), (eLit (.int 900))]))),
    (sFor (tName 2) (iRng [(eLit (.int 4))]) (sBlk [(sIf (eUn dNot (eCall F_law_holds [(eVar 1)])) (sBlk [(sRet (eLit (.bl false)))]) (sBlk []))])),
    (sRet (eLit (.bl true)))])
def F_law : List D → M D := run 3 c_law
end K29
namespace K29
open PySem PySem.Spec PyProof.Rows L2 PV
def top (i : Nat) : Stmt := PySem.Challenge.pw_windheld_k29_whole_all_sondes_that_land.main.body.getD i (.Pass ⟨0, 0, 0, 0⟩)
abbrev FnP (K : PySem.W.Frag) (x : Str) (st : Stmt) (f : Addr) (fd : FuncData) : Prop := FunD K x x (defArgs st) (defBody st) (defScope st) [] [] f fd
structure Bi (mg : Str → Option Value) : Prop where
  m_abs : mg "abs" = none
  m_any : mg "any" = none
  m_int : mg "int" = none
  m_len : mg "len" = none
  m_list : mg "list" = none
  m_min : mg "min" = none
  m_range : mg "range" = none
  m_set : mg "set" = none
  m_sorted : mg "sorted" = none
  m_sum : mg "sum" = none
  m_tuple : mg "tuple" = none
  m_zip : mg "zip" = none
section
variable {P : Program} {w : World} {K : PySem.W.Frag} {mg : Str → Option Value} {base : Heap} {f : Addr} {fd : FuncData}
abbrev s_set_of : Stmt := top 1
theorem sc_set_of : FnScope ["things"] ["things"] (defScope s_set_of) := ⟨rfl, rfl, rfl, by decide +kernel, rfl, by decide +kernel, by decide +kernel⟩
theorem bd_set_of (B : Bi mg)  (k : Nat) : ∀ (cdv : Value) (A : Around) (outer : List PySem.Env) (s : Shared) (H : Hp) (E : XK), Room (k + 0) (A.deeper (envOfC "set_of" (defScope s_set_of) s.heap.objs.size f cdv)) → HSs (cxOf CX0 P w K mg base ["things"] "set_of" (defScope s_set_of) f cdv A outer s H E).nox (defBody s_set_of) c_set_of := fun cdv A outer s H E hr => by
  have hu := room64 hr
  have sc := sc_set_of
  unfold c_set_of
  exact (b_one (s_ret (e_ty c_tuple rfl B.m_tuple boot_tuple (ab_cons (L2.PE.hb (e_sortSet rfl hu rfl B.m_sorted rfl B.m_set (e_vB rfl) rfl rfl)) ab_nil rfl) (by decide) rfl rfl rfl)))
theorem ok_set_of (B : Bi mg) (D0 : FnP K "set_of" s_set_of f fd) (gF : mg "set_of" = some (.ref f))  : ∀ k, Cal P w K mg base (k + 1) "set_of" 1 F_set_of := fun k =>
  cal_fn ["things"] ["things"] (k + 0) 1 1 F_set_of c_set_of rfl D0 sc_set_of rfl rfl gF (fun _ _ _ _ _ _ us hl => match us, hl with | [_], _ => rfl) (bd_set_of B  k)
abbrev s_moved : Stmt := top 3
theorem sc_moved : FnScope ["spot", "wind"] ["spot", "wind"] (defScope s_moved) := ⟨rfl, rfl, rfl, by decide +kernel, rfl, by decide +kernel, by decide +kernel⟩
theorem bd_moved (B : Bi mg)  (k : Nat) : ∀ (cdv : Value) (A : Around) (outer : List PySem.Env) (s : Shared) (H : Hp) (E : XK), Room (k + 0) (A.deeper (envOfC "moved" (defScope s_moved) s.heap.objs.size f cdv)) → HSs (cxOf CX0 P w K mg base ["spot", "wind"] "moved" (defScope s_moved) f cdv A outer s H E).nox (defBody s_moved) c_moved := fun cdv A outer s H E hr => by
  have hu := room64 hr
  have sc := sc_moved
  unfold c_moved
  exact (b_one (s_ret (e_tup (a_cons (e_bin op_dAdd (L2.PE.hb (e_idx (e_vB rfl) e_int fun _ _ => rfl)) (L2.PE.hb (e_idx (e_vB rfl) e_int fun _ _ => rfl))) (a_cons (e_bin op_dAdd (L2.PE.hb (e_idx (e_vB rfl) e_int fun _ _ => rfl)) (L2.PE.hb (e_idx (e_vB rfl) e_int fun _ _ => rfl))) a_nil rfl) rfl) (by unfold LIM; decide))))
theorem ok_moved (B : Bi mg) (D0 : FnP K "moved" s_moved f fd) (gF : mg "moved" = some (.ref f))  : ∀ k, Cal P w K mg base (k + 1) "moved" 2 F_moved := fun k =>
  cal_fn ["spot", "wind"] ["spot", "wind"] (k + 0) 2 2 F_moved c_moved rfl D0 sc_moved rfl rfl gF (fun _ _ _ _ _ _ us hl => match us, hl with | [_, _], _ => rfl) (bd_moved B  k)
abbrev s_apart : Stmt := top 5
theorem sc_apart : FnScope ["one", "other"] ["one", "other"] (defScope s_apart) := ⟨rfl, rfl, rfl, by decide +kernel, rfl, by decide +kernel, by decide +kernel⟩
theorem bd_apart (B : Bi mg)  (k : Nat) : ∀ (cdv : Value) (A : Around) (outer : List PySem.Env) (s : Shared) (H : Hp) (E : XK), Room (k + 0) (A.deeper (envOfC "apart" (defScope s_apart) s.heap.objs.size f cdv)) → HSs (cxOf CX0 P w K mg base ["one", "other"] "apart" (defScope s_apart) f cdv A outer s H E).nox (defBody s_apart) c_apart := fun cdv A outer s H E hr => by
  have hu := room64 hr
  have sc := sc_apart
  unfold c_apart
  exact (b_one (s_ret (e_bin op_dAdd (L2.PE.hb (e_bi c_abs rfl B.m_abs boot_abs (ab_cons (L2.PE.hb (e_bin op_dSub (L2.PE.hb (e_idx (e_vB rfl) e_int fun _ _ => rfl)) (L2.PE.hb (e_idx (e_vB rfl) e_int fun _ _ => rfl)))) ab_nil rfl) (by decide) rfl rfl rfl)) (L2.PE.hb (e_bi c_abs rfl B.m_abs boot_abs (ab_cons (L2.PE.hb (e_bin op_dSub (L2.PE.hb (e_idx (e_vB rfl) e_int fun _ _ => rfl)) (L2.PE.hb (e_idx (e_vB rfl) e_int fun _ _ => rfl)))) ab_nil rfl) (by decide) rfl rfl rfl)))))
theorem ok_apart (B : Bi mg) (D0 : FnP K "apart" s_apart f fd) (gF : mg "apart" = some (.ref f))  : ∀ k, Cal P w K mg base (k + 1) "apart" 2 F_apart := fun k =>
  cal_fn ["one", "other"] ["one", "other"] (k + 0) 2 2 F_apart c_apart rfl D0 sc_apart rfl rfl gF (fun _ _ _ _ _ _ us hl => match us, hl with | [_, _], _ => rfl) (bd_apart B  k)
abbrev s_levels_along : Stmt := top 7
theorem sc_levels_along : FnScope ["up", "down", "burst", "rise", "level", "_"] ["up", "down", "burst"] (defScope s_levels_along) := ⟨rfl, rfl, rfl, by decide +kernel, rfl, by decide +kernel, by decide +kernel⟩
theorem bd_levels_along (B : Bi mg)  (k : Nat) : ∀ (cdv : Value) (A : Around) (outer : List PySem.Env) (s : Shared) (H : Hp) (E : XK), Room (k + 0) (A.deeper (envOfC "levels_along" (defScope s_levels_along) s.heap.objs.size f cdv)) → HSs (cxOf CX0 P w K mg base ["up", "down", "burst", "rise", "level", "_"] "levels_along" (defScope s_levels_along) f cdv A outer s H E).nox (defBody s_levels_along) c_levels_along := fun cdv A outer s H E hr => by
  have hu := room64 hr
  have sc := sc_levels_along
  unfold c_levels_along
  exact (b_cons (by first | exact (And.left (s_setLc2 rfl sc.nd rfl rfl (sw_true rfl rfl rfl rfl) (L2.PI.hib (i_rng1 rfl B.m_range (a_cons (e_v rfl) a_nil rfl) rfl)) (blkOk_by (own := [("level", 4), ("_", 5)]) rfl) rfl (by decide) (fun _ _ _ _ _ => (g_name sc.nd rfl (locC_ok rfl) (by first | exact .inl rfl | exact .inr rfl) (by decide))) (fun _ _ _ _ _ => ts_nil) (fun _ _ _ _ _ => (i_rng1 rfl B.m_range (a_cons (e_v rfl) a_nil rfl) rfl)) (fun _ _ _ _ _ => (g_name sc.nd rfl (locC_ok rfl) (by first | exact .inl rfl | exact .inr rfl) (by decide))) (fun _ _ _ _ _ => ts_nil) (fun _ _ _ _ _ => (e_v rfl)) (fun _ => rfl) (fun _ _ => rfl))) | exact (s_set sc.nd rfl (locC_ok rfl) (by first | exact .inl rfl | exact .inr rfl) (L2.PE.he (e_lc2 rfl sc.nd (L2.PI.hib (i_rng1 rfl B.m_range (a_cons (e_v rfl) a_nil rfl) rfl)) (blkOk_by (own := [("level", 4), ("_", 5)]) rfl) rfl (by decide) (fun _ _ _ _ _ => (g_name sc.nd rfl (locC_ok rfl) (by first | exact .inl rfl | exact .inr rfl) (by decide))) (fun _ _ _ _ _ => ts_nil) (fun _ _ _ _ _ => (i_rng1 rfl B.m_range (a_cons (e_v rfl) a_nil rfl) rfl)) (fun _ _ _ _ _ => (g_name sc.nd rfl (locC_ok rfl) (by first | exact .inl rfl | exact .inr rfl) (by decide))) (fun _ _ _ _ _ => ts_nil) (fun _ _ _ _ _ => (e_v rfl)) (fun _ => rfl) (fun _ _ => rfl))) rfl))
    (b_one (s_ret (e_bin op_dAdd (e_vB rfl) (L2.PE.hb (L2.PE.he (e_lc2 rfl sc.nd (L2.PI.hib (i_rng3 rfl B.m_range (a_cons (e_bin op_dSub (e_vB rfl) (L2.PE.hb e_int)) (a_cons (e_un un_dNeg (L2.PE.hb e_int)) (a_cons (e_un un_dNeg (L2.PE.hb e_int)) a_nil rfl) rfl) rfl) rfl rfl)) (blkOk_by (own := [("level", 4), ("_", 5)]) rfl) rfl (by decide) (fun _ _ _ _ _ => (g_name sc.nd rfl (locC_ok rfl) (by first | exact .inl rfl | exact .inr rfl) (by decide))) (fun _ _ _ _ _ => ts_nil) (fun _ _ _ _ _ => (i_rng1 rfl B.m_range (a_cons (e_v rfl) a_nil rfl) rfl)) (fun _ _ _ _ _ => (g_name sc.nd rfl (locC_ok rfl) (by first | exact .inl rfl | exact .inr rfl) (by decide))) (fun _ _ _ _ _ => ts_nil) (fun _ _ _ _ _ => (e_v rfl)) (fun _ => rfl) (fun _ _ => rfl))))))))
theorem ok_levels_along (B : Bi mg) (D0 : FnP K "levels_along" s_levels_along f fd) (gF : mg "levels_along" = some (.ref f))  : ∀ k, Cal P w K mg base (k + 1) "levels_along" 3 F_levels_along := fun k =>
  cal_fn ["up", "down", "burst", "rise", "level", "_"] ["up", "down", "burst"] (k + 0) 6 3 F_levels_along c_levels_along rfl D0 sc_levels_along rfl rfl gF (fun _ _ _ _ _ _ us hl => match us, hl with | [_, _, _], _ => rfl) (bd_levels_along B  k)
abbrev s_flown_sonde : Stmt := top 8
theorem sc_flown_sonde : FnScope ["airs", "spot", "up", "down", "burst", "found", "level"] ["airs", "spot", "up", "down", "burst"] (defScope s_flown_sonde) := ⟨rfl, rfl, rfl, by decide +kernel, rfl, by decide +kernel, by decide +kernel⟩
theorem bd_flown_sonde (B : Bi mg) (C_levels_along : ∀ k, Cal P w K mg base (k + 1) "levels_along" 3 F_levels_along) (C_moved : ∀ k, Cal P w K mg base (k + 1) "moved" 2 F_moved) (k : Nat) : ∀ (cdv : Value) (A : Around) (outer : List PySem.Env) (s : Shared) (H : Hp) (E : XK), Room (k + 1) (A.deeper (envOfC "flown_sonde" (defScope s_flown_sonde) s.heap.objs.size f cdv)) → HSs (cxOf CX0 P w K mg base ["airs", "spot", "up", "down", "burst", "found", "level"] "flown_sonde" (defScope s_flown_sonde) f cdv A outer s H E).nox (defBody s_flown_sonde) c_flown_sonde := fun cdv A outer s H E hr => by
  have hu := room64 hr
  have sc := sc_flown_sonde
  unfold c_flown_sonde
  exact (b_cons (s_own sc.nd rfl (locC_ok rfl) (by first | exact .inl rfl | exact .inr rfl) (f_lst (a_cons (e_v rfl) a_nil rfl) (by unfold LIM; decide)) rfl)
    (b_cons (s_for PassesOwn.never rfl (i_val (e_cal (C_levels_along (k + 0)) hr rfl (a_cons (e_v rfl) (a_cons (e_v rfl) (a_cons (e_v rfl) a_nil rfl) rfl) rfl) rfl rfl rfl rfl)) (gs_name sc.nd rfl (locC_ok rfl) (by first | exact .inl rfl | exact .inr rfl)) (b_one (s_append rfl (visC_ok rfl) rfl rfl (a_cons (e_cal (C_moved (k + 0)) hr rfl (a_cons (e_idx (e_vB rfl) (e_un un_dNeg (L2.PE.hb e_int)) fun _ _ => rfl) (a_cons (e_idx (e_vB rfl) (e_v rfl) fun _ _ => rfl) a_nil rfl) rfl) rfl rfl rfl rfl) a_nil rfl) rfl rfl rfl rfl rfl rfl)) (fun _ => rfl))
    (b_one (s_ret (e_ty c_tuple rfl B.m_tuple boot_tuple (ab_cons (e_vB rfl) ab_nil rfl) (by decide) rfl rfl rfl)))))
theorem ok_flown_sonde (B : Bi mg) (D0 : FnP K "flown_sonde" s_flown_sonde f fd) (gF : mg "flown_sonde" = some (.ref f)) (C_levels_along : ∀ k, Cal P w K mg base (k + 1) "levels_along" 3 F_levels_along) (C_moved : ∀ k, Cal P w K mg base (k + 1) "moved" 2 F_moved) : ∀ k, Cal P w K mg base (k + 2) "flown_sonde" 5 F_flown_sonde := fun k =>
  cal_fn ["airs", "spot", "up", "down", "burst", "found", "level"] ["airs", "spot", "up", "down", "burst"] (k + 1) 7 5 F_flown_sonde c_flown_sonde rfl D0 sc_flown_sonde rfl rfl gF (fun _ _ _ _ _ _ us hl => match us, hl with | [_, _, _, _, _], _ => rfl) (bd_flown_sonde B C_levels_along C_moved k)
abbrev s_lands_at : Stmt := top 9
theorem sc_lands_at : FnScope ["airs", "spot", "up", "down", "burst"] ["airs", "spot", "up", "down", "burst"] (defScope s_lands_at) := ⟨rfl, rfl, rfl, by decide +kernel, rfl, by decide +kernel, by decide +kernel⟩
theorem bd_lands_at (B : Bi mg) (C_flown_sonde : ∀ k, Cal P w K mg base (k + 2) "flown_sonde" 5 F_flown_sonde) (k : Nat) : ∀ (cdv : Value) (A : Around) (outer : List PySem.Env) (s : Shared) (H : Hp) (E : XK), Room (k + 2) (A.deeper (envOfC "lands_at" (defScope s_lands_at) s.heap.objs.size f cdv)) → HSs (cxOf CX0 P w K mg base ["airs", "spot", "up", "down", "burst"] "lands_at" (defScope s_lands_at) f cdv A outer s H E).nox (defBody s_lands_at) c_lands_at := fun cdv A outer s H E hr => by
  have hu := room64 hr
  have sc := sc_lands_at
  unfold c_lands_at
  exact (b_one (s_ret (e_idx (L2.PE.hb (e_cal (C_flown_sonde (k + 0)) hr rfl (a_cons (e_v rfl) (a_cons (e_v rfl) (a_cons (e_v rfl) (a_cons (e_v rfl) (a_cons (e_v rfl) a_nil rfl) rfl) rfl) rfl) rfl) rfl rfl rfl rfl)) (e_un un_dNeg (L2.PE.hb e_int)) fun _ _ => rfl)))
theorem ok_lands_at (B : Bi mg) (D0 : FnP K "lands_at" s_lands_at f fd) (gF : mg "lands_at" = some (.ref f)) (C_flown_sonde : ∀ k, Cal P w K mg base (k + 2) "flown_sonde" 5 F_flown_sonde) : ∀ k, Cal P w K mg base (k + 3) "lands_at" 5 F_lands_at := fun k =>
  cal_fn ["airs", "spot", "up", "down", "burst"] ["airs", "spot", "up", "down", "burst"] (k + 2) 5 5 F_lands_at c_lands_at rfl D0 sc_lands_at rfl rfl gF (fun _ _ _ _ _ _ us hl => match us, hl with | [_, _, _, _, _], _ => rfl) (bd_lands_at B C_flown_sonde k)
abbrev s_burst_for : Stmt := top 10
theorem sc_burst_for : FnScope ["airs", "spot", "up", "down", "goals", "able", "burst"] ["airs", "spot", "up", "down", "goals"] (defScope s_burst_for) := ⟨rfl, rfl, rfl, by decide +kernel, rfl, by decide +kernel, by decide +kernel⟩
theorem bd_burst_for (B : Bi mg) (C_lands_at : ∀ k, Cal P w K mg base (k + 3) "lands_at" 5 F_lands_at) (k : Nat) : ∀ (cdv : Value) (A : Around) (outer : List PySem.Env) (s : Shared) (H : Hp) (E : XK), Room (k + 3) (A.deeper (envOfC "burst_for" (defScope s_burst_for) s.heap.objs.size f cdv)) → HSs (cxOf CX0 P w K mg base ["airs", "spot", "up", "down", "goals", "able", "burst"] "burst_for" (defScope s_burst_for) f cdv A outer s H E).nox (defBody s_burst_for) c_burst_for := fun cdv A outer s H E hr => by
  have hu := room64 hr
  have sc := sc_burst_for
  unfold c_burst_for
  exact (b_cons (by first | exact (And.left (s_setLc rfl sc.nd rfl rfl (sw_true rfl rfl rfl rfl) (L2.PI.hib (i_rng1 rfl B.m_range (a_cons (e_bin op_dAdd (L2.PE.hb (e_bi c_len rfl B.m_len boot_len (ab_cons (e_vB rfl) ab_nil rfl) (by decide) rfl rfl rfl)) (L2.PE.hb e_int)) a_nil rfl) rfl)) (blkOk_by (own := [("burst", 6)]) rfl) rfl (fun _ _ _ _ _ => (g_name sc.nd rfl (locC_ok rfl) (by first | exact .inl rfl | exact .inr rfl) (by decide))) (fun _ _ _ _ _ => (ts_one (t_cmp (op_oIn hu) (L2.PE.hb (e_cal (C_lands_at (k + 0)) hr rfl (a_cons (e_v rfl) (a_cons (e_v rfl) (a_cons (e_v rfl) (a_cons (e_v rfl) (a_cons (e_v rfl) a_nil rfl) rfl) rfl) rfl) rfl) rfl rfl rfl rfl)) (e_vB rfl) rfl))) (fun _ _ _ _ _ => (e_v rfl)) (fun _ => rfl))) | exact (s_set sc.nd rfl (locC_ok rfl) (by first | exact .inl rfl | exact .inr rfl) (L2.PE.he (e_lc rfl sc.nd (L2.PI.hib (i_rng1 rfl B.m_range (a_cons (e_bin op_dAdd (L2.PE.hb (e_bi c_len rfl B.m_len boot_len (ab_cons (e_vB rfl) ab_nil rfl) (by decide) rfl rfl rfl)) (L2.PE.hb e_int)) a_nil rfl) rfl)) (blkOk_by (own := [("burst", 6)]) rfl) rfl (fun _ _ _ _ _ => (g_name sc.nd rfl (locC_ok rfl) (by first | exact .inl rfl | exact .inr rfl) (by decide))) (fun _ _ _ _ _ => (ts_one (t_cmp (op_oIn hu) (L2.PE.hb (e_cal (C_lands_at (k + 0)) hr rfl (a_cons (e_v rfl) (a_cons (e_v rfl) (a_cons (e_v rfl) (a_cons (e_v rfl) (a_cons (e_v rfl) a_nil rfl) rfl) rfl) rfl) rfl) rfl rfl rfl rfl)) (e_vB rfl) rfl))) (fun _ _ _ _ _ => (e_v rfl)) (fun _ => rfl))) rfl))
    (b_one (s_ret (e_ite (t_cmp (op_oNe hu) (e_vB rfl) (L2.PE.hb (L2.PE.he (f_lst a_nil (by unfold LIM; decide)))) rfl) (e_idx (e_vB rfl) e_int fun _ _ => rfl) e_none))))
theorem ok_burst_for (B : Bi mg) (D0 : FnP K "burst_for" s_burst_for f fd) (gF : mg "burst_for" = some (.ref f)) (C_lands_at : ∀ k, Cal P w K mg base (k + 3) "lands_at" 5 F_lands_at) : ∀ k, Cal P w K mg base (k + 4) "burst_for" 5 F_burst_for := fun k =>
  cal_fn ["airs", "spot", "up", "down", "goals", "able", "burst"] ["airs", "spot", "up", "down", "goals"] (k + 3) 7 5 F_burst_for c_burst_for rfl D0 sc_burst_for rfl rfl gF (fun _ _ _ _ _ _ us hl => match us, hl with | [_, _, _, _, _], _ => rfl) (bd_burst_for B C_lands_at k)
abbrev s_search_area : Stmt := top 11
theorem sc_search_area : FnScope ["airs", "spot", "up", "down", "least", "most", "burst"] ["airs", "spot", "up", "down", "least", "most"] (defScope s_search_area) := ⟨rfl, rfl, rfl, by decide +kernel, rfl, by decide +kernel, by decide +kernel⟩
theorem bd_search_area (B : Bi mg) (C_set_of : ∀ k, Cal P w K mg base (k + 1) "set_of" 1 F_set_of) (C_lands_at : ∀ k, Cal P w K mg base (k + 3) "lands_at" 5 F_lands_at) (k : Nat) : ∀ (cdv : Value) (A : Around) (outer : List PySem.Env) (s : Shared) (H : Hp) (E : XK), Room (k + 3) (A.deeper (envOfC "search_area" (defScope s_search_area) s.heap.objs.size f cdv)) → HSs (cxOf CX0 P w K mg base ["airs", "spot", "up", "down", "least", "most", "burst"] "search_area" (defScope s_search_area) f cdv A outer s H E).nox (defBody s_search_area) c_search_area := fun cdv A outer s H E hr => by
  have hu := room64 hr
  have sc := sc_search_area
  unfold c_search_area
  exact (b_one (s_ret (e_cal (C_set_of (k + 2)) hr rfl (a_cons (L2.PE.he (e_lc rfl sc.nd (L2.PI.hib (i_rng2 rfl B.m_range (a_cons (e_v rfl) (a_cons (e_bin op_dAdd (e_vB rfl) (L2.PE.hb e_int)) a_nil rfl) rfl) rfl rfl)) (blkOk_by (own := [("burst", 6)]) rfl) rfl (fun _ _ _ _ _ => (g_name sc.nd rfl (locC_ok rfl) (by first | exact .inl rfl | exact .inr rfl) (by decide))) (fun _ _ _ _ _ => ts_nil) (fun _ _ _ _ _ => (e_cal (C_lands_at (k + 0)) hr rfl (a_cons (e_v rfl) (a_cons (e_v rfl) (a_cons (e_v rfl) (a_cons (e_v rfl) (a_cons (e_v rfl) a_nil rfl) rfl) rfl) rfl) rfl) rfl rfl rfl rfl)) (fun _ => rfl))) a_nil rfl) rfl rfl rfl rfl)))
theorem ok_search_area (B : Bi mg) (D0 : FnP K "search_area" s_search_area f fd) (gF : mg "search_area" = some (.ref f)) (C_set_of : ∀ k, Cal P w K mg base (k + 1) "set_of" 1 F_set_of) (C_lands_at : ∀ k, Cal P w K mg base (k + 3) "lands_at" 5 F_lands_at) : ∀ k, Cal P w K mg base (k + 4) "search_area" 6 F_search_area := fun k =>
  cal_fn ["airs", "spot", "up", "down", "least", "most", "burst"] ["airs", "spot", "up", "down", "least", "most"] (k + 3) 7 6 F_search_area c_search_area rfl D0 sc_search_area rfl rfl gF (fun _ _ _ _ _ _ us hl => match us, hl with | [_, _, _, _, _, _], _ => rfl) (bd_search_area B C_set_of C_lands_at k)
abbrev s_airs_seen : Stmt := top 12
theorem sc_airs_seen : FnScope ["way", "up", "gaps", "found", "level", "own", "one", "other", "gap"] ["way", "up"] (defScope s_airs_seen) := ⟨rfl, rfl, rfl, by decide +kernel, rfl, by decide +kernel, by decide +kernel⟩
theorem bd_airs_seen (B : Bi mg)  (k : Nat) : ∀ (cdv : Value) (A : Around) (outer : List PySem.Env) (s : Shared) (H : Hp) (E : XK), Room (k + 0) (A.deeper (envOfC "airs_seen" (defScope s_airs_seen) s.heap.objs.size f cdv)) → HSs (cxOf CX0 P w K mg base ["way", "up", "gaps", "found", "level", "own", "one", "other", "gap"] "airs_seen" (defScope s_airs_seen) f cdv A outer s H E).nox (defBody s_airs_seen) c_airs_seen := fun cdv A outer s H E hr => by
  have hu := room64 hr
  have sc := sc_airs_seen
  unfold c_airs_seen
  exact (b_cons (by first | exact (And.left (s_setLc rfl sc.nd rfl rfl (sw_true rfl rfl rfl rfl) (i_zipB rfl B.m_zip (ab_cons (e_vB rfl) (ab_cons (L2.PE.hb (e_slc (e_vB rfl) (o_some e_int) o_none)) ab_nil rfl) rfl) rfl rfl) (blkOk_by (own := [("one", 6), ("other", 7)]) rfl) rfl (fun _ _ _ _ _ => (g_tup rfl (gs_cons (g_name sc.nd rfl (locC_ok rfl) (by first | exact .inl rfl | exact .inr rfl) (by decide)) (gs_cons (g_name sc.nd rfl (locC_ok rfl) (by first | exact .inl rfl | exact .inr rfl) (by decide)) gs_nil rfl) rfl) rfl rfl)) (fun _ _ _ _ _ => ts_nil) (fun _ _ _ _ _ => (e_tup (a_cons (e_bin op_dSub (L2.PE.hb (e_idx (e_vB rfl) e_int fun _ _ => rfl)) (L2.PE.hb (e_idx (e_vB rfl) e_int fun _ _ => rfl))) (a_cons (e_bin op_dSub (L2.PE.hb (e_idx (e_vB rfl) e_int fun _ _ => rfl)) (L2.PE.hb (e_idx (e_vB rfl) e_int fun _ _ => rfl))) a_nil rfl) rfl) (by unfold LIM; decide))) (fun _ => rfl))) | exact (s_set sc.nd rfl (locC_ok rfl) (by first | exact .inl rfl | exact .inr rfl) (L2.PE.he (e_lc rfl sc.nd (i_zipB rfl B.m_zip (ab_cons (e_vB rfl) (ab_cons (L2.PE.hb (e_slc (e_vB rfl) (o_some e_int) o_none)) ab_nil rfl) rfl) rfl rfl) (blkOk_by (own := [("one", 6), ("other", 7)]) rfl) rfl (fun _ _ _ _ _ => (g_tup rfl (gs_cons (g_name sc.nd rfl (locC_ok rfl) (by first | exact .inl rfl | exact .inr rfl) (by decide)) (gs_cons (g_name sc.nd rfl (locC_ok rfl) (by first | exact .inl rfl | exact .inr rfl) (by decide)) gs_nil rfl) rfl) rfl rfl)) (fun _ _ _ _ _ => ts_nil) (fun _ _ _ _ _ => (e_tup (a_cons (e_bin op_dSub (L2.PE.hb (e_idx (e_vB rfl) e_int fun _ _ => rfl)) (L2.PE.hb (e_idx (e_vB rfl) e_int fun _ _ => rfl))) (a_cons (e_bin op_dSub (L2.PE.hb (e_idx (e_vB rfl) e_int fun _ _ => rfl)) (L2.PE.hb (e_idx (e_vB rfl) e_int fun _ _ => rfl))) a_nil rfl) rfl) (by unfold LIM; decide))) (fun _ => rfl))) rfl))
    (b_cons (s_own sc.nd rfl (locC_ok rfl) (by first | exact .inl rfl | exact .inr rfl) (f_lst a_nil (by unfold LIM; decide)) rfl)
    (b_cons (s_for PassesOwn.never rfl (i_rng1 rfl B.m_range (a_cons (e_bin op_dFdiv (L2.PE.hb (e_bi c_len rfl B.m_len boot_len (ab_cons (e_vB rfl) ab_nil rfl) (by decide) rfl rfl rfl)) (e_vB rfl)) a_nil rfl) rfl) (gs_name sc.nd rfl (locC_ok rfl) (by first | exact .inl rfl | exact .inr rfl)) (b_cons (s_set sc.nd rfl (locC_ok rfl) (by first | exact .inl rfl | exact .inr rfl) (e_slc (e_vB rfl) (o_some (e_bin op_dMul (e_vB rfl) (e_vB rfl))) (o_some (e_bin op_dMul (L2.PE.hb (e_bin op_dAdd (e_vB rfl) (L2.PE.hb e_int))) (e_vB rfl)))) rfl)
    (b_cons (s_if (t_val (e_bi (c_any rfl) rfl B.m_any boot_any (ab_cons (L2.PE.hb (L2.PE.he (e_lc rfl sc.nd (i_valB (e_vB rfl)) (blkOk_by (own := [("gap", 8)]) rfl) rfl (fun _ _ _ _ _ => (g_name sc.nd rfl (locC_ok rfl) (by first | exact .inl rfl | exact .inr rfl) (by decide))) (fun _ _ _ _ _ => ts_nil) (fun _ _ _ _ _ => (e_cmp (op_oNe hu) (e_vB rfl) (L2.PE.hb (e_idx (e_vB rfl) e_int fun _ _ => rfl)) rfl)) (fun _ => rfl)))) ab_nil rfl) (by decide) rfl rfl rfl) fun _ => rfl) (b_one (s_ret e_none)) b_nil)
    (b_one (s_append rfl (visC_ok rfl) rfl rfl (a_cons (e_idx (e_vB rfl) e_int fun _ _ => rfl) a_nil rfl) rfl rfl rfl rfl rfl rfl)))) (fun _ => rfl))
    (b_one (s_ret (e_ty c_tuple rfl B.m_tuple boot_tuple (ab_cons (e_vB rfl) ab_nil rfl) (by decide) rfl rfl rfl))))))
theorem ok_airs_seen (B : Bi mg) (D0 : FnP K "airs_seen" s_airs_seen f fd) (gF : mg "airs_seen" = some (.ref f))  : ∀ k, Cal P w K mg base (k + 1) "airs_seen" 2 F_airs_seen := fun k =>
  cal_fn ["way", "up", "gaps", "found", "level", "own", "one", "other", "gap"] ["way", "up"] (k + 0) 9 2 F_airs_seen c_airs_seen rfl D0 sc_airs_seen rfl rfl gF (fun _ _ _ _ _ _ us hl => match us, hl with | [_, _], _ => rfl) (bd_airs_seen B  k)
abbrev s_best_post : Stmt := top 13
theorem sc_best_post : FnScope ["airs", "spots", "up", "down", "burst", "goal", "spot"] ["airs", "spots", "up", "down", "burst", "goal"] (defScope s_best_post) := ⟨rfl, rfl, rfl, by decide +kernel, rfl, by decide +kernel, by decide +kernel⟩
theorem bd_best_post (B : Bi mg) (C_apart : ∀ k, Cal P w K mg base (k + 1) "apart" 2 F_apart) (C_lands_at : ∀ k, Cal P w K mg base (k + 3) "lands_at" 5 F_lands_at) (k : Nat) : ∀ (cdv : Value) (A : Around) (outer : List PySem.Env) (s : Shared) (H : Hp) (E : XK), Room (k + 3) (A.deeper (envOfC "best_post" (defScope s_best_post) s.heap.objs.size f cdv)) → HSs (cxOf CX0 P w K mg base ["airs", "spots", "up", "down", "burst", "goal", "spot"] "best_post" (defScope s_best_post) f cdv A outer s H E).nox (defBody s_best_post) c_best_post := fun cdv A outer s H E hr => by
  have hu := room64 hr
  have sc := sc_best_post
  unfold c_best_post
  exact (b_one (s_ret (e_bi (c_min rfl hu) rfl B.m_min boot_min (ab_cons (L2.PE.hb (L2.PE.he (e_lc rfl sc.nd (i_valB (e_vB rfl)) (blkOk_by (own := [("spot", 6)]) rfl) rfl (fun _ _ _ _ _ => (g_name sc.nd rfl (locC_ok rfl) (by first | exact .inl rfl | exact .inr rfl) (by decide))) (fun _ _ _ _ _ => ts_nil) (fun _ _ _ _ _ => (e_tup (a_cons (e_cal (C_apart (k + 2)) hr rfl (a_cons (e_cal (C_lands_at (k + 0)) hr rfl (a_cons (e_v rfl) (a_cons (e_v rfl) (a_cons (e_v rfl) (a_cons (e_v rfl) (a_cons (e_v rfl) a_nil rfl) rfl) rfl) rfl) rfl) rfl rfl rfl rfl) (a_cons (e_v rfl) a_nil rfl) rfl) rfl rfl rfl rfl) (a_cons (e_v rfl) a_nil rfl) rfl) (by unfold LIM; decide))) (fun _ => rfl)))) ab_nil rfl) (by decide) rfl rfl rfl)))
theorem ok_best_post (B : Bi mg) (D0 : FnP K "best_post" s_best_post f fd) (gF : mg "best_post" = some (.ref f)) (C_apart : ∀ k, Cal P w K mg base (k + 1) "apart" 2 F_apart) (C_lands_at : ∀ k, Cal P w K mg base (k + 3) "lands_at" 5 F_lands_at) : ∀ k, Cal P w K mg base (k + 4) "best_post" 6 F_best_post := fun k =>
  cal_fn ["airs", "spots", "up", "down", "burst", "goal", "spot"] ["airs", "spots", "up", "down", "burst", "goal"] (k + 3) 7 6 F_best_post c_best_post rfl D0 sc_best_post rfl rfl gF (fun _ _ _ _ _ _ us hl => match us, hl with | [_, _, _, _, _, _], _ => rfl) (bd_best_post B C_apart C_lands_at k)
abbrev s_highest_by : Stmt := top 14
theorem sc_highest_by : FnScope ["up", "minutes"] ["up", "minutes"] (defScope s_highest_by) := ⟨rfl, rfl, rfl, by decide +kernel, rfl, by decide +kernel, by decide +kernel⟩
theorem bd_highest_by (B : Bi mg)  (k : Nat) : ∀ (cdv : Value) (A : Around) (outer : List PySem.Env) (s : Shared) (H : Hp) (E : XK), Room (k + 0) (A.deeper (envOfC "highest_by" (defScope s_highest_by) s.heap.objs.size f cdv)) → HSs (cxOf CX0 P w K mg base ["up", "minutes"] "highest_by" (defScope s_highest_by) f cdv A outer s H E).nox (defBody s_highest_by) c_highest_by := fun cdv A outer s H E hr => by
  have hu := room64 hr
  have sc := sc_highest_by
  unfold c_highest_by
  exact (b_one (s_ret (e_bin op_dFdiv (e_vB rfl) (e_vB rfl))))
theorem ok_highest_by (B : Bi mg) (D0 : FnP K "highest_by" s_highest_by f fd) (gF : mg "highest_by" = some (.ref f))  : ∀ k, Cal P w K mg base (k + 1) "highest_by" 2 F_highest_by := fun k =>
  cal_fn ["up", "minutes"] ["up", "minutes"] (k + 0) 2 2 F_highest_by c_highest_by rfl D0 sc_highest_by rfl rfl gF (fun _ _ _ _ _ _ us hl => match us, hl with | [_, _], _ => rfl) (bd_highest_by B  k)
abbrev s_same_landing : Stmt := top 15
theorem sc_same_landing : FnScope ["airs", "up", "down", "one", "other"] ["airs", "up", "down", "one", "other"] (defScope s_same_landing) := ⟨rfl, rfl, rfl, by decide +kernel, rfl, by decide +kernel, by decide +kernel⟩
theorem bd_same_landing (B : Bi mg) (C_lands_at : ∀ k, Cal P w K mg base (k + 3) "lands_at" 5 F_lands_at) (k : Nat) : ∀ (cdv : Value) (A : Around) (outer : List PySem.Env) (s : Shared) (H : Hp) (E : XK), Room (k + 3) (A.deeper (envOfC "same_landing" (defScope s_same_landing) s.heap.objs.size f cdv)) → HSs (cxOf CX0 P w K mg base ["airs", "up", "down", "one", "other"] "same_landing" (defScope s_same_landing) f cdv A outer s H E).nox (defBody s_same_landing) c_same_landing := fun cdv A outer s H E hr => by
  have hu := room64 hr
  have sc := sc_same_landing
  unfold c_same_landing
  exact (b_one (s_ret (e_cmp (op_oEq hu) (L2.PE.hb (e_cal (C_lands_at (k + 0)) hr rfl (a_cons (e_v rfl) (a_cons (e_tup (a_cons e_int (a_cons e_int a_nil rfl) rfl) (by unfold LIM; decide)) (a_cons (e_v rfl) (a_cons (e_v rfl) (a_cons (e_v rfl) a_nil rfl) rfl) rfl) rfl) rfl) rfl rfl rfl rfl)) (L2.PE.hb (e_cal (C_lands_at (k + 0)) hr rfl (a_cons (e_v rfl) (a_cons (e_tup (a_cons e_int (a_cons e_int a_nil rfl) rfl) (by unfold LIM; decide)) (a_cons (e_v rfl) (a_cons (e_v rfl) (a_cons (e_v rfl) a_nil rfl) rfl) rfl) rfl) rfl) rfl rfl rfl rfl)) rfl)))
theorem ok_same_landing (B : Bi mg) (D0 : FnP K "same_landing" s_same_landing f fd) (gF : mg "same_landing" = some (.ref f)) (C_lands_at : ∀ k, Cal P w K mg base (k + 3) "lands_at" 5 F_lands_at) : ∀ k, Cal P w K mg base (k + 4) "same_landing" 5 F_same_landing := fun k =>
  cal_fn ["airs", "up", "down", "one", "other"] ["airs", "up", "down", "one", "other"] (k + 3) 5 5 F_same_landing c_same_landing rfl D0 sc_same_landing rfl rfl gF (fun _ _ _ _ _ _ us hl => match us, hl with | [_, _, _, _, _], _ => rfl) (bd_same_landing B C_lands_at k)
abbrev s_law_draws : Stmt := top 17
theorem sc_law_draws : FnScope ["script", "many", "draws", "mixed", "k", "cell", "rest", "turn"] ["script", "many"] (defScope s_law_draws) := ⟨rfl, rfl, rfl, by decide +kernel, rfl, by decide +kernel, by decide +kernel⟩
theorem bd_law_draws (B : Bi mg)  (k : Nat) : ∀ (cdv : Value) (A : Around) (outer : List PySem.Env) (s : Shared) (H : Hp) (E : XK), Room (k + 0) (A.deeper (envOfC "_law_draws" (defScope s_law_draws) s.heap.objs.size f cdv)) → HSs (cxOf CX0 P w K mg base ["script", "many", "draws", "mixed", "k", "cell", "rest", "turn"] "_law_draws" (defScope s_law_draws) f cdv A outer s H E).nox (defBody s_law_draws) c_law_draws := fun cdv A outer s H E hr => by
  have hu := room64 hr
  have sc := sc_law_draws
  unfold c_law_draws
  exact (b_cons (s_own sc.nd rfl (locC_ok rfl) (by first | exact .inl rfl | exact .inr rfl) (f_lst a_nil (by unfold LIM; decide)) rfl)
    (b_cons (s_set sc.nd rfl (locC_ok rfl) (by first | exact .inl rfl | exact .inr rfl) e_int rfl)
    (b_cons (s_for PassesOwn.never rfl (i_rng1 rfl B.m_range (a_cons (e_bi c_len rfl B.m_len boot_len (ab_cons (e_vB rfl) ab_nil rfl) (by decide) rfl rfl rfl) a_nil rfl) rfl) (gs_name sc.nd rfl (locC_ok rfl) (by first | exact .inl rfl | exact .inr rfl)) (b_cons (s_set sc.nd rfl (locC_ok rfl) (by first | exact .inl rfl | exact .inr rfl) (e_bi c_abs rfl B.m_abs boot_abs (ab_cons (L2.PE.hb (e_ty c_int rfl B.m_int boot_int (ab_cons (L2.PE.hb (e_idx (e_vB rfl) (e_v rfl) fun _ _ => rfl)) ab_nil rfl) (by decide) rfl rfl rfl)) ab_nil rfl) (by decide) rfl rfl rfl) rfl)
    (b_cons (s_set sc.nd rfl (locC_ok rfl) (by first | exact .inl rfl | exact .inr rfl) (e_bin op_dMod (L2.PE.hb (e_ty c_int rfl B.m_int boot_int (ab_cons (L2.PE.hb (e_bin op_dAdd (L2.PE.hb (e_bin op_dAdd (L2.PE.hb (e_bin op_dMul (e_vB rfl) (L2.PE.hb e_int))) (L2.PE.hb (e_bin op_dMod (e_vB rfl) (L2.PE.hb e_int))))) (e_vB rfl))) ab_nil rfl) (by decide) rfl rfl rfl)) (L2.PE.hb e_int)) rfl)
    (b_cons (s_set sc.nd rfl (locC_ok rfl) (by first | exact .inl rfl | exact .inr rfl) e_int rfl)
    (b_cons (s_if (t_cmp (op_oGe hu) (e_vB rfl) (L2.PE.hb (e_bin op_dPow (L2.PE.hb e_int) (L2.PE.hb e_int))) rfl) (b_one (s_set sc.nd rfl (locC_ok rfl) (by first | exact .inl rfl | exact .inr rfl) (e_v rfl) rfl)) (b_cons (s_append rfl (visC_ok rfl) rfl rfl (a_cons (e_bin op_dMod (L2.PE.hb (e_ty c_int rfl B.m_int boot_int (ab_cons (e_vB rfl) ab_nil rfl) (by decide) rfl rfl rfl)) (L2.PE.hb e_int)) a_nil rfl) rfl rfl rfl rfl rfl rfl)
    (b_one (s_append rfl (visC_ok rfl) rfl rfl (a_cons (e_bin op_dMod (L2.PE.hb (e_bin op_dMod (L2.PE.hb (e_ty c_int rfl B.m_int boot_int (ab_cons (L2.PE.hb (e_bin op_dAdd (L2.PE.hb (e_bin op_dMul (e_vB rfl) (L2.PE.hb e_int))) (L2.PE.hb e_int))) ab_nil rfl) (by decide) rfl rfl rfl)) (L2.PE.hb e_int))) (L2.PE.hb e_int)) a_nil rfl) rfl rfl rfl rfl rfl rfl))))
    (b_one (s_for PassesOwn.never rfl (i_rng1 rfl B.m_range (a_cons e_int a_nil rfl) rfl) (gs_name sc.nd rfl (locC_ok rfl) (by first | exact .inl rfl | exact .inr rfl)) (b_one (s_if (t_cmp (op_oGt hu) (e_vB rfl) (L2.PE.hb e_int) rfl) (b_cons (s_append rfl (visC_ok rfl) rfl rfl (a_cons (e_bin op_dMod (L2.PE.hb (e_ty c_int rfl B.m_int boot_int (ab_cons (e_vB rfl) ab_nil rfl) (by decide) rfl rfl rfl)) (L2.PE.hb e_int)) a_nil rfl) rfl rfl rfl rfl rfl rfl)
    (b_one (s_set sc.nd rfl (locC_ok rfl) (by first | exact .inl rfl | exact .inr rfl) (e_bin op_dFdiv (e_vB rfl) (L2.PE.hb e_int)) rfl))) b_nil)) (fun _ => rfl))))))) (fun _ => rfl))
    (b_cons (s_for PassesOwn.never rfl (i_rng1 rfl B.m_range (a_cons (e_v rfl) a_nil rfl) rfl) (gs_name sc.nd rfl (locC_ok rfl) (by first | exact .inl rfl | exact .inr rfl)) (b_cons (s_set sc.nd rfl (locC_ok rfl) (by first | exact .inl rfl | exact .inr rfl) (e_bin op_dMod (L2.PE.hb (e_ty c_int rfl B.m_int boot_int (ab_cons (L2.PE.hb (e_bin op_dAdd (L2.PE.hb (e_bin op_dAdd (L2.PE.hb (e_bin op_dMul (e_vB rfl) (L2.PE.hb e_int))) (e_vB rfl))) (L2.PE.hb e_int))) ab_nil rfl) (by decide) rfl rfl rfl)) (L2.PE.hb e_int)) rfl)
    (b_one (s_append rfl (visC_ok rfl) rfl rfl (a_cons (e_bin op_dMod (L2.PE.hb (e_ty c_int rfl B.m_int boot_int (ab_cons (e_vB rfl) ab_nil rfl) (by decide) rfl rfl rfl)) (L2.PE.hb e_int)) a_nil rfl) rfl rfl rfl rfl rfl rfl))) (fun _ => rfl))
    (b_one (s_ret (e_slc (e_vB rfl) o_none (o_some (e_v rfl)))))))))
theorem ok_law_draws (B : Bi mg) (D0 : FnP K "_law_draws" s_law_draws f fd) (gF : mg "_law_draws" = some (.ref f))  : ∀ k, Cal P w K mg base (k + 1) "_law_draws" 2 F_law_draws := fun k =>
  cal_fn ["script", "many", "draws", "mixed", "k", "cell", "rest", "turn"] ["script", "many"] (k + 0) 8 2 F_law_draws c_law_draws rfl D0 sc_law_draws rfl rfl gF (fun _ _ _ _ _ _ us hl => match us, hl with | [_, _], _ => rfl) (bd_law_draws B  k)
abbrev s_law_next : Stmt := top 18
theorem sc_law_next : FnScope ["w", "many"] ["w", "many"] (defScope s_law_next) := ⟨rfl, rfl, rfl, by decide +kernel, rfl, by decide +kernel, by decide +kernel⟩
theorem ok_law_next (B : Bi mg) (D0 : FnP K "_law_next" s_law_next f fd) (gF : mg "_law_next" = some (.ref f))  : ∀ k, Cal P w K mg base (k + 1) "_law_next" 2 F_law_next := fun k =>
  cal_of D0 (next_fn (k := k + 0) D0 sc_law_next fun cdv A outer s H E hr => next_ok (room64 hr) rfl rfl rfl (visC_ok rfl) (visC_ok rfl) rfl rfl B.m_len B.m_int rfl rfl) gF rfl (fun _ _ _ _ _ _ us hl => match us, hl with | [_, _], _ => rfl)
abbrev s_law_pick : Stmt := top 19
theorem sc_law_pick : FnScope ["w", "rows"] ["w", "rows"] (defScope s_law_pick) := ⟨rfl, rfl, rfl, by decide +kernel, rfl, by decide +kernel, by decide +kernel⟩
theorem bd_law_pick (B : Bi mg) (C_law_next : ∀ k, Cal P w K mg base (k + 1) "_law_next" 2 F_law_next) (k : Nat) : ∀ (cdv : Value) (A : Around) (outer : List PySem.Env) (s : Shared) (H : Hp) (E : XK), Room (k + 1) (A.deeper (envOfC "_law_pick" (defScope s_law_pick) s.heap.objs.size f cdv)) → HSs (cxOf CX0 P w K mg base ["w", "rows"] "_law_pick" (defScope s_law_pick) f cdv A outer s H E).nox (defBody s_law_pick) c_law_pick := fun cdv A outer s H E hr => by
  have hu := room64 hr
  have sc := sc_law_pick
  unfold c_law_pick
  exact (b_one (s_ret (e_idx (e_vB rfl) (e_cal (C_law_next (k + 0)) hr rfl (a_cons (e_v rfl) (a_cons (e_bi c_len rfl B.m_len boot_len (ab_cons (e_vB rfl) ab_nil rfl) (by decide) rfl rfl rfl) a_nil rfl) rfl) rfl rfl rfl rfl) fun _ _ => rfl)))
theorem ok_law_pick (B : Bi mg) (D0 : FnP K "_law_pick" s_law_pick f fd) (gF : mg "_law_pick" = some (.ref f)) (C_law_next : ∀ k, Cal P w K mg base (k + 1) "_law_next" 2 F_law_next) : ∀ k, Cal P w K mg base (k + 2) "_law_pick" 2 F_law_pick := fun k =>
  cal_fn ["w", "rows"] ["w", "rows"] (k + 1) 2 2 F_law_pick c_law_pick rfl D0 sc_law_pick rfl rfl gF (fun _ _ _ _ _ _ us hl => match us, hl with | [_, _], _ => rfl) (bd_law_pick B C_law_next k)
abbrev s_law_sonde : Stmt := top 20
theorem sc_law_sonde : FnScope ["airs", "spot", "up", "down", "burst", "found", "levels", "k"] ["airs", "spot", "up", "down", "burst"] (defScope s_law_sonde) := ⟨rfl, rfl, rfl, by decide +kernel, rfl, by decide +kernel, by decide +kernel⟩
theorem bd_law_sonde (B : Bi mg)  (k : Nat) : ∀ (cdv : Value) (A : Around) (outer : List PySem.Env) (s : Shared) (H : Hp) (E : XK), Room (k + 0) (A.deeper (envOfC "_law_sonde" (defScope s_law_sonde) s.heap.objs.size f cdv)) → HSs (cxOf CX0 P w K mg base ["airs", "spot", "up", "down", "burst", "found", "levels", "k"] "_law_sonde" (defScope s_law_sonde) f cdv A outer s H E).nox (defBody s_law_sonde) c_law_sonde := fun cdv A outer s H E hr => by
  have hu := room64 hr
  have sc := sc_law_sonde
  unfold c_law_sonde
  exact (b_cons (s_own sc.nd rfl (locC_ok rfl) (by first | exact .inl rfl | exact .inr rfl) (f_lst (a_cons (e_v rfl) a_nil rfl) (by unfold LIM; decide)) rfl)
    (b_cons (s_set sc.nd rfl (locC_ok rfl) (by first | exact .inl rfl | exact .inr rfl) (e_bin op_dAdd (L2.PE.hb (e_sumL rfl rfl B.m_sum (L2.PE.hb (L2.PE.he (e_lc rfl sc.nd (L2.PI.hib (i_rng1 rfl B.m_range (a_cons (e_v rfl) a_nil rfl) rfl)) (blkOk_by (own := [("k", 7)]) rfl) rfl (fun _ _ _ _ _ => (g_name sc.nd rfl (locC_ok rfl) (by first | exact .inl rfl | exact .inr rfl) (by decide))) (fun _ _ _ _ _ => ts_nil) (fun _ _ _ _ _ => (e_bin op_dMul (L2.PE.hb (L2.PE.he (f_lst (a_cons (e_v rfl) a_nil rfl) (by unfold LIM; decide)))) (e_vB rfl))) (fun _ => rfl)))) rfl rfl rfl)) (L2.PE.hb (e_sumL rfl rfl B.m_sum (L2.PE.hb (e_rev (L2.PE.hb (L2.PE.he (e_lc rfl sc.nd (L2.PI.hib (i_rng1 rfl B.m_range (a_cons (e_v rfl) a_nil rfl) rfl)) (blkOk_by (own := [("k", 7)]) rfl) rfl (fun _ _ _ _ _ => (g_name sc.nd rfl (locC_ok rfl) (by first | exact .inl rfl | exact .inr rfl) (by decide))) (fun _ _ _ _ _ => ts_nil) (fun _ _ _ _ _ => (e_bin op_dMul (L2.PE.hb (L2.PE.he (f_lst (a_cons (e_v rfl) a_nil rfl) (by unfold LIM; decide)))) (e_vB rfl))) (fun _ => rfl)))))) rfl rfl rfl))) rfl)
    (b_cons (s_for PassesOwn.never rfl (i_val (e_v rfl)) (gs_name sc.nd rfl (locC_ok rfl) (by first | exact .inl rfl | exact .inr rfl)) (b_one (s_append rfl (visC_ok rfl) rfl rfl (a_cons (e_tup (a_cons (e_bin op_dAdd (L2.PE.hb (e_idx (L2.PE.hb (e_idx (e_vB rfl) (e_un un_dNeg (L2.PE.hb e_int)) fun _ _ => rfl)) e_int fun _ _ => rfl)) (L2.PE.hb (e_idx (L2.PE.hb (e_idx (e_vB rfl) (e_v rfl) fun _ _ => rfl)) e_int fun _ _ => rfl))) (a_cons (e_bin op_dAdd (L2.PE.hb (e_idx (L2.PE.hb (e_idx (e_vB rfl) (e_un un_dNeg (L2.PE.hb e_int)) fun _ _ => rfl)) e_int fun _ _ => rfl)) (L2.PE.hb (e_idx (L2.PE.hb (e_idx (e_vB rfl) (e_v rfl) fun _ _ => rfl)) e_int fun _ _ => rfl))) a_nil rfl) rfl) (by unfold LIM; decide)) a_nil rfl) rfl rfl rfl rfl rfl rfl)) (fun _ => rfl))
    (b_one (s_fz (s_ret (e_v rfl)))))))
theorem ok_law_sonde (B : Bi mg) (D0 : FnP K "_law_sonde" s_law_sonde f fd) (gF : mg "_law_sonde" = some (.ref f))  : ∀ k, Cal P w K mg base (k + 1) "_law_sonde" 5 F_law_sonde := fun k =>
  cal_fn ["airs", "spot", "up", "down", "burst", "found", "levels", "k"] ["airs", "spot", "up", "down", "burst"] (k + 0) 8 5 F_law_sonde c_law_sonde rfl D0 sc_law_sonde rfl rfl gF (fun _ _ _ _ _ _ us hl => match us, hl with | [_, _, _, _, _], _ => rfl) (bd_law_sonde B  k)
abbrev s_law_holds : Stmt := top 21
theorem sc_law_holds : FnScope ["w", "airs", "spot", "up", "down", "burst", "way", "ends", "goals", "able", "least", "most", "rise", "spots", "goal", "offs", "own", "x", "y", "k"] ["w"] (defScope s_law_holds) := ⟨rfl, rfl, rfl, by decide +kernel, rfl, by decide +kernel, by decide +kernel⟩
theorem bd_law_holds (B : Bi mg) (C_law_sonde : ∀ k, Cal P w K mg base (k + 1) "_law_sonde" 5 F_law_sonde) (C_law_next : ∀ k, Cal P w K mg base (k + 1) "_law_next" 2 F_law_next) (C_burst_for : ∀ k, Cal P w K mg base (k + 4) "burst_for" 5 F_burst_for) (C_best_post : ∀ k, Cal P w K mg base (k + 4) "best_post" 6 F_best_post) (C_flown_sonde : ∀ k, Cal P w K mg base (k + 2) "flown_sonde" 5 F_flown_sonde) (C_lands_at : ∀ k, Cal P w K mg base (k + 3) "lands_at" 5 F_lands_at) (C_search_area : ∀ k, Cal P w K mg base (k + 4) "search_area" 6 F_search_area) (C_airs_seen : ∀ k, Cal P w K mg base (k + 1) "airs_seen" 2 F_airs_seen) (C_highest_by : ∀ k, Cal P w K mg base (k + 1) "highest_by" 2 F_highest_by) (C_same_landing : ∀ k, Cal P w K mg base (k + 4) "same_landing" 5 F_same_landing) (C_law_pick : ∀ k, Cal P w K mg base (k + 2) "_law_pick" 2 F_law_pick) (k : Nat) : ∀ (cdv : Value) (A : Around) (outer : List PySem.Env) (s : Shared) (H : Hp) (E : XK), Room (k + 4) (A.deeper (envOfC "_law_holds" (defScope s_law_holds) s.heap.objs.size f cdv)) → HSs (cxOf CX0 P w K mg base ["w", "airs", "spot", "up", "down", "burst", "way", "ends", "goals", "able", "least", "most", "rise", "spots", "goal", "offs", "own", "x", "y", "k"] "_law_holds" (defScope s_law_holds) f cdv A outer s H E).nox (defBody s_law_holds) c_law_holds := fun cdv A outer s H E hr => by
  have hu := room64 hr
  have sc := sc_law_holds
  unfold c_law_holds
  exact (b_cons (s_set sc.nd rfl (locC_ok rfl) (by first | exact .inl rfl | exact .inr rfl) (e_ty c_tuple rfl B.m_tuple boot_tuple (ab_cons (L2.PE.hb (L2.PE.he (e_lc rfl sc.nd (L2.PI.hib (i_rng1 rfl B.m_range (a_cons (e_bin op_dAdd (L2.PE.hb e_int) (L2.PE.hb (e_cal (C_law_next (k + 3)) hr rfl (a_cons (e_v rfl) (a_cons e_int a_nil rfl) rfl) rfl rfl rfl rfl))) a_nil rfl) rfl)) (blkOk_by (own := [("k", 19)]) rfl) rfl (fun _ _ _ _ _ => (g_name sc.nd rfl (locC_ok rfl) (by first | exact .inl rfl | exact .inr rfl) (by decide))) (fun _ _ _ _ _ => ts_nil) (fun _ _ _ _ _ => (e_tup (a_cons (e_bin op_dSub (L2.PE.hb (e_cal (C_law_next (k + 3)) hr rfl (a_cons (e_v rfl) (a_cons e_int a_nil rfl) rfl) rfl rfl rfl rfl)) (L2.PE.hb e_int)) (a_cons (e_bin op_dSub (L2.PE.hb (e_cal (C_law_next (k + 3)) hr rfl (a_cons (e_v rfl) (a_cons e_int a_nil rfl) rfl) rfl rfl rfl rfl)) (L2.PE.hb e_int)) a_nil rfl) rfl) (by unfold LIM; decide))) (fun _ => rfl)))) ab_nil rfl) (by decide) rfl rfl rfl) rfl)
    (b_cons (s_parN rfl rfl (p_cons (e_tup (a_cons (e_cal (C_law_next (k + 3)) hr rfl (a_cons (e_v rfl) (a_cons e_int a_nil rfl) rfl) rfl rfl rfl rfl) (a_cons (e_cal (C_law_next (k + 3)) hr rfl (a_cons (e_v rfl) (a_cons e_int a_nil rfl) rfl) rfl rfl rfl rfl) a_nil rfl) rfl) (by unfold LIM; decide)) (p_cons (e_bin op_dAdd (L2.PE.hb e_int) (L2.PE.hb (e_cal (C_law_next (k + 3)) hr rfl (a_cons (e_v rfl) (a_cons e_int a_nil rfl) rfl) rfl rfl rfl rfl))) (p_cons (e_bin op_dAdd (L2.PE.hb e_int) (L2.PE.hb (e_cal (C_law_next (k + 3)) hr rfl (a_cons (e_v rfl) (a_cons e_int a_nil rfl) rfl) rfl rfl rfl rfl))) (p_cons (e_cal (C_law_next (k + 3)) hr rfl (a_cons (e_v rfl) (a_cons (e_bin op_dAdd (L2.PE.hb (e_bi c_len rfl B.m_len boot_len (ab_cons (e_vB rfl) ab_nil rfl) (by decide) rfl rfl rfl)) (L2.PE.hb e_int)) a_nil rfl) rfl) rfl rfl rfl rfl) p_nil rfl) rfl) rfl) rfl) (pgs_cons (pg_name sc.nd rfl (locC_ok rfl) (by first | exact .inl rfl | exact .inr rfl)) (pgs_cons (pg_name sc.nd rfl (locC_ok rfl) (by first | exact .inl rfl | exact .inr rfl)) (pgs_cons (pg_name sc.nd rfl (locC_ok rfl) (by first | exact .inl rfl | exact .inr rfl)) (pgs_cons (pg_name sc.nd rfl (locC_ok rfl) (by first | exact .inl rfl | exact .inr rfl)) pgs_nil rfl) rfl) rfl) rfl) (by unfold LIM; decide) (by unfold LIM; decide) rfl rfl rfl rfl rfl)
    (b_cons (s_set sc.nd rfl (locC_ok rfl) (by first | exact .inl rfl | exact .inr rfl) (e_cal (C_law_sonde (k + 3)) hr rfl (a_cons (e_v rfl) (a_cons (e_v rfl) (a_cons (e_v rfl) (a_cons (e_v rfl) (a_cons (e_v rfl) a_nil rfl) rfl) rfl) rfl) rfl) rfl rfl rfl rfl) rfl)
    (b_cons (s_if (L2.PW.pt (w_or (t_cmp (op_oNe hu) (L2.PE.hb (e_cal (C_flown_sonde (k + 2)) hr rfl (a_cons (e_v rfl) (a_cons (e_v rfl) (a_cons (e_v rfl) (a_cons (e_v rfl) (a_cons (e_v rfl) a_nil rfl) rfl) rfl) rfl) rfl) rfl rfl rfl rfl)) (L2.PE.hb (e_ty c_tuple rfl B.m_tuple boot_tuple (ab_cons (e_vB rfl) ab_nil rfl) (by decide) rfl rfl rfl)) rfl) (w_bo1 (t_cmp (op_oNe hu) (L2.PE.hb (e_cal (C_lands_at (k + 1)) hr rfl (a_cons (e_v rfl) (a_cons (e_v rfl) (a_cons (e_v rfl) (a_cons (e_v rfl) (a_cons (e_v rfl) a_nil rfl) rfl) rfl) rfl) rfl) rfl rfl rfl rfl)) (L2.PE.hb (e_idx (e_vB rfl) (e_un un_dNeg (L2.PE.hb e_int)) fun _ _ => rfl)) rfl)))) (b_one (s_ret e_bool)) b_nil)
    (b_cons (by first | exact (And.left (s_setLc rfl sc.nd rfl rfl (sw_true rfl rfl rfl rfl) (L2.PI.hib (i_rng1 rfl B.m_range (a_cons (e_bin op_dAdd (L2.PE.hb (e_bi c_len rfl B.m_len boot_len (ab_cons (e_vB rfl) ab_nil rfl) (by decide) rfl rfl rfl)) (L2.PE.hb e_int)) a_nil rfl) rfl)) (blkOk_by (own := [("own", 16)]) rfl) rfl (fun _ _ _ _ _ => (g_name sc.nd rfl (locC_ok rfl) (by first | exact .inl rfl | exact .inr rfl) (by decide))) (fun _ _ _ _ _ => ts_nil) (fun _ _ _ _ _ => (e_idx (L2.PE.hb (e_cal (C_law_sonde (k + 3)) hr rfl (a_cons (e_v rfl) (a_cons (e_v rfl) (a_cons (e_v rfl) (a_cons (e_v rfl) (a_cons (e_v rfl) a_nil rfl) rfl) rfl) rfl) rfl) rfl rfl rfl rfl)) (e_un un_dNeg (L2.PE.hb e_int)) fun _ _ => rfl)) (fun _ => rfl))) | exact (s_set sc.nd rfl (locC_ok rfl) (by first | exact .inl rfl | exact .inr rfl) (L2.PE.he (e_lc rfl sc.nd (L2.PI.hib (i_rng1 rfl B.m_range (a_cons (e_bin op_dAdd (L2.PE.hb (e_bi c_len rfl B.m_len boot_len (ab_cons (e_vB rfl) ab_nil rfl) (by decide) rfl rfl rfl)) (L2.PE.hb e_int)) a_nil rfl) rfl)) (blkOk_by (own := [("own", 16)]) rfl) rfl (fun _ _ _ _ _ => (g_name sc.nd rfl (locC_ok rfl) (by first | exact .inl rfl | exact .inr rfl) (by decide))) (fun _ _ _ _ _ => ts_nil) (fun _ _ _ _ _ => (e_idx (L2.PE.hb (e_cal (C_law_sonde (k + 3)) hr rfl (a_cons (e_v rfl) (a_cons (e_v rfl) (a_cons (e_v rfl) (a_cons (e_v rfl) (a_cons (e_v rfl) a_nil rfl) rfl) rfl) rfl) rfl) rfl rfl rfl rfl)) (e_un un_dNeg (L2.PE.hb e_int)) fun _ _ => rfl)) (fun _ => rfl))) rfl))
    (b_cons (s_set sc.nd rfl (locC_ok rfl) (by first | exact .inl rfl | exact .inr rfl) (e_ty c_tuple rfl B.m_tuple boot_tuple (ab_cons (L2.PE.hb (e_sortSet rfl hu rfl B.m_sorted rfl B.m_set (L2.PE.hb (L2.PE.he (e_lc rfl sc.nd (L2.PI.hib (i_rng1 rfl B.m_range (a_cons e_int a_nil rfl) rfl)) (blkOk_by (own := [("k", 19)]) rfl) rfl (fun _ _ _ _ _ => (g_name sc.nd rfl (locC_ok rfl) (by first | exact .inl rfl | exact .inr rfl) (by decide))) (fun _ _ _ _ _ => ts_nil) (fun _ _ _ _ _ => (e_cal (C_law_pick (k + 2)) hr rfl (a_cons (e_v rfl) (a_cons (e_bin op_dAdd (e_vB rfl) (L2.PE.hb (L2.PE.he (f_lst (a_cons (e_tup (a_cons e_int (a_cons e_int a_nil rfl) rfl) (by unfold LIM; decide)) a_nil rfl) (by unfold LIM; decide))))) a_nil rfl) rfl) rfl rfl rfl rfl)) (fun _ => rfl)))) rfl rfl)) ab_nil rfl) (by decide) rfl rfl rfl) rfl)
    (b_cons (by first | exact (And.left (s_setLc rfl sc.nd rfl rfl (sw_true rfl rfl rfl rfl) (L2.PI.hib (i_rng1 rfl B.m_range (a_cons (e_bi c_len rfl B.m_len boot_len (ab_cons (e_vB rfl) ab_nil rfl) (by decide) rfl rfl rfl) a_nil rfl) rfl)) (blkOk_by (own := [("k", 19)]) rfl) rfl (fun _ _ _ _ _ => (g_name sc.nd rfl (locC_ok rfl) (by first | exact .inl rfl | exact .inr rfl) (by decide))) (fun _ _ _ _ _ => (ts_one (t_cmp (op_oIn hu) (L2.PE.hb (e_idx (e_vB rfl) (e_v rfl) fun _ _ => rfl)) (e_vB rfl) rfl))) (fun _ _ _ _ _ => (e_v rfl)) (fun _ => rfl))) | exact (s_set sc.nd rfl (locC_ok rfl) (by first | exact .inl rfl | exact .inr rfl) (L2.PE.he (e_lc rfl sc.nd (L2.PI.hib (i_rng1 rfl B.m_range (a_cons (e_bi c_len rfl B.m_len boot_len (ab_cons (e_vB rfl) ab_nil rfl) (by decide) rfl rfl rfl) a_nil rfl) rfl)) (blkOk_by (own := [("k", 19)]) rfl) rfl (fun _ _ _ _ _ => (g_name sc.nd rfl (locC_ok rfl) (by first | exact .inl rfl | exact .inr rfl) (by decide))) (fun _ _ _ _ _ => (ts_one (t_cmp (op_oIn hu) (L2.PE.hb (e_idx (e_vB rfl) (e_v rfl) fun _ _ => rfl)) (e_vB rfl) rfl))) (fun _ _ _ _ _ => (e_v rfl)) (fun _ => rfl))) rfl))
    (b_cons (s_if (t_cmp (op_oNe hu) (L2.PE.hb (e_cal (C_burst_for (k + 0)) hr rfl (a_cons (e_v rfl) (a_cons (e_v rfl) (a_cons (e_v rfl) (a_cons (e_v rfl) (a_cons (e_v rfl) a_nil rfl) rfl) rfl) rfl) rfl) rfl rfl rfl rfl)) (L2.PE.hb (e_ite (t_cmp (op_oNe hu) (e_vB rfl) (L2.PE.hb (L2.PE.he (f_lst a_nil (by unfold LIM; decide)))) rfl) (e_idx (e_vB rfl) e_int fun _ _ => rfl) e_none)) rfl) (b_one (s_ret e_bool)) b_nil)
    (b_cons (s_set sc.nd rfl (locC_ok rfl) (by first | exact .inl rfl | exact .inr rfl) (e_cal (C_law_next (k + 3)) hr rfl (a_cons (e_v rfl) (a_cons (e_bi c_len rfl B.m_len boot_len (ab_cons (e_vB rfl) ab_nil rfl) (by decide) rfl rfl rfl) a_nil rfl) rfl) rfl rfl rfl rfl) rfl)
    (b_cons (s_set sc.nd rfl (locC_ok rfl) (by first | exact .inl rfl | exact .inr rfl) (e_bin op_dAdd (e_vB rfl) (L2.PE.hb (e_cal (C_law_next (k + 3)) hr rfl (a_cons (e_v rfl) (a_cons (e_bin op_dSub (L2.PE.hb (e_bi c_len rfl B.m_len boot_len (ab_cons (e_vB rfl) ab_nil rfl) (by decide) rfl rfl rfl)) (e_vB rfl)) a_nil rfl) rfl) rfl rfl rfl rfl))) rfl)
    (b_cons (s_if (t_cmp (op_oNe hu) (L2.PE.hb (e_ty c_list rfl B.m_list boot_list (ab_cons (L2.PE.hb (e_cal (C_search_area (k + 0)) hr rfl (a_cons (e_v rfl) (a_cons (e_v rfl) (a_cons (e_v rfl) (a_cons (e_v rfl) (a_cons (e_v rfl) (a_cons (e_v rfl) a_nil rfl) rfl) rfl) rfl) rfl) rfl) rfl rfl rfl rfl)) ab_nil rfl) (by decide) rfl rfl rfl)) (L2.PE.hb (e_sortSet rfl hu rfl B.m_sorted rfl B.m_set (L2.PE.hb (e_slc (e_vB rfl) (o_some (e_v rfl)) (o_some (e_bin op_dAdd (e_vB rfl) (L2.PE.hb e_int))))) rfl rfl)) rfl) (b_one (s_ret e_bool)) b_nil)
    (b_cons (s_set sc.nd rfl (locC_ok rfl) (by first | exact .inl rfl | exact .inr rfl) (e_slc (e_vB rfl) o_none (o_some (e_bin op_dAdd (L2.PE.hb (e_bin op_dMul (e_vB rfl) (e_vB rfl))) (L2.PE.hb e_int)))) rfl)
    (b_cons (s_if (L2.PW.pt (w_or (t_cmp (op_oNe hu) (L2.PE.hb (e_cal (C_airs_seen (k + 3)) hr rfl (a_cons (e_ty c_tuple rfl B.m_tuple boot_tuple (ab_cons (e_vB rfl) ab_nil rfl) (by decide) rfl rfl rfl) (a_cons (e_v rfl) a_nil rfl) rfl) rfl rfl rfl rfl)) (L2.PE.hb (e_slc (e_vB rfl) o_none (o_some (e_v rfl)))) rfl) (w_or (t_cmp (op_oNe hu) (L2.PE.hb (e_cal (C_highest_by (k + 3)) hr rfl (a_cons (e_v rfl) (a_cons e_int a_nil rfl) rfl) rfl rfl rfl rfl)) (L2.PE.hb (e_bin op_dFdiv (L2.PE.hb e_int) (e_vB rfl))) rfl) (w_bo1 (t_cmp (op_oNe hu) (L2.PE.hb (e_cal (C_same_landing (k + 0)) hr rfl (a_cons (e_v rfl) (a_cons (e_v rfl) (a_cons (e_v rfl) (a_cons (e_v rfl) (a_cons (e_v rfl) a_nil rfl) rfl) rfl) rfl) rfl) rfl rfl rfl rfl)) (L2.PE.hb (e_cmp (op_oEq hu) (L2.PE.hb (e_idx (e_vB rfl) (e_v rfl) fun _ _ => rfl)) (L2.PE.hb (e_idx (e_vB rfl) (e_v rfl) fun _ _ => rfl)) rfl)) rfl))))) (b_one (s_ret e_bool)) b_nil)
    (b_cons (by first | exact (s_par2 rfl sc.nd rfl rfl (by decide) rfl rfl (p_cons (e_ty c_tuple rfl B.m_tuple boot_tuple (ab_cons (L2.PE.hb (e_sortSet rfl hu rfl B.m_sorted rfl B.m_set (L2.PE.hb (L2.PE.he (e_lc rfl sc.nd (L2.PI.hib (i_rng1 rfl B.m_range (a_cons (e_bin op_dAdd (L2.PE.hb e_int) (L2.PE.hb (e_cal (C_law_next (k + 3)) hr rfl (a_cons (e_v rfl) (a_cons e_int a_nil rfl) rfl) rfl rfl rfl rfl))) a_nil rfl) rfl)) (blkOk_by (own := [("k", 19)]) rfl) rfl (fun _ _ _ _ _ => (g_name sc.nd rfl (locC_ok rfl) (by first | exact .inl rfl | exact .inr rfl) (by decide))) (fun _ _ _ _ _ => ts_nil) (fun _ _ _ _ _ => (e_tup (a_cons (e_cal (C_law_next (k + 3)) hr rfl (a_cons (e_v rfl) (a_cons e_int a_nil rfl) rfl) rfl rfl rfl rfl) (a_cons (e_cal (C_law_next (k + 3)) hr rfl (a_cons (e_v rfl) (a_cons e_int a_nil rfl) rfl) rfl rfl rfl rfl) a_nil rfl) rfl) (by unfold LIM; decide))) (fun _ => rfl)))) rfl rfl)) ab_nil rfl) (by decide) rfl rfl rfl) (p_cons (e_tup (a_cons (e_cal (C_law_next (k + 3)) hr rfl (a_cons (e_v rfl) (a_cons e_int a_nil rfl) rfl) rfl rfl rfl rfl) (a_cons (e_cal (C_law_next (k + 3)) hr rfl (a_cons (e_v rfl) (a_cons e_int a_nil rfl) rfl) rfl rfl rfl rfl) a_nil rfl) rfl) (by unfold LIM; decide)) p_nil rfl) rfl) rfl rfl) | exact (s_parN rfl rfl (p_cons (e_ty c_tuple rfl B.m_tuple boot_tuple (ab_cons (L2.PE.hb (e_sortSet rfl hu rfl B.m_sorted rfl B.m_set (L2.PE.hb (L2.PE.he (e_lc rfl sc.nd (L2.PI.hib (i_rng1 rfl B.m_range (a_cons (e_bin op_dAdd (L2.PE.hb e_int) (L2.PE.hb (e_cal (C_law_next (k + 3)) hr rfl (a_cons (e_v rfl) (a_cons e_int a_nil rfl) rfl) rfl rfl rfl rfl))) a_nil rfl) rfl)) (blkOk_by (own := [("k", 19)]) rfl) rfl (fun _ _ _ _ _ => (g_name sc.nd rfl (locC_ok rfl) (by first | exact .inl rfl | exact .inr rfl) (by decide))) (fun _ _ _ _ _ => ts_nil) (fun _ _ _ _ _ => (e_tup (a_cons (e_cal (C_law_next (k + 3)) hr rfl (a_cons (e_v rfl) (a_cons e_int a_nil rfl) rfl) rfl rfl rfl rfl) (a_cons (e_cal (C_law_next (k + 3)) hr rfl (a_cons (e_v rfl) (a_cons e_int a_nil rfl) rfl) rfl rfl rfl rfl) a_nil rfl) rfl) (by unfold LIM; decide))) (fun _ => rfl)))) rfl rfl)) ab_nil rfl) (by decide) rfl rfl rfl) (p_cons (e_tup (a_cons (e_cal (C_law_next (k + 3)) hr rfl (a_cons (e_v rfl) (a_cons e_int a_nil rfl) rfl) rfl rfl rfl rfl) (a_cons (e_cal (C_law_next (k + 3)) hr rfl (a_cons (e_v rfl) (a_cons e_int a_nil rfl) rfl) rfl rfl rfl rfl) a_nil rfl) rfl) (by unfold LIM; decide)) p_nil rfl) rfl) (pgs_cons (pg_name sc.nd rfl (locC_ok rfl) (by first | exact .inl rfl | exact .inr rfl)) (pgs_cons (pg_name sc.nd rfl (locC_ok rfl) (by first | exact .inl rfl | exact .inr rfl)) pgs_nil rfl) rfl) (by unfold LIM; decide) (by unfold LIM; decide) rfl rfl rfl rfl rfl))
    (b_cons (s_own sc.nd rfl (locC_ok rfl) (by first | exact .inl rfl | exact .inr rfl) (f_lst a_nil (by unfold LIM; decide)) rfl)
    (b_cons (s_for PassesOwn.never rfl (i_val (e_v rfl)) (gs_name sc.nd rfl (locC_ok rfl) (by first | exact .inl rfl | exact .inr rfl)) (b_cons (s_tgt (e_idx (L2.PE.hb (e_cal (C_law_sonde (k + 3)) hr rfl (a_cons (e_v rfl) (a_cons (e_v rfl) (a_cons (e_v rfl) (a_cons (e_v rfl) (a_cons (e_v rfl) a_nil rfl) rfl) rfl) rfl) rfl) rfl rfl rfl rfl)) (e_un un_dNeg (L2.PE.hb e_int)) fun _ _ => rfl) (gs_tup rfl (gss_cons (gs_name sc.nd rfl (locC_ok rfl) (by first | exact .inl rfl | exact .inr rfl)) (gss_cons (gs_name sc.nd rfl (locC_ok rfl) (by first | exact .inl rfl | exact .inr rfl)) gss_nil rfl) rfl) rfl rfl) rfl rfl rfl)
    (b_one (s_append rfl (visC_ok rfl) rfl rfl (a_cons (e_tup (a_cons (e_bin op_dAdd (L2.PE.hb (e_bi c_abs rfl B.m_abs boot_abs (ab_cons (L2.PE.hb (e_bin op_dSub (e_vB rfl) (L2.PE.hb (e_idx (e_vB rfl) e_int fun _ _ => rfl)))) ab_nil rfl) (by decide) rfl rfl rfl)) (L2.PE.hb (e_bi c_abs rfl B.m_abs boot_abs (ab_cons (L2.PE.hb (e_bin op_dSub (e_vB rfl) (L2.PE.hb (e_idx (e_vB rfl) e_int fun _ _ => rfl)))) ab_nil rfl) (by decide) rfl rfl rfl))) (a_cons (e_v rfl) a_nil rfl) rfl) (by unfold LIM; decide)) a_nil rfl) rfl rfl rfl rfl rfl rfl))) (fun _ => rfl))
    (b_cons (s_if (t_cmp (op_oNe hu) (L2.PE.hb (e_cal (C_best_post (k + 0)) hr rfl (a_cons (e_v rfl) (a_cons (e_v rfl) (a_cons (e_v rfl) (a_cons (e_v rfl) (a_cons (e_v rfl) (a_cons (e_v rfl) a_nil rfl) rfl) rfl) rfl) rfl) rfl) rfl rfl rfl rfl)) (L2.PE.hb (e_bi (c_min rfl hu) rfl B.m_min boot_min (ab_cons (e_vB rfl) ab_nil rfl) (by decide) rfl rfl rfl)) rfl) (b_one (s_ret e_bool)) b_nil)
    (b_one (s_ret e_bool)))))))))))))))))))
theorem ok_law_holds (B : Bi mg) (D0 : FnP K "_law_holds" s_law_holds f fd) (gF : mg "_law_holds" = some (.ref f)) (C_law_sonde : ∀ k, Cal P w K mg base (k + 1) "_law_sonde" 5 F_law_sonde) (C_law_next : ∀ k, Cal P w K mg base (k + 1) "_law_next" 2 F_law_next) (C_burst_for : ∀ k, Cal P w K mg base (k + 4) "burst_for" 5 F_burst_for) (C_best_post : ∀ k, Cal P w K mg base (k + 4) "best_post" 6 F_best_post) (C_flown_sonde : ∀ k, Cal P w K mg base (k + 2) "flown_sonde" 5 F_flown_sonde) (C_lands_at : ∀ k, Cal P w K mg base (k + 3) "lands_at" 5 F_lands_at) (C_search_area : ∀ k, Cal P w K mg base (k + 4) "search_area" 6 F_search_area) (C_airs_seen : ∀ k, Cal P w K mg base (k + 1) "airs_seen" 2 F_airs_seen) (C_highest_by : ∀ k, Cal P w K mg base (k + 1) "highest_by" 2 F_highest_by) (C_same_landing : ∀ k, Cal P w K mg base (k + 4) "same_landing" 5 F_same_landing) (C_law_pick : ∀ k, Cal P w K mg base (k + 2) "_law_pick" 2 F_law_pick) : ∀ k, Cal P w K mg base (k + 5) "_law_holds" 1 F_law_holds := fun k =>
  cal_fn ["w", "airs", "spot", "up", "down", "burst", "way", "ends", "goals", "able", "least", "most", "rise", "spots", "goal", "offs", "own", "x", "y", "k"] ["w"] (k + 4) 20 1 F_law_holds c_law_holds rfl D0 sc_law_holds rfl rfl gF (fun _ _ _ _ _ _ us hl => match us, hl with | [_], _ => rfl) (bd_law_holds B C_law_sonde C_law_next C_burst_for C_best_post C_flown_sonde C_lands_at C_search_area C_airs_seen C_highest_by C_same_landing C_law_pick k)
abbrev s_law : Stmt := top 22
theorem sc_law : FnScope ["script", "w", "turn"] ["script"] (defScope s_law) := ⟨rfl, rfl, rfl, by decide +kernel, rfl, by decide +kernel, by decide +kernel⟩
theorem bd_law (B : Bi mg) (C_law_draws : ∀ k, Cal P w K mg base (k + 1) "_law_draws" 2 F_law_draws) (C_law_holds : ∀ k, Cal P w K mg base (k + 5) "_law_holds" 1 F_law_holds) (k : Nat) : ∀ (cdv : Value) (A : Around) (outer : List PySem.Env) (s : Shared) (H : Hp) (E : XK), Room (k + 5) (A.deeper (envOfC "law" (defScope s_law) s.heap.objs.size f cdv)) → HSs (cxOf CX0 P w K mg base ["script", "w", "turn"] "law" (defScope s_law) f cdv A outer s H E).nox (defBody s_law) c_law := fun cdv A outer s H E hr => by
  have hu := room64 hr
  have sc := sc_law
  unfold c_law
  exact (b_cons (s_set sc.nd rfl (locC_ok rfl) (by first | exact .inl rfl | exact .inr rfl) (e_mkw (e_cal (C_law_draws (k + 4)) hr rfl (a_cons (e_v rfl) (a_cons e_int a_nil rfl) rfl) rfl rfl rfl rfl)) rfl)
    (b_cons (s_for PassesOwn.never rfl (i_rng1 rfl B.m_range (a_cons e_int a_nil rfl) rfl) (gs_name sc.nd rfl (locC_ok rfl) (by first | exact .inl rfl | exact .inr rfl)) (b_one (s_if (t_not (t_val (e_cal (C_law_holds (k + 0)) hr rfl (a_cons (e_v rfl) a_nil rfl) rfl rfl rfl rfl) fun _ => rfl)) (b_one (s_ret e_bool)) b_nil)) (fun _ => rfl))
    (b_one (s_ret e_bool))))
theorem fn_law (B : Bi mg) (D0 : FnP K "law" s_law f fd) (gF : mg "law" = some (.ref f)) (C_law_draws : ∀ k, Cal P w K mg base (k + 1) "_law_draws" 2 F_law_draws) (C_law_holds : ∀ k, Cal P w K mg base (k + 5) "_law_holds" 1 F_law_holds) : FnOk P w K mg base CX0 (0 + 6) f fd ["script"] (spF P w K 1 F_law) :=
  fn_fn ["script", "w", "turn"] ["script"] (0 + 5) 3 1 F_law c_law rfl D0 sc_law rfl rfl (bd_law B C_law_draws C_law_holds 0)
end
end K29
namespace K29
open PV
open PySem (Str)
abbrev Pt := Int × Int
def dP (p : Pt) : D := .tup [.int p.1, .int p.2]
def pad (p q : Pt) : Pt := (p.1 + q.1, p.2 + q.2)
theorem x_moved (p q : Pt) : F_moved [dP p, dP q] = .ret (dP (pad p q)) := rfl
def ab (i : Int) : Int := if i < 0 then -i else i
def far (p q : Pt) : Int := ab (p.1 - q.1) + ab (p.2 - q.2)
theorem x_apart (p q : Pt) : F_apart [dP p, dP q] = .ret (.int (far p q)) := rfl
/-- the levels of a flight -/
def lv (u d b : Nat) : List Nat := (List.range b).flatMap (fun k => List.replicate u k) ++ (List.range b).reverse.flatMap (fun k => List.replicate d k)
def dN (k : Nat) : D := .int (k : Nat)
theorem rng_up (b : Nat) : rng 0 b 1 = (List.range b).map dN := by
  unfold rng
  apply List.map_congr_left
  intro k _
  show D.int (0 + Int.ofNat k * 1) = .int (k : Nat)
  congr 1
  simp
theorem rng_down (b : Nat) : rng ((b : Int) - 1) b (-1) = ((List.range b).map dN).reverse := by
  apply List.ext_getElem
  · simp [rng]
  · intro i h1 h2
    simp only [rng, List.getElem_map, List.getElem_range, List.getElem_reverse, List.length_map, List.length_range]
    show D.int ((b : Int) - 1 + Int.ofNat i * (-1)) = .int ((b - 1 - i : Nat) : Int)
    have : i < b := by simpa [rng] using h1
    congr 1
    have e : (Int.ofNat i) = (i : Int) := rfl
    rw [e]
    omega
theorem flat_rep {α β : Type} (f : α → β) (u : Nat) : ∀ l : List α, (l.flatMap fun k => List.replicate u k).map f = (l.map f).flatMap fun k => List.replicate u k
  | [] => rfl
  | x :: r => by simp [flat_rep f u r]
theorem len_flat {α : Type} (u : Nat) : ∀ l : List α, (l.flatMap fun k => List.replicate u k).length = l.length * u
  | [] => by simp
  | x :: r => by simp [len_flat u r, Nat.succ_mul, Nat.add_comm]
theorem map_const {α : Type} (x : α) : ∀ n c lo, (rng lo n c).map (fun _ => x) = List.replicate n x := fun n c lo => by
  apply List.ext_getElem
  · simp [rng]
  · intro i h1 h2
    simp
section
variable {u d b : Nat} (hu : u ≤ 10) (hd : d ≤ 10) (hb : b ≤ 10)
include hu hd hb
theorem mul_le : b * u ≤ 100 := Nat.le_trans (Nat.mul_le_mul hb hu) (by decide)
theorem x_levels : F_levels_along [.int u, .int d, .int b] = .ret (.lst ((lv u d b).map dN)) := by
  have m1 : b * u ≤ 100 := Nat.le_trans (Nat.mul_le_mul hb hu) (by decide)
  have m2 : b * d ≤ 100 := Nat.le_trans (Nat.mul_le_mul hb hd) (by decide)
  have hL : (1000 : Nat) ≤ LIM := by decide
  unfold F_levels_along
  refine run_ret (env := [some (false, .int u), some (false, .int d), some (false, .int b), none, none, none]) rfl ?_
  unfold c_levels_along
  have e1 : eLc (eVar 4) [⟨[4, 5], (tName 4), (iRng [(eVar 2)]), []⟩, ⟨[5], (tName 5), (iRng [(eVar 0)]), []⟩] [some (false, .int u), some (false, .int d), some (false, .int b), none, none, none] = .ret (.lst ((rng 0 b 1).flatMap fun x => List.replicate u x)) := by
    refine lc_two (fun x => List.replicate u x) ((iRng1 (d := .int (b : Nat)) rfl).trans (range1 (by omega))) rfl rfl (by rw [len_flat, length_rng]; omega) fun x hx => ?_
    exact ⟨_, rng 0 u 1, fun _ => x, rfl, (iRng1 (d := .int (u : Nat)) rfl).trans (range1 (by omega)), (map_const x _ _ _).symm, fun y hy => rfl⟩
  have h1 : (sTgt (tName 3) (eLc (eVar 4) [⟨[4, 5], (tName 4), (iRng [(eVar 2)]), []⟩, ⟨[5], (tName 5), (iRng [(eVar 0)]), []⟩])) [some (false, .int u), some (false, .int d), some (false, .int b), none, none, none] = .ret (.nx [some (false, .int u), some (false, .int d), some (false, .int b), some (false, .lst ((rng 0 b 1).flatMap fun x => List.replicate u x)), none, none]) := by
    unfold sTgt
    rw [e1]
    rfl
  rw [blk_nx h1]
  have e2 : eLc (eVar 4) [⟨[4, 5], (tName 4), (iRng [(eBin dSub (eVarB 2) (eLit (.int 1))), (eUn dNeg (eLit (.int 1))), (eUn dNeg (eLit (.int 1)))]), []⟩, ⟨[5], (tName 5), (iRng [(eVar 1)]), []⟩] [some (false, .int u), some (false, .int d), some (false, .int b), some (false, .lst ((rng 0 b 1).flatMap fun x => List.replicate u x)), none, none] =
      .ret (.lst ((rng ((b : Int) - 1) b (-1)).flatMap fun x => List.replicate d x)) := by
    refine lc_two (fun x => List.replicate d x) ((iRng3 (d := .int ((b : Nat) - 1)) (e := .int (-1)) (f := .int (-1)) rfl rfl rfl).trans ?_) rfl rfl (by rw [len_flat, length_rng]; omega) fun x hx => ?_
    · rw [range3 (by omega) (by omega) (by omega) (by omega)]
      have : ((b : Int) - 1 - -1).toNat = b := by omega
      rw [this]
    · exact ⟨_, rng 0 d 1, fun _ => x, rfl, (iRng1 (d := .int (d : Nat)) rfl).trans (range1 (by omega)), (map_const x _ _ _).symm, fun y hy => rfl⟩
  have e3 : dAdd (.lst ((rng 0 b 1).flatMap fun x => List.replicate u x)) (.lst ((rng ((b : Int) - 1) b (-1)).flatMap fun x => List.replicate d x)) = .ret (.lst (((rng 0 b 1).flatMap fun x => List.replicate u x) ++ (rng ((b : Int) - 1) b (-1)).flatMap fun x => List.replicate d x)) := by
    exact add_lst (by rw [len_flat, len_flat, length_rng, length_rng]; omega)
  rw [ret1 (bin_ret rfl e2 e3)]
  unfold lv
  rw [List.map_append, flat_rep, flat_rep, rng_up, rng_down, List.map_reverse]
end
/-! ### flights -/
def stp (airs : List Pt) (a : List Pt) (k : Nat) : List Pt := a ++ [pad (a.getLastD (0, 0)) (airs.getD k (0, 0))]
def way (airs : List Pt) (s : Pt) (ks : List Nat) : List Pt := ks.foldl (stp airs) [s]
theorem stp_ne {airs a : List Pt} {k : Nat} : stp airs a k ≠ [] := by unfold stp; simp
theorem len_way {airs : List Pt} : ∀ (ks : List Nat) (a : List Pt), (ks.foldl (stp airs) a).length = a.length + ks.length
  | [], a => rfl
  | k :: r, a => by rw [List.foldl_cons, len_way r]; simp [stp]; omega
theorem last_map {l : List Pt} (h : l ≠ []) : (l.map dP).getLast? = some (dP (l.getLastD (0, 0))) := by
  rw [List.getLast?_map, List.getLast?_eq_some_getLast h, List.getLastD_eq_getLast?, List.getLast?_eq_some_getLast h]
  rfl
theorem mem_lv {u d b k : Nat} (h : k ∈ lv u d b) : k < b := by
  unfold lv at h
  rcases List.mem_append.mp h with h | h
  · obtain ⟨x, h1, h2⟩ := List.mem_flatMap.mp h
    rw [(List.mem_replicate.mp h2).2]
    exact List.mem_range.mp h1
  · obtain ⟨x, h1, h2⟩ := List.mem_flatMap.mp h
    rw [(List.mem_replicate.mp h2).2]
    exact List.mem_range.mp (List.mem_reverse.mp h1)
theorem air_at {airs : List Pt} {k : Nat} (h : k < airs.length) : (airs.map dP)[k]? = some (dP (airs.getD k (0, 0))) := by
  rw [List.getElem?_map, List.getElem?_eq_getElem h, List.getD_eq_getElem?_getD, List.getElem?_eq_getElem h]
  rfl
theorem dAt {p : Pt} : dIdx (dP p) (.int 0) = .ret (.int p.1) := rfl
theorem dAt1 {p : Pt} : dIdx (dP p) (.int 1) = .ret (.int p.2) := rfl
theorem fly_loop {airs : List Pt} {t : Tgt} {body : St} (envOf : List Pt → Option (Bool × D) → Env)
    (hs : ∀ a k o, k < airs.length → a ≠ [] → a.length < 1000 → (t (dN k) (envOf a o) >>= body) = .ret (.nx (envOf (stp airs a k) (some (false, dN k))))) :
    ∀ (ks : List Nat) (a : List Pt) (o : Option (Bool × D)), (∀ k ∈ ks, k < airs.length) → a ≠ [] → a.length + ks.length ≤ 1000 → ∃ o', forGo t body (ks.map dN) (envOf a o) = .ret (.nx (envOf (ks.foldl (stp airs) a) o'))
  | [], a, o, _, _, _ => ⟨o, rfl⟩
  | k :: r, a, o, hk, ha, hl => by
    rw [List.length_cons] at hl
    have h1 := hs a k o (hk k List.mem_cons_self) ha (by omega)
    obtain ⟨o', h2⟩ := fly_loop envOf hs r (stp airs a k) (some (false, dN k)) (fun j hj => hk j (List.mem_cons_of_mem _ hj)) stp_ne (by unfold stp; rw [List.length_append, List.length_singleton]; omega)
    refine ⟨o', ?_⟩
    rw [List.map_cons]
    unfold forGo
    cases q : t (dN k) (envOf a o) with
    | ret env' =>
      rw [q, ret_bind] at h1
      rw [ret_bind, h1, ret_bind]
      exact h2
    | exc c v => rw [q] at h1; cases h1
    | bad => rw [q] at h1; cases h1
    | draw n k => rw [q] at h1; cases h1
theorem len_lv {u d b : Nat} (hu : u ≤ 10) (hd : d ≤ 10) (hb : b ≤ 10) : (lv u d b).length ≤ 200 := by
  unfold lv
  rw [List.length_append, len_flat, len_flat, List.length_reverse, List.length_range]
  have m1 : b * u ≤ 100 := Nat.le_trans (Nat.mul_le_mul hb hu) (by decide)
  have m2 : b * d ≤ 100 := Nat.le_trans (Nat.mul_le_mul hb hd) (by decide)
  omega
theorem lim1000 {n : Nat} (h : n < 1000) : n < LIM := by
  unfold LIM
  omega
section
variable {u d b : Nat} (hu : u ≤ 10) (hd : d ≤ 10) (hb : b ≤ 10) {airs : List Pt} (ha : b ≤ airs.length) (s : Pt)
include hu hd hb ha
theorem x_flown : F_flown_sonde [.tup (airs.map dP), dP s, .int u, .int d, .int b] = .ret (.tup ((way airs s (lv u d b)).map dP)) := by
  unfold F_flown_sonde
  refine run_ret (env := [some (false, .tup (airs.map dP)), some (false, dP s), some (false, .int u), some (false, .int d), some (false, .int b), none, none]) rfl ?_
  unfold c_flown_sonde
  refine (blk_nx (e := [some (false, .tup (airs.map dP)), some (false, dP s), some (false, .int u), some (false, .int d), some (false, .int b), some (true, .lst [dP s]), none]) (own1 (d := .lst [dP s]) rfl)).trans ?_
  have hv : iVal (eCall F_levels_along [(eVar 2), (eVar 3), (eVar 4)]) [some (false, .tup (airs.map dP)), some (false, dP s), some (false, .int u), some (false, .int d), some (false, .int b), some (true, .lst [dP s]), none] = .ret ((lv u d b).map dN) :=
    val1 (call_ret (ds := [.int u, .int d, .int b]) rfl (x_levels hu hd hb)) rfl
  have hlv := len_lv hu hd hb
  have hs : ∀ (a : List Pt) (k : Nat) (o : Option (Bool × D)), k < airs.length → a ≠ [] → a.length < 1000 → (tName 6 (dN k) [some (false, .tup (airs.map dP)), some (false, dP s), some (false, .int u), some (false, .int d), some (false, .int b), some (true, .lst (a.map dP)), o] >>=
      sBlk [(sMut 5 fAppend (eCall F_moved [(eBin dIdx (eVarB 5) (eUn dNeg (eLit (.int 1)))), (eBin dIdx (eVarB 0) (eVar 6))]))]) = .ret (.nx [some (false, .tup (airs.map dP)), some (false, dP s), some (false, .int u), some (false, .int d), some (false, .int b), some (true, .lst ((stp airs a k).map dP)), some (false, dN k)]) := by
    intro a k o hk hne hl
    have e1 : eBin dIdx (eVarB 5) (eUn dNeg (eLit (.int 1))) [some (false, .tup (airs.map dP)), some (false, dP s), some (false, .int u), some (false, .int d), some (false, .int b), some (true, .lst (a.map dP)), some (false, dN k)] = .ret (dP (a.getLastD (0, 0))) := bin_ret rfl rfl (last_lst (last_map hne))
    have e2 : eBin dIdx (eVarB 0) (eVar 6) [some (false, .tup (airs.map dP)), some (false, dP s), some (false, .int u), some (false, .int d), some (false, .int b), some (true, .lst (a.map dP)), some (false, dN k)] = .ret (dP (airs.getD k (0, 0))) := bin_ret rfl rfl (idx_tup (air_at hk))
    have e3 := mut1 (i := 5) (f := fAppend) (c := .lst (a.map dP)) (call_ret (F := F_moved) (all_cons e1 (all_cons e2 all_nil)) (x_moved _ _)) rfl (app_lst (by rw [List.length_map]; exact lim1000 hl))
    show sMut 5 fAppend _ _ = _
    refine e3.trans ?_
    unfold stp
    rw [List.map_append]
    rfl
  obtain ⟨o', hf⟩ := fly_loop (airs := airs) (fun a o => [some (false, .tup (airs.map dP)), some (false, dP s), some (false, .int u), some (false, .int d), some (false, .int b), some (true, .lst (a.map dP)), o]) hs (lv u d b) [s] none (fun k hk => Nat.lt_of_lt_of_le (mem_lv hk) ha) (by simp) (by simp; omega)
  refine (blk_nx (for1 (r := .ret (.nx _)) hv hf)).trans ?_
  exact ret1 (prim1 (x := .lst ((way airs s (lv u d b)).map dP)) rfl rfl)
theorem way_ne : way airs s (lv u d b) ≠ [] := by
  intro e
  have := len_way (airs := airs) (lv u d b) [s]
  unfold way at e
  rw [e] at this
  simp at this
  omega
theorem x_lands : F_lands_at [.tup (airs.map dP), dP s, .int u, .int d, .int b] = .ret (dP ((way airs s (lv u d b)).getLastD (0, 0))) := by
  unfold F_lands_at
  refine run_ret (env := [some (false, .tup (airs.map dP)), some (false, dP s), some (false, .int u), some (false, .int d), some (false, .int b)]) rfl ?_
  unfold c_lands_at
  exact ret1 (bin_ret (call_ret (ds := [.tup (airs.map dP), dP s, .int u, .int d, .int b]) rfl (x_flown hu hd hb ha s)) rfl (last_tup (last_map (way_ne hu hd hb ha s))))
/-- the law's own flight -/
theorem x_law_sonde : F_law_sonde [.tup (airs.map dP), dP s, .int u, .int d, .int b] = .ret (.lst ((way airs s (lv u d b)).map dP)) := by
  have m1 : b * u ≤ 100 := Nat.le_trans (Nat.mul_le_mul hb hu) (by decide)
  have m2 : b * d ≤ 100 := Nat.le_trans (Nat.mul_le_mul hb hd) (by decide)
  have hL : (1000 : Nat) ≤ LIM := by decide
  have hlv := len_lv hu hd hb
  unfold F_law_sonde
  refine run_ret (env := [some (false, .tup (airs.map dP)), some (false, dP s), some (false, .int u), some (false, .int d), some (false, .int b), none, none, none]) rfl ?_
  unfold c_law_sonde
  refine (blk_nx (e := [some (false, .tup (airs.map dP)), some (false, dP s), some (false, .int u), some (false, .int d), some (false, .int b), some (true, .lst [dP s]), none, none]) (own1 (d := .lst [dP s]) rfl)).trans ?_
  have part : ∀ (i : Nat) (n : Nat), n ≤ 10 → eVarB i [some (false, .tup (airs.map dP)), some (false, dP s), some (false, .int u), some (false, .int d), some (false, .int b), some (true, .lst [dP s]), none, none] = .ret (.int n) → i ≠ 7 →
      eLc (eBin dMul (eLst [(eVar 7)]) (eVarB i)) [⟨[7], (tName 7), (iRng [(eVar 4)]), []⟩] [some (false, .tup (airs.map dP)), some (false, dP s), some (false, .int u), some (false, .int d), some (false, .int b), some (true, .lst [dP s]), none, none] = .ret (.lst (((rng 0 b 1).map fun x => List.replicate n x).map D.lst)) := by
    intro i n hn hi hi7
    rw [List.map_map]
    refine lc_map (D.lst ∘ fun x => List.replicate n x) ((iRng1 (d := .int (b : Nat)) rfl).trans (range1 (by omega))) rfl (by rw [length_rng]; omega) fun x hx => ?_
    refine bin_ret (x := .lst [x]) rfl (y := .int n) ?_ ?_
    · unfold eVarB at hi ⊢
      have e : (wipeE [some (false, .tup (airs.map dP)), some (false, dP s), some (false, .int u), some (false, .int d), some (false, .int b), some (true, .lst [dP s]), none, none] [7]).set 7 (some (false, x)) = ([some (false, .tup (airs.map dP)), some (false, dP s), some (false, .int u), some (false, .int d), some (false, .int b), some (true, .lst [dP s]), none, none] : Env).set 7 (some (false, x)) := rfl
      show (match ((wipeE [some (false, .tup (airs.map dP)), some (false, dP s), some (false, .int u), some (false, .int d), some (false, .int b), some (true, .lst [dP s]), none, none] [7]).set 7 (some (false, x)))[i]? with | some (some (_, d)) => M.ret d | _ => .bad) = _
      rw [e, List.getElem?_set_ne (Ne.symm hi7)]
      exact hi
    · rw [mul_lst (by omega) (by simp; omega)]
      congr 2
      show (List.replicate n [x]).flatten = List.replicate n x
      simp
  have f1 : ((rng 0 b 1).map fun x => List.replicate u x).flatten = ((List.range b).flatMap fun k => List.replicate u k).map dN := by rw [flat_rep, ← rng_up]; rfl
  have f2 : ((rng 0 b 1).map fun x => List.replicate d x).reverse.flatten = ((List.range b).reverse.flatMap fun k => List.replicate d k).map dN := by rw [flat_rep, List.map_reverse, ← rng_up, ← List.map_reverse]; rfl
  have l1 : (((List.range b).flatMap fun k => List.replicate u k).map dN).length ≤ 100 := by rw [List.length_map, len_flat, List.length_range]; exact m1
  have l2 : (((List.range b).reverse.flatMap fun k => List.replicate d k).map dN).length ≤ 100 := by rw [List.length_map, len_flat, List.length_reverse, List.length_range]; exact m2
  have h2 : eBin dAdd (eUn pSumL (eLc (eBin dMul (eLst [(eVar 7)]) (eVarB 2)) [⟨[7], (tName 7), (iRng [(eVar 4)]), []⟩])) (eUn pSumL (eUn dRev (eLc (eBin dMul (eLst [(eVar 7)]) (eVarB 3)) [⟨[7], (tName 7), (iRng [(eVar 4)]), []⟩]))) [some (false, .tup (airs.map dP)), some (false, dP s), some (false, .int u), some (false, .int d), some (false, .int b), some (true, .lst [dP s]), none, none] = .ret (.lst ((lv u d b).map dN)) := by
    refine bin_ret (un_ret (part 2 u hu rfl (by decide)) (sum_lsts (by rw [f1]; omega))) (un_ret (un_ret (part 3 d hd rfl (by decide)) (r := .ret (.lst (((rng 0 b 1).map fun x => List.replicate d x).reverse.map D.lst))) (by rw [List.map_reverse]; rfl)) (sum_lsts (by rw [f2]; omega))) ?_
    rw [f1, f2]
    refine (add_lst (by omega)).trans ?_
    unfold lv
    rw [List.map_append]
  refine (blk_nx (e := [some (false, .tup (airs.map dP)), some (false, dP s), some (false, .int u), some (false, .int d), some (false, .int b), some (true, .lst [dP s]), some (false, .lst ((lv u d b).map dN)), none]) (set1 h2)).trans ?_
  have hs : ∀ (a : List Pt) (k : Nat) (o : Option (Bool × D)), k < airs.length → a ≠ [] → a.length < 1000 → (tName 7 (dN k) [some (false, .tup (airs.map dP)), some (false, dP s), some (false, .int u), some (false, .int d), some (false, .int b), some (true, .lst (a.map dP)), some (false, .lst ((lv u d b).map dN)), o] >>=
      sBlk [(sMut 5 fAppend (eTup [(eBin dAdd (eBin dIdx (eBin dIdx (eVarB 5) (eUn dNeg (eLit (.int 1)))) (eLit (.int 0))) (eBin dIdx (eBin dIdx (eVarB 0) (eVar 7)) (eLit (.int 0)))), (eBin dAdd (eBin dIdx (eBin dIdx (eVarB 5) (eUn dNeg (eLit (.int 1)))) (eLit (.int 1))) (eBin dIdx (eBin dIdx (eVarB 0) (eVar 7)) (eLit (.int 1))))]))]) =
      .ret (.nx [some (false, .tup (airs.map dP)), some (false, dP s), some (false, .int u), some (false, .int d), some (false, .int b), some (true, .lst ((stp airs a k).map dP)), some (false, .lst ((lv u d b).map dN)), some (false, dN k)]) := by
    intro a k o hk hne hl
    have e1 : eBin dIdx (eVarB 5) (eUn dNeg (eLit (.int 1))) [some (false, .tup (airs.map dP)), some (false, dP s), some (false, .int u), some (false, .int d), some (false, .int b), some (true, .lst (a.map dP)), some (false, .lst ((lv u d b).map dN)), some (false, dN k)] = .ret (dP (a.getLastD (0, 0))) := bin_ret rfl rfl (last_lst (last_map hne))
    have e2 : eBin dIdx (eVarB 0) (eVar 7) [some (false, .tup (airs.map dP)), some (false, dP s), some (false, .int u), some (false, .int d), some (false, .int b), some (true, .lst (a.map dP)), some (false, .lst ((lv u d b).map dN)), some (false, dN k)] = .ret (dP (airs.getD k (0, 0))) := bin_ret rfl rfl (idx_tup (air_at hk))
    have e3 := mut1 (i := 5) (f := fAppend) (c := .lst (a.map dP)) (tup_ret (all_cons (bin_ret (o := dAdd) (bin_ret e1 lit1 dAt) (bin_ret e2 lit1 dAt) rfl) (all_cons (bin_ret (o := dAdd) (bin_ret e1 lit1 dAt1) (bin_ret e2 lit1 dAt1) rfl) all_nil))) rfl (app_lst (by rw [List.length_map]; exact lim1000 hl))
    show sMut 5 fAppend _ _ = _
    refine e3.trans ?_
    unfold stp
    rw [List.map_append]
    rfl
  obtain ⟨o', hf⟩ := fly_loop (airs := airs) (fun a o => [some (false, .tup (airs.map dP)), some (false, dP s), some (false, .int u), some (false, .int d), some (false, .int b), some (true, .lst (a.map dP)), some (false, .lst ((lv u d b).map dN)), o]) hs (lv u d b) [s] none (fun k hk => Nat.lt_of_lt_of_le (mem_lv hk) ha) (by simp) (by simp; omega)
  refine (blk_nx (for1 (r := .ret (.nx _)) (val1 rfl rfl) hf)).trans ?_
  exact ret1 rfl
end
/-! ### the answers -/
theorem dP_TI (p : Pt) : dP p = dTI [p.1, p.2] := rfl
theorem flat_dP (p : Pt) : flat (dP p) = true := flat_dTI [p.1, p.2]
theorem dep_dP (p : Pt) : dep (dP p) = 1 := dep_dTI [p.1, p.2]
theorem flat_dPs (l : List Pt) : flatL (l.map dP) = true := flatL_of fun d hd => by
  obtain ⟨p, _, rfl⟩ := List.mem_map.mp hd
  exact flat_dP p
theorem dep_dPs (l : List Pt) : depL (l.map dP) ≤ 1 := depL_of fun d hd => by
  obtain ⟨p, _, rfl⟩ := List.mem_map.mp hd
  rw [dep_dP]
  exact Nat.le_refl _
theorem ti_dPs (l : List Pt) : (l.map dP).all isTI = true := List.all_eq_true.mpr fun d hd => by
  obtain ⟨p, _, rfl⟩ := List.mem_map.mp hd
  rfl
theorem sortSet_dPs {l : List Pt} (h : l.length ≤ 60) : pSortSet [.lst (l.map dP)] = .ret (.lst (sortD ltD (dedup (l.map dP)))) := ck_pos ⟨ti_dPs l, by rw [List.length_map]; exact h⟩
theorem x_set_of {l : List Pt} (h : l.length ≤ 60) : F_set_of [.lst (l.map dP)] = .ret (.tup (sortD ltD (dedup (l.map dP)))) := by
  unfold F_set_of
  refine run_ret (env := [some (false, .lst (l.map dP))]) rfl ?_
  unfold c_set_of
  exact ret1 (prim1 (prim1 (x := .lst (l.map dP)) rfl (sortSet_dPs h)) rfl)
/-- sorted(set(..)) of places is of places -/
theorem pts_of {l : List Pt} : ∃ S : List Pt, sortD ltD (dedup (l.map dP)) = S.map dP ∧ (∀ p, p ∈ S ↔ p ∈ l) ∧ S.length ≤ l.length := by
  have len : ∀ m : List D, (dedup m).length ≤ m.length := by
    intro m
    induction m with
    | nil => exact Nat.le_refl _
    | cons x r ih =>
      unfold dedup
      rw [List.length_cons, List.length_cons]
      have := List.length_filter_le (fun y => !eqD x y) (dedup r)
      omega
  have inj : ∀ p q : Pt, dP p = dP q → p = q := fun p q e => by
    have := dTI_inj (a := [p.1, p.2]) (b := [q.1, q.2]) e
    simp at this
    exact Prod.ext this.1 this.2
  have ex : ∀ m : List D, (∀ d ∈ m, ∃ p : Pt, d = dP p) → ∃ S : List Pt, m = S.map dP := by
    intro m
    induction m with
    | nil => intro _; exact ⟨[], rfl⟩
    | cons x r ih =>
      intro h
      obtain ⟨p, rfl⟩ := h x List.mem_cons_self
      obtain ⟨S, rfl⟩ := ih fun d hd => h d (List.mem_cons_of_mem _ hd)
      exact ⟨p :: S, rfl⟩
  obtain ⟨S, e⟩ := ex (sortD ltD (dedup (l.map dP))) fun d hd => by
    obtain ⟨p, _, rfl⟩ := List.mem_map.mp (mem_dedup (mem_sortD.mp hd))
    exact ⟨p, rfl⟩
  obtain ⟨ms, em, hn, hm⟩ := dedup_TI (l.map fun p => [p.1, p.2])
  have el : (l.map fun p => [p.1, p.2]).map dTI = l.map dP := by rw [List.map_map]; rfl
  rw [el] at em
  refine ⟨S, e, fun p => ?_, ?_⟩
  · have h1 : p ∈ S ↔ dP p ∈ S.map dP := ⟨fun h => List.mem_map.mpr ⟨p, h, rfl⟩, fun h => by
      obtain ⟨q, hq, e⟩ := List.mem_map.mp h
      rw [← inj q p e]; exact hq⟩
    rw [h1, ← e, mem_sortD, em]
    constructor
    · intro h
      obtain ⟨m, hm', e⟩ := List.mem_map.mp h
      obtain ⟨q, hq, e2⟩ := List.mem_map.mp ((hm m).mp hm')
      have : dP q = dP p := by rw [dP_TI, ← e]; exact congrArg dTI e2
      rw [← inj q p this]; exact hq
    · intro h
      exact List.mem_map.mpr ⟨[p.1, p.2], (hm _).mpr (List.mem_map.mpr ⟨p, h, rfl⟩), rfl⟩
  · have := congrArg List.length e
    rw [List.length_map, perm_sortD.length_eq] at this
    have h2 := len (l.map dP)
    rw [List.length_map] at h2
    omega
/-- where a flight ends -/
def land (airs : List Pt) (s : Pt) (u d b : Nat) : Pt := (way airs s (lv u d b)).getLastD (0, 0)
/-- which bursts reach a goal -/
def able (airs : List Pt) (s : Pt) (u d : Nat) (G : List Pt) : List D := (rng 0 (airs.length + 1) 1).flatMap fun x => match x with | .int k => if ((G.map dP).any fun y => eqD y (dP (land airs s u d k.toNat))) = true then [x] else [] | _ => []
def first (l : List D) : D := match l with | [] => .non | x :: _ => x
theorem in_pts (p : Pt) (G : List Pt) : oIn (dP p) (.tup (G.map dP)) = .ret (.bl ((G.map dP).any fun y => eqD y (dP p))) := by
  have h : dIn (dP p) (.tup (G.map dP)) = .ret ((G.map dP).any fun y => eqD y (dP p)) := ck_pos ⟨flat_dP p, flat_dPs G, by rw [dep_dP]; have := dep_dPs G; unfold DEP; omega⟩
  unfold oIn bl
  rw [h]
  rfl
theorem able_flat (airs : List Pt) (s : Pt) (u d : Nat) (G : List Pt) : ∀ x ∈ able airs s u d G, ∃ k : Nat, k ≤ airs.length ∧ x = .int k := fun x hx => by
  obtain ⟨y, hy, h⟩ := List.mem_flatMap.mp hx
  obtain ⟨k, hk, rfl⟩ := rng_mem hy
  simp only at h
  split at h
  · rw [List.mem_singleton.mp h]
    exact ⟨k, by omega, by rw [Int.zero_add]⟩
  · cases h
theorem len_able (airs : List Pt) (s : Pt) (u d : Nat) (G : List Pt) : (able airs s u d G).length ≤ airs.length + 1 := by
  have : ∀ (l : List D) (f : D → List D), (∀ x ∈ l, (f x).length ≤ 1) → (l.flatMap f).length ≤ l.length := by
    intro l f h
    induction l with
    | nil => exact Nat.le_refl _
    | cons x r ih =>
      rw [List.flatMap_cons, List.length_append, List.length_cons]
      have h1 := h x List.mem_cons_self
      have h2 := ih fun y hy => h y (List.mem_cons_of_mem _ hy)
      omega
  refine Nat.le_trans (this _ _ fun x hx => ?_) (by rw [length_rng]; exact Nat.le_refl _)
  obtain ⟨k, hk, rfl⟩ := rng_mem hx
  simp only
  split <;> simp
/-- able[0] if able != [] else None -/
theorem pick_first {i : Nat} {env : Env} {l : List D} (h : eVarB i env = .ret (.lst l)) (hf : ∀ x ∈ l, ∃ k : Nat, x = .int k) : eIte (eBin oNe (eVarB i) (eLst [])) (eBin dIdx (eVarB i) (eLit (.int 0))) (eLit .non) env = .ret (first l) := by
  have fl : flatL l = true := flatL_of fun d hd => by
    obtain ⟨k, rfl⟩ := hf d hd
    rfl
  have e : oNe (.lst l) (.lst []) = .ret (.bl (!l.isEmpty)) := by
    have : dEq (.lst l) (.lst []) = .ret l.isEmpty := by
      have h1 : dEq (.lst l) (.lst []) = .ret (eqD (.lst l) (.lst [])) := ck_pos ⟨by simp only [flat]; exact fl, rfl, by simp only [dep, depL]; unfold DEP; omega⟩
      rw [h1]
      cases l <;> rfl
    unfold oNe
    rw [this]
    rfl
  refine ite_ret (k := !l.isEmpty) (bin_ret h (y := .lst []) rfl e) ?_
  cases l with
  | nil => rfl
  | cons x r => exact bin_ret h lit1 (idx_lst (i := 0) rfl)
section
variable {u d : Nat} (hu : u ≤ 10) (hd : d ≤ 10) {airs : List Pt} (ha : airs.length ≤ 10) (s : Pt)
include hu hd ha
theorem x_burst_for (G : List Pt) : F_burst_for [.tup (airs.map dP), dP s, .int u, .int d, .tup (G.map dP)] = .ret (first (able airs s u d G)) := by
  have hL : (1000 : Nat) ≤ LIM := by decide
  have hla := len_able airs s u d G
  unfold F_burst_for
  refine run_ret (env := [some (false, .tup (airs.map dP)), some (false, dP s), some (false, .int u), some (false, .int d), some (false, .tup (G.map dP)), none, none]) rfl ?_
  unfold c_burst_for
  have h1 : eLc (eVar 6) [⟨[6], (tName 6), (iRng [(eBin dAdd (ePrim pLen [(eVarB 0)]) (eLit (.int 1)))]), [(eBin oIn (eCall F_lands_at [(eVar 0), (eVar 1), (eVar 2), (eVar 3), (eVar 6)]) (eVarB 4))]⟩] [some (false, .tup (airs.map dP)), some (false, dP s), some (false, .int u), some (false, .int d), some (false, .tup (G.map dP)), none, none] = .ret (.lst (able airs s u d G)) := by
    refine lc_one _ ((iRng1 (d := .int ((airs.length + 1 : Nat) : Int)) ?_).trans (range1 (by omega))) (by unfold able at hla; omega) fun x hx => ?_
    · refine bin_ret (prim1 (x := .tup (airs.map dP)) rfl rfl) lit1 ?_
      rw [List.length_map]
      rfl
    · obtain ⟨k, hk, rfl⟩ := rng_mem hx
      rw [Int.zero_add]
      refine ⟨[some (false, .tup (airs.map dP)), some (false, dP s), some (false, .int u), some (false, .int d), some (false, .tup (G.map dP)), none, some (false, .int k)], rfl, ?_⟩
      have ht : tests [(eBin oIn (eCall F_lands_at [(eVar 0), (eVar 1), (eVar 2), (eVar 3), (eVar 6)]) (eVarB 4))] [some (false, .tup (airs.map dP)), some (false, dP s), some (false, .int u), some (false, .int d), some (false, .tup (G.map dP)), none, some (false, .int k)] = .ret ((G.map dP).any fun y => eqD y (dP (land airs s u d k))) := by
        unfold tests
        rw [bin_ret (call_ret (ds := [.tup (airs.map dP), dP s, .int u, .int d, .int k]) rfl (x_lands hu hd (by omega) (by omega) s)) rfl (in_pts _ G), ret_bind]
        show ((M.ret ((G.map dP).any fun y => eqD y (dP (land airs s u d k)))) >>= fun k => if k = true then tests [] _ else .ret false) = _
        rw [ret_bind]
        cases ((G.map dP).any fun y => eqD y (dP (land airs s u d k))) <;> rfl
      have ek : ((k : Nat) : Int).toNat = k := Int.toNat_natCast k
      simp only [ek]
      cases hq : ((G.map dP).any fun y => eqD y (dP (land airs s u d k))) with
      | true => exact .inl ⟨by rw [ht, hq], .int k, rfl, by simp⟩
      | false => exact .inr ⟨by rw [ht, hq], by simp⟩
  refine (blk_nx (e := [some (false, .tup (airs.map dP)), some (false, dP s), some (false, .int u), some (false, .int d), some (false, .tup (G.map dP)), some (false, .lst (able airs s u d G)), none]) (set1 h1)).trans ?_
  exact ret1 (pick_first rfl fun x hx => let ⟨k, _, e⟩ := able_flat airs s u d G x hx; ⟨k, e⟩)
/-- the ends of the bursts -/
theorem x_search {l m : Nat} (h : l ≤ m) (hm : m ≤ airs.length) : F_search_area [.tup (airs.map dP), dP s, .int u, .int d, .int l, .int m] = .ret (.tup (sortD ltD (dedup (((List.range (m + 1 - l)).map fun k => land airs s u d (l + k)).map dP)))) := by
  have hL : (1000 : Nat) ≤ LIM := by decide
  unfold F_search_area
  refine run_ret (env := [some (false, .tup (airs.map dP)), some (false, dP s), some (false, .int u), some (false, .int d), some (false, .int l), some (false, .int m), none]) rfl ?_
  unfold c_search_area
  have h1 : eLc (eCall F_lands_at [(eVar 0), (eVar 1), (eVar 2), (eVar 3), (eVar 6)]) [⟨[6], (tName 6), (iRng [(eVar 4), (eBin dAdd (eVarB 5) (eLit (.int 1)))]), []⟩] [some (false, .tup (airs.map dP)), some (false, dP s), some (false, .int u), some (false, .int d), some (false, .int l), some (false, .int m), none] =
      .ret (.lst (((List.range (m + 1 - l)).map fun k => land airs s u d (l + k)).map dP)) := by
    have e : ((List.range (m + 1 - l)).map fun k => land airs s u d (l + k)).map dP = (rng (l : Int) (m + 1 - l) 1).map fun x => match x with | .int k => dP (land airs s u d k.toNat) | _ => .non := by
      unfold rng
      rw [List.map_map, List.map_map]
      apply List.map_congr_left
      intro k _
      show dP (land airs s u d (l + k)) = dP (land airs s u d ((l : Int) + Int.ofNat k * 1).toNat)
      congr 2
      have : (Int.ofNat k) = (k : Int) := rfl
      rw [this]
      omega
    rw [e]
    refine lc_map _ ((iRng2 (d := .int (l : Nat)) (e := .int ((m : Nat) + 1)) rfl rfl).trans ?_) rfl (by rw [length_rng]; omega) fun x hx => ?_
    · rw [range2 (by omega) (by omega) (by omega) (by omega)]
      have : ((m : Int) + 1 - l).toNat = m + 1 - l := by omega
      rw [this]
    · obtain ⟨k, hk, rfl⟩ := rng_mem hx
      have e2 : ((l : Int) + (k : Nat)) = ((l + k : Nat) : Int) := by omega
      rw [e2]
      simp only [Int.toNat_natCast]
      have q := call_ret (F := F_lands_at) (es := [(eVar 0), (eVar 1), (eVar 2), (eVar 3), (eVar 6)]) (env := [some (false, .tup (airs.map dP)), some (false, dP s), some (false, .int u), some (false, .int d), some (false, .int l), some (false, .int m), some (false, .int ((l + k : Nat) : Int))]) (ds := [.tup (airs.map dP), dP s, .int u, .int d, .int ((l + k : Nat) : Int)]) rfl (x_lands hu hd (b := l + k) (by omega) (by omega) s)
      rw [tgt1 (e := [some (false, .tup (airs.map dP)), some (false, dP s), some (false, .int u), some (false, .int d), some (false, .int l), some (false, .int m), some (false, .int ((l + k : Nat) : Int))]) rfl]
      exact q
  exact ret1 (call_ret (all_cons h1 all_nil) (x_set_of (by rw [List.length_map, List.length_range]; omega)))
/-- off the goal, with the place -/
def off (airs : List Pt) (u d b : Nat) (g p : Pt) : D := .tup [.int (far (land airs p u d b) g), dP p]
theorem x_best {b : Nat} (hb : b ≤ airs.length) (g : Pt) (S : List Pt) (hS : S.length ≤ 100) : F_best_post [.tup (airs.map dP), .tup (S.map dP), .int u, .int d, .int b, dP g] = pMin [.lst (S.map (off airs u d b g))] >>= fun d => .ret d := by
  have hL : (1000 : Nat) ≤ LIM := by decide
  unfold F_best_post
  have h1 : eLc (eTup [(eCall F_apart [(eCall F_lands_at [(eVar 0), (eVar 6), (eVar 2), (eVar 3), (eVar 4)]), (eVar 5)]), (eVar 6)]) [⟨[6], (tName 6), (iVal (eVarB 1)), []⟩] [some (false, .tup (airs.map dP)), some (false, .tup (S.map dP)), some (false, .int u), some (false, .int d), some (false, .int b), some (false, dP g), none] =
      .ret (.lst (S.map (off airs u d b g))) := by
    have e : S.map (off airs u d b g) = (S.map dP).map fun x => match x with | .tup [.int i, .int j] => off airs u d b g (i, j) | _ => .non := by
      rw [List.map_map]
      rfl
    rw [e]
    refine lc_map _ (val1 rfl rfl) rfl (by rw [List.length_map]; omega) fun x hx => ?_
    obtain ⟨p, _, rfl⟩ := List.mem_map.mp hx
    have k1 : eCall F_lands_at [(eVar 0), (eVar 6), (eVar 2), (eVar 3), (eVar 4)] [some (false, .tup (airs.map dP)), some (false, .tup (S.map dP)), some (false, .int u), some (false, .int d), some (false, .int b), some (false, dP g), some (false, dP p)] = .ret (dP (land airs p u d b)) :=
      call_ret (ds := [.tup (airs.map dP), dP p, .int u, .int d, .int b]) rfl (x_lands hu hd (by omega) hb p)
    have q := tup_ret (all_cons (call_ret (F := F_apart) (all_cons k1 (all_cons (e := eVar 5) (d := dP g) rfl all_nil)) (x_apart _ _)) (all_cons (e := eVar 6) (d := dP p) rfl all_nil))
    rw [tgt1 (e := [some (false, .tup (airs.map dP)), some (false, .tup (S.map dP)), some (false, .int u), some (false, .int d), some (false, .int b), some (false, dP g), some (false, dP p)]) rfl]
    exact q
  unfold run
  have hr : c_best_post [some (false, .tup (airs.map dP)), some (false, .tup (S.map dP)), some (false, .int u), some (false, .int d), some (false, .int b), some (false, dP g), none] = (pMin [.lst (S.map (off airs u d b g))] >>= fun d => .ret (.rt d)) := by
    unfold c_best_post
    show sRet _ _ = _
    unfold sRet
    rw [prim1 h1 rfl]
  show (c_best_post [some (false, .tup (airs.map dP)), some (false, .tup (S.map dP)), some (false, .int u), some (false, .int d), some (false, .int b), some (false, dP g), none] >>= _) = _
  rw [hr, bind_asc]
  rfl
end
theorem x_highest {u : Int} (h : 0 < u) (h2 : u < W30) (m : Int) : F_highest_by [.int u, .int m] = .ret (.int (m / u)) := by
  unfold F_highest_by
  refine run_ret (env := [some (false, .int u), some (false, .int m)]) rfl ?_
  unfold c_highest_by
  refine ret1 (bin_ret (x := .int m) (y := .int u) rfl rfl ?_)
  unfold dFdiv
  simp only [if_pos h]
  exact ck_pos h2
/-! ### moving the start -/
theorem pad_pad (s p q : Pt) : pad (pad s p) q = pad s (pad p q) := by
  unfold pad
  simp [Int.add_assoc]
theorem stp_pad {airs : List Pt} (s : Pt) {a : List Pt} (h : a ≠ []) (k : Nat) : stp airs (a.map (pad s)) k = (stp airs a k).map (pad s) := by
  unfold stp
  rw [List.map_append]
  congr 1
  show [_] = [pad s _]
  rw [← pad_pad]
  congr 2
  rw [List.getLastD_eq_getLast?, List.getLast?_map, List.getLast?_eq_some_getLast h, List.getLastD_eq_getLast?, List.getLast?_eq_some_getLast h]
  rfl
theorem fold_pad {airs : List Pt} (s : Pt) : ∀ (ks : List Nat) {a : List Pt}, a ≠ [] → ks.foldl (stp airs) (a.map (pad s)) = (ks.foldl (stp airs) a).map (pad s)
  | [], a, _ => rfl
  | k :: r, a, h => by
    rw [List.foldl_cons, stp_pad s h, fold_pad s r stp_ne, List.foldl_cons]
theorem fold_ne {airs : List Pt} : ∀ (ks : List Nat) {a : List Pt}, a ≠ [] → ks.foldl (stp airs) a ≠ []
  | [], _, h => h
  | k :: r, a, _ => fold_ne r stp_ne
theorem land_pad (airs : List Pt) (s : Pt) (u d b : Nat) : land airs s u d b = pad s (land airs (0, 0) u d b) := by
  unfold land way
  have e : [s] = [((0, 0) : Pt)].map (pad s) := by simp [pad]
  have h := fold_pad (airs := airs) s (lv u d b) (a := [((0, 0) : Pt)]) (by simp)
  rw [← e] at h
  rw [h, List.getLastD_eq_getLast?, List.getLast?_map, List.getLast?_eq_some_getLast (fold_ne _ (by simp)), List.getLastD_eq_getLast?, List.getLast?_eq_some_getLast (fold_ne _ (by simp))]
  rfl
theorem eq_dP (p q : Pt) : eqD (dP p) (dP q) = decide (p = q) := by
  rw [dP_TI, dP_TI, eq_dTI]
  by_cases h : p = q
  · simp [h]
  · have : ¬ ([p.1, p.2] = [q.1, q.2]) := fun e => h (by simp at e; exact Prod.ext e.1 e.2)
    simp [h, this]
theorem oEq_dP (p q : Pt) : oEq (dP p) (dP q) = .ret (.bl (decide (p = q))) := by
  have h : dEq (dP p) (dP q) = .ret (eqD (dP p) (dP q)) := ck_pos ⟨flat_dP p, flat_dP q, by rw [dep_dP, dep_dP]; decide⟩
  unfold oEq bl
  rw [h, eq_dP]
  rfl
theorem pad_inj (s p q : Pt) : (pad s p = pad s q) ↔ p = q := by
  constructor
  · intro h
    unfold pad at h
    simp at h
    exact Prod.ext (by omega) (by omega)
  · intro h
    rw [h]
theorem x_same {u d : Nat} (hu : u ≤ 10) (hd : d ≤ 10) {airs : List Pt} (ha : airs.length ≤ 10) (s : Pt) {l m : Nat} (hl : l ≤ airs.length) (hm : m ≤ airs.length) : F_same_landing [.tup (airs.map dP), .int u, .int d, .int l, .int m] = .ret (.bl (decide (land airs s u d l = land airs s u d m))) := by
  unfold F_same_landing
  refine run_ret (env := [some (false, .tup (airs.map dP)), some (false, .int u), some (false, .int d), some (false, .int l), some (false, .int m)]) rfl ?_
  unfold c_same_landing
  have h1 := x_lands hu hd (b := l) (by omega) hl ((0, 0) : Pt)
  have h2 := x_lands hu hd (b := m) (by omega) hm ((0, 0) : Pt)
  refine ret1 (bin_ret (call_ret (ds := [.tup (airs.map dP), dP (0, 0), .int u, .int d, .int l]) rfl h1) (call_ret (ds := [.tup (airs.map dP), dP (0, 0), .int u, .int d, .int m]) rfl h2) ?_)
  refine (oEq_dP _ _).trans ?_
  have e : decide (land airs s u d l = land airs s u d m) = decide (land airs (0, 0) u d l = land airs (0, 0) u d m) := by
    rw [land_pad airs s u d l, land_pad airs s u d m]
    exact decide_eq_decide.mpr (pad_inj s _ _)
  rw [e]
  rfl
/-- a loop that appends -/
theorem nat_loop {α : Type} {m : Nat} {t : Tgt} {body : St} (w : Nat → α) (R : List α → Env → Prop) (hs : ∀ a k env, k < m → a.length < 1000 → R a env → ∃ e, (t (dN k) env >>= body) = .ret (.nx e) ∧ R (a ++ [w k]) e) :
    ∀ (ks : List Nat) (a : List α) (env : Env), (∀ k ∈ ks, k < m) → a.length + ks.length ≤ 1000 → R a env → ∃ e, forGo t body (ks.map dN) env = .ret (.nx e) ∧ R (a ++ ks.map w) e
  | [], a, env, _, _, h => ⟨env, rfl, by simpa using h⟩
  | k :: r, a, env, hk, hl, h => by
    rw [List.length_cons] at hl
    obtain ⟨e1, h1, h2⟩ := hs a k env (hk k List.mem_cons_self) (by omega) h
    obtain ⟨e2, h3, h4⟩ := nat_loop w R hs r (a ++ [w k]) e1 (fun j hj => hk j (List.mem_cons_of_mem _ hj)) (by rw [List.length_append, List.length_singleton]; omega) h2
    refine ⟨e2, ?_, by rw [List.map_cons]; rw [List.append_assoc] at h4; exact h4⟩
    rw [List.map_cons]
    unfold forGo
    cases q : t (dN k) env with
    | ret env' =>
      rw [q, ret_bind] at h1
      rw [ret_bind, h1, ret_bind]
      exact h3
    | exc c v => rw [q] at h1; cases h1
    | bad => rw [q] at h1; cases h1
    | draw n k => rw [q] at h1; cases h1
/-! ### the winds seen -/
def gaps : List Pt → List Pt
  | p :: q :: r => (q.1 - p.1, q.2 - p.2) :: gaps (q :: r)
  | _ => []
theorem gaps_snoc : ∀ (a : List Pt) (x : Pt), a ≠ [] → gaps (a ++ [x]) = gaps a ++ [(x.1 - (a.getLastD (0, 0)).1, x.2 - (a.getLastD (0, 0)).2)]
  | [], _, h => absurd rfl h
  | [p], x, _ => rfl
  | p :: q :: r, x, _ => by
    have ih := gaps_snoc (q :: r) x (by simp)
    show _ :: gaps ((q :: r) ++ [x]) = _
    rw [ih]
    rfl
theorem gaps_fold {airs : List Pt} : ∀ (ks : List Nat) (a : List Pt), a ≠ [] → gaps (ks.foldl (stp airs) a) = gaps a ++ ks.map fun k => airs.getD k (0, 0)
  | [], a, _ => by simp
  | k :: r, a, h => by
    rw [List.foldl_cons, gaps_fold r _ stp_ne]
    have e : gaps (stp airs a k) = gaps a ++ [airs.getD k (0, 0)] := by
      unfold stp
      rw [gaps_snoc a _ h]
      congr 2
      unfold pad
      apply Prod.ext
      · show (a.getLastD (0, 0)).1 + (airs.getD k (0, 0)).1 - (a.getLastD (0, 0)).1 = _
        omega
      · show (a.getLastD (0, 0)).2 + (airs.getD k (0, 0)).2 - (a.getLastD (0, 0)).2 = _
        omega
    rw [e, List.map_cons, List.append_assoc]
    rfl
theorem gaps_zip : ∀ R : List Pt, gaps R = (R.zip (R.drop 1)).map fun q => (q.2.1 - q.1.1, q.2.2 - q.1.2)
  | [] => rfl
  | [p] => rfl
  | p :: q :: r => by
    have ih := gaps_zip (q :: r)
    show _ :: gaps (q :: r) = _
    rw [ih]
    rfl
theorem fold_pre {airs : List Pt} : ∀ (ks : List Nat) (a : List Pt), ∃ t, ks.foldl (stp airs) a = a ++ t
  | [], a => ⟨[], by simp⟩
  | k :: r, a => by
    obtain ⟨t, e⟩ := fold_pre r (stp airs a k)
    refine ⟨[pad (a.getLastD (0, 0)) (airs.getD k (0, 0))] ++ t, ?_⟩
    rw [List.foldl_cons, e]
    unfold stp
    rw [List.append_assoc]
/-- the rise of a flight -/
def up1 (u b : Nat) : List Nat := (List.range b).flatMap fun k => List.replicate u k
theorem rise_of {airs : List Pt} {s : Pt} {u d b : Nat} : (way airs s (lv u d b)).take (u * b + 1) = way airs s (up1 u b) := by
  unfold way lv
  rw [List.foldl_append]
  obtain ⟨t, e⟩ := fold_pre (airs := airs) ((List.range b).reverse.flatMap fun k => List.replicate d k) (((List.range b).flatMap fun k => List.replicate u k).foldl (stp airs) [s])
  rw [e]
  have l := len_way (airs := airs) ((List.range b).flatMap fun k => List.replicate u k) [s]
  rw [len_flat, List.length_range, List.length_singleton, Nat.mul_comm b u] at l
  rw [List.take_append_of_le_length (by rw [l]; omega), List.take_of_length_le (by rw [l]; omega)]
  rfl
theorem block {α : Type} (u : Nat) (f : Nat → α) : ∀ (b j i0 : Nat), j < b → (((List.range' i0 b).flatMap fun k => List.replicate u (f k)).drop (j * u)).take u = List.replicate u (f (i0 + j))
  | 0, j, i0, h => absurd h (Nat.not_lt_zero _)
  | b + 1, 0, i0, _ => by
    rw [List.range'_succ, List.flatMap_cons, Nat.zero_mul, List.drop_zero]
    rw [List.take_append_of_le_length (by simp), List.take_of_length_le (by simp)]
    rfl
  | b + 1, j + 1, i0, h => by
    rw [List.range'_succ, List.flatMap_cons, Nat.succ_mul, List.drop_append]
    rw [List.drop_of_length_le (by rw [List.length_replicate]; omega), List.nil_append, List.length_replicate, Nat.add_sub_cancel]
    have := block u f b j (i0 + 1) (by omega)
    rw [show i0 + (j + 1) = i0 + 1 + j by omega]
    exact this
theorem up1_wind {airs : List Pt} {u b : Nat} : (up1 u b).map (fun k => airs.getD k (0, 0)) = (List.range b).flatMap fun k => List.replicate u (airs.getD k (0, 0)) := by
  unfold up1
  rw [flat_rep, List.flatMap_map]
theorem take_winds {airs : List Pt} {b : Nat} (h : b ≤ airs.length) : (List.range b).map (fun k => airs.getD k (0, 0)) = airs.take b := by
  apply List.ext_getElem
  · simp; omega
  · intro i h1 h2
    have hi : i < airs.length := by simp at h2; omega
    simp [List.getElem?_eq_getElem hi]
theorem foldl_snoc {α β : Type} (w : α → β) : ∀ (l : List α) (acc : List β), l.foldl (fun a k => a ++ [w k]) acc = acc ++ l.map w
  | [], acc => by simp
  | x :: r, acc => by rw [List.foldl_cons, foldl_snoc w r]; simp
theorem bls_rep_false : ∀ n, blsOf (List.replicate n (D.bl false)) = some (List.replicate n false)
  | 0 => rfl
  | n + 1 => by rw [List.replicate_succ, blsOf, bls_rep_false n]; rfl
theorem x_airs_seen {u b : Nat} (hu0 : 0 < u) (hu : u ≤ 10) (hb : b ≤ 10) {airs : List Pt} (ha : b ≤ airs.length) (s : Pt) : F_airs_seen [.tup ((way airs s (up1 u b)).map dP), .int u] = .ret (.tup ((airs.take b).map dP)) := by
  have hL : (1000 : Nat) ≤ LIM := by decide
  have m1 : b * u ≤ 100 := Nat.le_trans (Nat.mul_le_mul hb hu) (by decide)
  obtain ⟨R, hR⟩ : ∃ R, R = way airs s (up1 u b) := ⟨_, rfl⟩
  have lR : R.length = 1 + b * u := by
    rw [hR]
    unfold way
    rw [len_way]
    unfold up1
    rw [len_flat, List.length_range]
    rfl
  obtain ⟨Gp, hG⟩ : ∃ Gp, Gp = (List.range b).flatMap fun k => List.replicate u (airs.getD k (0, 0)) := ⟨_, rfl⟩
  have hgap : gaps R = Gp := by
    rw [hR, hG]
    unfold way
    rw [gaps_fold _ _ (by simp), up1_wind]
    rfl
  have lG : Gp.length = b * u := by
    rw [hG, ← up1_wind, List.length_map]
    unfold up1
    rw [len_flat, List.length_range]
  rw [← hR]
  unfold F_airs_seen
  refine run_ret (env := [some (false, .tup (R.map dP)), some (false, .int u), none, none, none, none, none, none, none]) rfl ?_
  unfold c_airs_seen
  have h1 : eLc (eTup [(eBin dSub (eBin dIdx (eVarB 7) (eLit (.int 0))) (eBin dIdx (eVarB 6) (eLit (.int 0)))), (eBin dSub (eBin dIdx (eVarB 7) (eLit (.int 1))) (eBin dIdx (eVarB 6) (eLit (.int 1))))]) [⟨[6, 7], (tTup [(tName 6), (tName 7)]), (iZip (eVarB 0) (eSlc (eVarB 0) (some (eLit (.int 1))) none)), []⟩] [some (false, .tup (R.map dP)), some (false, .int u), none, none, none, none, none, none, none] = .ret (.lst (Gp.map dP)) := by
    have ez : iZip (eVarB 0) (eSlc (eVarB 0) (some (eLit (.int 1))) none) [some (false, .tup (R.map dP)), some (false, .int u), none, none, none, none, none, none, none] = .ret ((R.zip (R.drop 1)).map fun q => .tup [dP q.1, dP q.2]) := by
      have e2 : eSlc (eVarB 0) (some (eLit (.int 1))) none [some (false, .tup (R.map dP)), some (false, .int u), none, none, none, none, none, none, none] = .ret (.tup ((R.drop 1).map dP)) := by
        refine slc_ret (x := .tup (R.map dP)) rfl (part_int lit1) part_none ?_
        show M.ret (D.tup (cut (R.map dP) (some ((1 : Nat) : Int)) none)) = _
        rw [cut_from (by rw [List.length_map, lR]; omega), List.map_drop]
      have e1 : eVarB 0 [some (false, .tup (R.map dP)), some (false, .int u), none, none, none, none, none, none, none] = .ret (.tup (R.map dP)) := rfl
      unfold iZip
      rw [e1, ret_bind, e2, ret_bind]
      show M.ret (((R.map dP).zip ((R.drop 1).map dP)).map fun p => D.tup [p.1, p.2]) = _
      rw [List.zip_map, List.map_map]
      rfl
    have ed : Gp.map dP = ((R.zip (R.drop 1)).map fun q => D.tup [dP q.1, dP q.2]).map fun x => match x with | .tup [.tup [.int a, .int b], .tup [.int c, .int e]] => dP (c - a, e - b) | _ => .non := by
      rw [← hgap, gaps_zip, List.map_map, List.map_map]
      rfl
    rw [ed]
    refine lc_map _ ez rfl (by rw [List.length_map, List.length_zip, List.length_drop, lR]; omega) fun x hx => ?_
    obtain ⟨q, _, rfl⟩ := List.mem_map.mp hx
    rfl
  refine (blk_nx (e := [some (false, .tup (R.map dP)), some (false, .int u), some (false, .lst (Gp.map dP)), none, none, none, none, none, none]) (set1 h1)).trans ?_
  refine (blk_nx (e := [some (false, .tup (R.map dP)), some (false, .int u), some (false, .lst (Gp.map dP)), some (true, .lst []), none, none, none, none, none]) (own1 (d := .lst []) rfl)).trans ?_
  have hu30 : ((u : Nat) : Int) < W30 := by
    have : (10 : Int) < W30 := by decide
    omega
  have hsm : small ((u : Nat) : Int) := by
    have : (10 : Int) < W64 := by decide
    unfold small
    omega
  have hit : iRng [(eBin dFdiv (ePrim pLen [(eVarB 2)]) (eVarB 1))] [some (false, .tup (R.map dP)), some (false, .int u), some (false, .lst (Gp.map dP)), some (true, .lst []), none, none, none, none, none] = .ret (rng 0 b 1) := by
    have hq : dFdiv (.int (Gp.map dP).length) (.int u) = .ret (.int (b : Nat)) := by
      unfold dFdiv
      have h0 : (0 : Int) < (u : Nat) := by omega
      simp only [if_pos h0]
      rw [ck_pos hu30, List.length_map, lG]
      congr 2
      rw [Int.natCast_mul]
      exact Int.mul_ediv_cancel _ (by omega)
    exact (iRng1 (bin_ret (x := .int (Gp.map dP).length) (prim1 (x := .lst (Gp.map dP)) rfl rfl) rfl hq)).trans (range1 (by omega))
  have hs : ∀ (a : List Pt) (k : Nat) (env : Env), k < b → a.length < 1000 → (∃ o4 o5, env = [some (false, .tup (R.map dP)), some (false, .int u), some (false, .lst (Gp.map dP)), some (true, .lst (a.map dP)), o4, o5, none, none, none]) →
      ∃ e, (tName 4 (dN k) env >>= (sBlk [(sTgt (tName 5) (eSlc (eVarB 2) (some (eBin dMul (eVarB 4) (eVarB 1))) (some (eBin dMul (eBin dAdd (eVarB 4) (eLit (.int 1))) (eVarB 1))))),
    (sIf (ePrim pAny [(eLc (eBin oNe (eVarB 8) (eBin dIdx (eVarB 5) (eLit (.int 0)))) [⟨[8], (tName 8), (iVal (eVarB 5)), []⟩])]) (sBlk [(sRet (eLit .non))]) (sBlk [])),
    (sMut 3 fAppend (eBin dIdx (eVarB 5) (eLit (.int 0))))])) = .ret (.nx e) ∧ ∃ o4 o5, e = [some (false, .tup (R.map dP)), some (false, .int u), some (false, .lst (Gp.map dP)), some (true, .lst ((a ++ [airs.getD k (0, 0)]).map dP)), o4, o5, none, none, none] := by
    rintro a k env hk hl ⟨o4, o5, rfl⟩
    have w1 : airs.getD k (0, 0) = airs.getD k (0, 0) := rfl
    obtain ⟨wk, hwk⟩ : ∃ wk, wk = airs.getD k (0, 0) := ⟨_, rfl⟩
    have hmul : ∀ n : Nat, dMul (.int (n : Nat)) (.int (u : Nat)) = .ret (.int ((n * u : Nat) : Int)) := fun n => by
      show ck (small ((n : Nat) : Int) ∨ small ((u : Nat) : Int)) (M.ret (D.int (((n : Nat) : Int) * ((u : Nat) : Int)))) = _
      rw [ck_pos (.inr hsm), Int.natCast_mul]
    have hku : (k + 1) * u ≤ b * u := Nat.mul_le_mul (by omega) (Nat.le_refl _)
    have hs1 : eSlc (eVarB 2) (some (eBin dMul (eVarB 4) (eVarB 1))) (some (eBin dMul (eBin dAdd (eVarB 4) (eLit (.int 1))) (eVarB 1))) [some (false, .tup (R.map dP)), some (false, .int u), some (false, .lst (Gp.map dP)), some (true, .lst (a.map dP)), some (false, dN k), o5, none, none, none] = .ret (.lst (List.replicate u (dP wk))) := by
      refine slc_ret (x := .lst (Gp.map dP)) rfl (part_int (i := ((k * u : Nat) : Int)) (bin_ret (x := .int (k : Nat)) (y := .int (u : Nat)) rfl rfl (hmul k))) (part_int (i := (((k + 1) * u : Nat) : Int)) (bin_ret (x := .int ((k + 1 : Nat) : Int)) (y := .int (u : Nat)) rfl rfl (hmul (k + 1)))) ?_
      show M.ret (D.lst (cut (Gp.map dP) (some ((k * u : Nat) : Int)) (some (((k + 1) * u : Nat) : Int)))) = _
      rw [cut_nat (by rw [List.length_map, lG]; exact hku) (Nat.mul_le_mul (by omega) (Nat.le_refl _))]
      have e1 : (k + 1) * u - k * u = u := by rw [Nat.succ_mul]; omega
      rw [e1, ← List.map_drop, ← List.map_take, hG, List.range_eq_range', block u (fun k => airs.getD k (0, 0)) b k 0 hk, Nat.zero_add, ← hwk, List.map_replicate]
    have e0 : tName 4 (dN k) [some (false, .tup (R.map dP)), some (false, .int u), some (false, .lst (Gp.map dP)), some (true, .lst (a.map dP)), o4, o5, none, none, none] = .ret [some (false, .tup (R.map dP)), some (false, .int u), some (false, .lst (Gp.map dP)), some (true, .lst (a.map dP)), some (false, dN k), o5, none, none, none] := rfl
    rw [e0, ret_bind]
    have hx : dIdx (.lst (List.replicate u (dP wk))) (.int 0) = .ret (dP wk) := idx_lst (i := 0) (by rw [List.getElem?_replicate, if_pos hu0])
    have hc : eLc (eBin oNe (eVarB 8) (eBin dIdx (eVarB 5) (eLit (.int 0)))) [⟨[8], (tName 8), (iVal (eVarB 5)), []⟩] [some (false, .tup (R.map dP)), some (false, .int u), some (false, .lst (Gp.map dP)), some (true, .lst (a.map dP)), some (false, dN k), some (false, .lst (List.replicate u (dP wk))), none, none, none] = .ret (.lst (List.replicate u (.bl false))) := by
      have er : List.replicate u (D.bl false) = (List.replicate u (dP wk)).map fun _ => D.bl false := by rw [List.map_replicate]
      rw [er]
      refine lc_map _ (val1 rfl rfl) rfl (by rw [List.length_replicate]; omega) fun x hx' => ?_
      have ex := (List.mem_replicate.mp hx').2
      subst ex
      rw [tgt1 (e := [some (false, .tup (R.map dP)), some (false, .int u), some (false, .lst (Gp.map dP)), some (true, .lst (a.map dP)), some (false, dN k), some (false, .lst (List.replicate u (dP wk))), none, none, some (false, dP wk)]) rfl]
      exact bin_ret (x := dP wk) rfl (bin_ret rfl lit1 hx) (ne_self (flat_dP wk) (by rw [dep_dP]; decide))
    have ha2 : ePrim pAny [(eLc (eBin oNe (eVarB 8) (eBin dIdx (eVarB 5) (eLit (.int 0)))) [⟨[8], (tName 8), (iVal (eVarB 5)), []⟩])] [some (false, .tup (R.map dP)), some (false, .int u), some (false, .lst (Gp.map dP)), some (true, .lst (a.map dP)), some (false, dN k), some (false, .lst (List.replicate u (dP wk))), none, none, none] = .ret (.bl false) := by
      refine prim1 hc ?_
      unfold pAny
      simp only [bls_rep_false]
      have : (List.replicate u false).any id = false := by
        rw [List.any_eq_false]
        intro x hx
        rw [(List.mem_replicate.mp hx).2]
        decide
      rw [this]
    have b1 := set1 (i := 5) hs1
    refine ⟨_, (blk_nx (e := [some (false, .tup (R.map dP)), some (false, .int u), some (false, .lst (Gp.map dP)), some (true, .lst (a.map dP)), some (false, dN k), some (false, .lst (List.replicate u (dP wk))), none, none, none]) b1).trans ((blk_nx (if_ret ha2 (r := .ret (.nx _)) rfl)).trans (mut1 (i := 3) (c := .lst (a.map dP)) (bin_ret rfl lit1 hx) rfl (app_lst (by rw [List.length_map]; exact lim1000 hl)))), some (false, dN k), some (false, .lst (List.replicate u (dP wk))), ?_⟩
    rw [List.map_append, ← hwk]
    rfl
  obtain ⟨e, hf, o4, o5, he⟩ := nat_loop (fun k => airs.getD k (0, 0)) (fun a env => ∃ o4 o5, env = [some (false, .tup (R.map dP)), some (false, .int u), some (false, .lst (Gp.map dP)), some (true, .lst (a.map dP)), o4, o5, none, none, none]) hs (List.range b) [] [some (false, .tup (R.map dP)), some (false, .int u), some (false, .lst (Gp.map dP)), some (true, .lst []), none, none, none, none, none] (fun k hk => List.mem_range.mp hk) (by rw [List.length_range]; simp; omega) ⟨none, none, rfl⟩
  rw [← rng_up] at hf
  rw [List.nil_append, take_winds ha] at he
  subst he
  refine (blk_nx (for1 (r := .ret (.nx _)) hit hf)).trans ?_
  exact ret1 (prim1 (x := .lst ((airs.take b).map dP)) rfl rfl)
/-! ### the law at any draws -/
theorem app_loop {α β : Type} (enc : β → D) (w : β → α) {t : Tgt} {body : St} (R : List α → Env → Prop) (hs : ∀ a k env, a.length < 1000 → R a env → ∃ e, (t (enc k) env >>= body) = .ret (.nx e) ∧ R (a ++ [w k]) e) :
    ∀ (ks : List β) (a : List α) (env : Env), a.length + ks.length ≤ 1000 → R a env → ∃ e, forGo t body (ks.map enc) env = .ret (.nx e) ∧ R (a ++ ks.map w) e
  | [], a, env, _, h => ⟨env, rfl, by simpa using h⟩
  | k :: r, a, env, hl, h => by
    rw [List.length_cons] at hl
    obtain ⟨e1, h1, h2⟩ := hs a k env (by omega) h
    obtain ⟨e2, h3, h4⟩ := app_loop enc w R hs r (a ++ [w k]) e1 (by rw [List.length_append, List.length_singleton]; omega) h2
    refine ⟨e2, ?_, by rw [List.map_cons]; rw [List.append_assoc] at h4; exact h4⟩
    rw [List.map_cons]
    unfold forGo
    cases q : t (enc k) env with
    | ret env' =>
      rw [q, ret_bind] at h1
      rw [ret_bind, h1, ret_bind]
      exact h3
    | exc c v => rw [q] at h1; cases h1
    | bad => rw [q] at h1; cases h1
    | draw n k => rw [q] at h1; cases h1
theorem pts_all : ∀ {l : List D}, (∀ y ∈ l, ∃ p : Pt, y = dP p) → ∃ S : List Pt, l = S.map dP ∧ S.length = l.length
  | [], _ => ⟨[], rfl, rfl⟩
  | x :: r, h => by
    obtain ⟨p, rfl⟩ := h x List.mem_cons_self
    obtain ⟨S, rfl, e⟩ := pts_all (l := r) fun y hy => h y (List.mem_cons_of_mem _ hy)
    exact ⟨p :: S, rfl, by simp⟩
theorem x_pick {ps : List Pt} (h : ps ≠ []) : Post (F_law_pick [.w, .lst (ps.map dP)]) fun d => ∃ p : Pt, d = dP p := by
  unfold F_law_pick
  refine Post.run (env := [some (false, .w), some (false, .lst (ps.map dP))]) rfl ?_
  unfold c_law_pick
  have hp : 0 < ps.length := List.length_pos_iff.mpr h
  have hn : ePrim pLen [(eVarB 1)] [some (false, .w), some (false, .lst (ps.map dP))] = .ret (.int ((ps.length : Nat) : Int)) := by
    refine prim1 (x := .lst (ps.map dP)) rfl ?_
    show M.ret (D.int ((ps.map dP).length : Nat)) = _
    rw [List.length_map]
  show Post (sRet _ _) _
  unfold sRet
  refine Post.bind (Post.bin (Post.eq (a := .lst (ps.map dP)) rfl ?_))
  refine Post.next1 (n := ((ps.length : Nat) : Int)) rfl hn (by omega) fun i hi => ?_
  have e : dIdx (.lst (ps.map dP)) (.int (i : Nat)) = .ret (dP (ps.getD i (0, 0))) := idx_lst (air_at (by omega))
  exact Post.eq e (Post.ret ⟨_, rfl⟩)
theorem ne_dP (p : Pt) : oNe (dP p) (dP p) = .ret (.bl false) := ne_self (flat_dP p) (by rw [dep_dP]; decide)
theorem ne_tup (l : List Pt) : oNe (.tup (l.map dP)) (.tup (l.map dP)) = .ret (.bl false) := ne_self (by simp only [flat]; exact flat_dPs l) (by simp only [dep]; have := dep_dPs l; unfold DEP; omega)
theorem ne_lst (l : List Pt) : oNe (.lst (l.map dP)) (.lst (l.map dP)) = .ret (.bl false) := ne_self (by simp only [flat]; exact flat_dPs l) (by simp only [dep]; have := dep_dPs l; unfold DEP; omega)
theorem no_if {c : Ex} {a : St} {env : Env} (h : c env = .ret (.bl false)) : sIf c a (sBlk []) env = .ret (.nx env) := if_ret h rfl
theorem first_mem {lt : D → D → Bool} : ∀ (r : List D) (x : D), firstLt lt x r ∈ x :: r
  | [], x => List.mem_cons_self
  | y :: r, x => by
    have h := first_mem (lt := lt) r (if lt y x then y else x)
    unfold firstLt
    rcases List.mem_cons.mp h with h | h
    · rw [h]
      split
      · exact List.mem_cons_of_mem _ List.mem_cons_self
      · exact List.mem_cons_self
    · exact List.mem_cons_of_mem _ (List.mem_cons_of_mem _ h)
theorem alk_dP (p q : Pt) : alk (dP p) (dP q) = true := alk_dTI [p.1, p.2] [q.1, q.2]
theorem min_off {airs : List Pt} {u d b : Nat} {g : Pt} {S : List Pt} (h : S ≠ []) : ∃ r, pMin [.lst (S.map (off airs u d b g))] = .ret r ∧ oNe r r = .ret (.bl false) := by
  cases S with
  | nil => exact absurd rfl h
  | cons p S =>
    have fl : ∀ x ∈ (p :: S).map (off airs u d b g), flat x = true ∧ dep x = 2 ∧ notNon x = true := fun x hx => by
      obtain ⟨q, _, rfl⟩ := List.mem_map.mp hx
      refine ⟨?_, ?_, rfl⟩
      · simp only [off, flat, flatL, flat_dP, Bool.and_self]
      · simp only [off, dep, depL, dep_dP]
        rfl
    have hal : allAlk ((p :: S).map (off airs u d b g)) = true := List.all_eq_true.mpr fun x hx => List.all_eq_true.mpr fun y hy => by
      obtain ⟨q, _, rfl⟩ := List.mem_map.mp hx
      obtain ⟨q', _, rfl⟩ := List.mem_map.mp hy
      simp only [off, alk, alkL, alk_dP, Bool.and_self]
    have hd : depL ((p :: S).map (off airs u d b g)) ≤ DEP := Nat.le_trans (depL_of fun x hx => Nat.le_of_eq (fl x hx).2.1) (by unfold DEP; decide)
    have hn : ((p :: S).map (off airs u d b g)).all notNon = true := List.all_eq_true.mpr fun x hx => (fl x hx).2.2
    refine ⟨_, ck_pos ⟨hal, hn, hd⟩, ?_⟩
    have hm := first_mem (lt := ltD) (S.map (off airs u d b g)) (off airs u d b g p)
    have := fl _ hm
    exact ne_self this.1 (by rw [this.2.1]; unfold DEP; decide)
/-- the frame: what is known so far -/
def EV (pre : List D) : Env := some (false, .w) :: (pre.map (fun d => some (false, d)) ++ List.replicate (19 - pre.length) none)
theorem holds_ok : Post (F_law_holds [.w]) fun d => d = .bl true := by
  have hL : (1000 : Nat) ≤ LIM := by decide
  unfold F_law_holds
  refine Post.run (env := EV []) rfl ?_
  unfold c_law_holds
  -- airs
  refine Post.blk (Post.set ?_)
  refine Post.prim (Post.lcI (Post.rng1 (Post.bin (Post.eq lit1 ?_))))
  refine Post.next1 (n := 3) rfl rfl (by decide) fun i hi => ?_
  refine Post.eq (a := .int ((1 + i : Nat) : Int)) (by show M.ret (D.int (1 + (i : Int))) = _; rw [show ((1 + i : Nat) : Int) = 1 + (i : Int) by omega]) ?_
  refine Post.eq (range1 (by omega)) ?_
  refine Post.lc (xs := rng 0 (1 + i) 1) (fun d => ∃ p : Pt, d = dP p) rfl rfl (by rw [length_rng]; omega) (fun x hx => ?_) fun l hl hq => ?_
  · rw [tgt1 rfl]
    refine Post.tup (Post.all (Post.bin ?_))
    refine Post.next1 (n := 5) rfl rfl (by decide) fun i1 _ => ?_
    refine Post.eq lit1 (Post.ret (Post.all (Post.bin ?_)))
    refine Post.next1 (n := 5) rfl rfl (by decide) fun i2 _ => ?_
    exact Post.eq lit1 (Post.ret (Post.eq all_nil ⟨((i1 : Int) - 2, (i2 : Int) - 2), rfl⟩))
  obtain ⟨airs, rfl, hn⟩ := pts_all hq
  rw [← hn, length_rng] at hl
  have hlen : airs.length = 1 + i := hl
  clear hl
  have ha : airs.length ≤ 10 := by omega
  refine Post.eq (a := .tup (airs.map dP)) rfl ⟨EV [.tup (airs.map dP)], rfl, ?_⟩
  -- spot, up, down, burst
  refine Post.blk (Post.par (Post.all (Post.tup (Post.all ?_))))
  refine Post.next1 (n := 5) rfl rfl (by decide) fun s1 _ => ?_
  refine Post.all (Post.next1 (n := 5) rfl rfl (by decide) fun s2 _ => Post.eq all_nil ?_)
  refine Post.all (Post.bin (Post.eq lit1 ?_))
  refine Post.next1 (n := 3) rfl rfl (by decide) fun u0 hu0 => ?_
  refine Post.ret (Post.all (Post.bin (Post.eq lit1 ?_)))
  refine Post.next1 (n := 3) rfl rfl (by decide) fun d0 hd0 => ?_
  refine Post.ret (Post.all ?_)
  have hlenA : eBin dAdd (ePrim pLen [(eVarB 1)]) (eLit (.int 1)) (EV [.tup (airs.map dP)]) = .ret (.int ((airs.length : Nat) + 1 : Int)) := by
    refine bin_ret (prim1 (x := .tup (airs.map dP)) rfl rfl) lit1 ?_
    rw [List.length_map]
    rfl
  refine Post.next1 (n := (airs.length : Int) + 1) rfl hlenA (by omega) fun b hb => ?_
  refine Post.eq all_nil ?_
  obtain ⟨u, hu⟩ : ∃ u, u = 1 + u0 := ⟨_, rfl⟩
  obtain ⟨d, hd⟩ : ∃ d, d = 1 + d0 := ⟨_, rfl⟩
  have eu : (1 : Int) + (u0 : Int) = ((u : Nat) : Int) := by omega
  have ed : (1 : Int) + (d0 : Int) = ((d : Nat) : Int) := by omega
  rw [eu, ed]
  have hu10 : u ≤ 10 := by omega
  have hd10 : d ≤ 10 := by omega
  have hb' : b ≤ airs.length := by omega
  have hb10 : b ≤ 10 := by omega
  clear eu ed
  obtain ⟨s, hs⟩ : ∃ s : Pt, s = ((s1 : Int), (s2 : Int)) := ⟨_, rfl⟩
  refine ⟨EV [.tup (airs.map dP), dP s, .int u, .int d, .int b], by rw [hs]; rfl, ?_⟩
  -- way
  obtain ⟨W, hW⟩ : ∃ W, W = way airs s (lv u d b) := ⟨_, rfl⟩
  have xW : F_law_sonde [.tup (airs.map dP), dP s, .int u, .int d, .int b] = .ret (.lst (W.map dP)) := by rw [hW]; exact x_law_sonde hu10 hd10 hb10 hb' s
  have Wne : W ≠ [] := by rw [hW]; exact way_ne hu10 hd10 hb10 hb' s
  refine Post.blk1 (e := EV [.tup (airs.map dP), dP s, .int u, .int d, .int b, .lst (W.map dP)]) (set1 (call_ret (ds := [.tup (airs.map dP), dP s, .int u, .int d, .int b]) rfl xW)) ?_
  -- the flight
  refine Post.blk1 (no_if (or_ret (k := false) (bin_ret (x := .tup (W.map dP)) (y := .tup (W.map dP)) (call_ret (ds := [.tup (airs.map dP), dP s, .int u, .int d, .int b]) rfl (by rw [hW]; exact x_flown hu10 hd10 hb10 hb' s)) (prim1 (x := .lst (W.map dP)) rfl rfl) (ne_tup W))
    (bin_ret (x := dP (W.getLastD (0, 0))) (y := dP (W.getLastD (0, 0))) (call_ret (ds := [.tup (airs.map dP), dP s, .int u, .int d, .int b]) rfl (by rw [hW]; exact x_lands hu10 hd10 hb10 hb' s)) (bin_ret (x := .lst (W.map dP)) rfl rfl (last_lst (last_map Wne))) (ne_dP _)))) ?_
  -- ends
  obtain ⟨ends, hends⟩ : ∃ ends, ends = (List.range (airs.length + 1)).map (land airs s u d) := ⟨_, rfl⟩
  have lends : ends.length = airs.length + 1 := by rw [hends, List.length_map, List.length_range]
  have xE : eLc (eBin dIdx (eCall F_law_sonde [(eVar 1), (eVar 2), (eVar 3), (eVar 4), (eVar 16)]) (eUn dNeg (eLit (.int 1)))) [⟨[16], (tName 16), (iRng [(eBin dAdd (ePrim pLen [(eVarB 1)]) (eLit (.int 1)))]), []⟩] (EV [.tup (airs.map dP), dP s, .int u, .int d, .int b, .lst (W.map dP)]) = .ret (.lst (ends.map dP)) := by
    have ee : ends.map dP = (rng 0 (airs.length + 1) 1).map fun x => match x with | .int k => dP (land airs s u d k.toNat) | _ => .non := by
      rw [hends, rng_up, List.map_map, List.map_map]
      rfl
    rw [ee]
    refine lc_map _ ((iRng1 (d := .int ((airs.length + 1 : Nat) : Int)) ?_).trans (range1 (by omega))) rfl (by rw [length_rng]; omega) fun x hx => ?_
    · refine bin_ret (prim1 (x := .tup (airs.map dP)) rfl rfl) lit1 ?_
      rw [List.length_map]
      rfl
    · obtain ⟨k, hk, rfl⟩ := rng_mem hx
      rw [Int.zero_add, tgt1 rfl]
      exact bin_ret (call_ret (ds := [.tup (airs.map dP), dP s, .int u, .int d, .int (k : Nat)]) rfl (x_law_sonde hu10 hd10 (by omega) (by omega) s)) rfl (last_lst (last_map (way_ne hu10 hd10 (by omega) (by omega) s)))
  refine Post.blk1 (e := EV [.tup (airs.map dP), dP s, .int u, .int d, .int b, .lst (W.map dP), .lst (ends.map dP)]) (set1 xE) ?_
  -- goals
  refine Post.blk (Post.set (Post.prim (Post.prim ?_)))
  refine Post.lc (xs := rng 0 2 1) (fun d => ∃ p : Pt, d = dP p) ((iRng1 (d := .int ((2 : Nat) : Int)) rfl).trans (range1 (by omega))) rfl (by rw [length_rng]; omega) (fun x hx => ?_) fun l hl hq => ?_
  · rw [tgt1 rfl]
    have e9 : dAdd (.lst (ends.map dP)) (.lst [dP (9, 9)]) = .ret (.lst ((ends ++ [((9, 9) : Pt)]).map dP)) := by
      rw [List.map_append]
      exact add_lst (by rw [List.length_map, lends]; simp; omega)
    exact Post.call (all_cons (e := eVar 0) (d := .w) rfl (all_cons (bin_ret (x := .lst (ends.map dP)) (y := .lst [dP (9, 9)]) rfl rfl e9) all_nil)) (x_pick (by simp))
  obtain ⟨g0, rfl, hg0⟩ := pts_all hq
  have lg0 : g0.length = 2 := by rw [hg0, hl, length_rng]
  obtain ⟨G, hG, _, _⟩ := pts_of (l := g0)
  refine Post.eq (sortSet_dPs (by omega)) ?_
  rw [hG]
  refine Post.eq (a := .tup (G.map dP)) rfl ⟨EV [.tup (airs.map dP), dP s, .int u, .int d, .int b, .lst (W.map dP), .lst (ends.map dP), .tup (G.map dP)], rfl, ?_⟩
  clear hG hq hg0 hl lg0
  -- able
  have xA : eLc (eVar 19) [⟨[19], (tName 19), (iRng [(ePrim pLen [(eVarB 7)])]), [(eBin oIn (eBin dIdx (eVarB 7) (eVar 19)) (eVarB 8))]⟩] (EV [.tup (airs.map dP), dP s, .int u, .int d, .int b, .lst (W.map dP), .lst (ends.map dP), .tup (G.map dP)]) = .ret (.lst (able airs s u d G)) := by
    have hla := len_able airs s u d G
    refine lc_one _ ((iRng1 (d := .int ((airs.length + 1 : Nat) : Int)) ?_).trans (range1 (by omega))) (by unfold able at hla; omega) fun x hx => ?_
    · refine prim1 (x := .lst (ends.map dP)) rfl ?_
      show M.ret (D.int ((ends.map dP).length : Nat)) = _
      rw [List.length_map, lends]
    · obtain ⟨k, hk, rfl⟩ := rng_mem hx
      rw [Int.zero_add]
      refine ⟨(EV [.tup (airs.map dP), dP s, .int u, .int d, .int b, .lst (W.map dP), .lst (ends.map dP), .tup (G.map dP)]).set 19 (some (false, .int k)), rfl, ?_⟩
      have hk2 : dIdx (.lst (ends.map dP)) (.int (k : Nat)) = .ret (dP (land airs s u d k)) := idx_lst (by
        rw [List.getElem?_map, hends, List.getElem?_map, List.getElem?_range hk]
        rfl)
      have ht : tests [(eBin oIn (eBin dIdx (eVarB 7) (eVar 19)) (eVarB 8))] ((EV [.tup (airs.map dP), dP s, .int u, .int d, .int b, .lst (W.map dP), .lst (ends.map dP), .tup (G.map dP)]).set 19 (some (false, .int k))) = .ret ((G.map dP).any fun y => eqD y (dP (land airs s u d k))) := by
        unfold tests
        rw [bin_ret (bin_ret (x := .lst (ends.map dP)) (y := .int (k : Nat)) rfl rfl hk2) rfl (in_pts _ G), ret_bind]
        show ((M.ret ((G.map dP).any fun y => eqD y (dP (land airs s u d k)))) >>= fun k => if k = true then tests [] _ else .ret false) = _
        rw [ret_bind]
        cases ((G.map dP).any fun y => eqD y (dP (land airs s u d k))) <;> rfl
      have ek : ((k : Nat) : Int).toNat = k := Int.toNat_natCast k
      simp only [ek]
      cases hq : ((G.map dP).any fun y => eqD y (dP (land airs s u d k))) with
      | true => exact .inl ⟨by rw [ht, hq], .int k, rfl, by simp⟩
      | false => exact .inr ⟨by rw [ht, hq], by simp⟩
  refine Post.blk1 (e := EV [.tup (airs.map dP), dP s, .int u, .int d, .int b, .lst (W.map dP), .lst (ends.map dP), .tup (G.map dP), .lst (able airs s u d G)]) (set1 xA) ?_
  have hfl : ∀ l : List D, (∀ x ∈ l, ∃ k : Nat, k ≤ airs.length ∧ x = .int k) → oNe (first l) (first l) = .ret (.bl false) := by
    intro l h
    cases l with
    | nil => exact ne_self rfl (Nat.zero_le _)
    | cons x r =>
      obtain ⟨k, _, e⟩ := h x List.mem_cons_self
      rw [e]
      exact ne_self rfl (Nat.zero_le _)
  have hfirst := hfl _ (able_flat airs s u d G)
  refine Post.blk1 (no_if (bin_ret (call_ret (ds := [.tup (airs.map dP), dP s, .int u, .int d, .tup (G.map dP)]) rfl (x_burst_for hu10 hd10 ha s G)) (pick_first rfl fun x hx => let ⟨k, _, e⟩ := able_flat airs s u d G x hx; ⟨k, e⟩) hfirst)) ?_
  -- least, most
  have hlenE : ∀ ab : D, ePrim pLen [(eVarB 7)] (EV [.tup (airs.map dP), dP s, .int u, .int d, .int b, .lst (W.map dP), .lst (ends.map dP), .tup (G.map dP), ab]) = .ret (.int ((airs.length : Int) + 1)) := fun ab => by
    refine prim1 (x := .lst (ends.map dP)) rfl ?_
    show M.ret (D.int ((ends.map dP).length : Nat)) = _
    rw [List.length_map, lends]
    rfl
  obtain ⟨ab, hab⟩ : ∃ ab, ab = D.lst (able airs s u d G) := ⟨_, rfl⟩
  rw [← hab]
  refine Post.blk (Post.set ?_)
  refine Post.next1 (n := (airs.length : Int) + 1) rfl (hlenE ab) (by omega) fun l hl => ?_
  refine ⟨EV [.tup (airs.map dP), dP s, .int u, .int d, .int b, .lst (W.map dP), .lst (ends.map dP), .tup (G.map dP), ab, .int l], rfl, ?_⟩
  refine Post.blk (Post.set (Post.bin (Post.eq (a := .int (l : Nat)) rfl ?_)))
  have hrest : eBin dSub (ePrim pLen [(eVarB 7)]) (eVarB 10) (EV [.tup (airs.map dP), dP s, .int u, .int d, .int b, .lst (W.map dP), .lst (ends.map dP), .tup (G.map dP), ab, .int l]) = .ret (.int ((airs.length : Int) + 1 - l)) := by
    refine bin_ret (prim1 (x := .lst (ends.map dP)) (r := .ret (.int ((airs.length : Int) + 1))) rfl ?_) (y := .int (l : Nat)) rfl rfl
    show M.ret (D.int ((ends.map dP).length : Nat)) = _
    rw [List.length_map, lends]
    rfl
  refine Post.next1 (n := (airs.length : Int) + 1 - l) rfl hrest (by omega) fun m0 hm0 => ?_
  obtain ⟨m, hm⟩ : ∃ m, m = l + m0 := ⟨_, rfl⟩
  refine Post.eq (a := .int (m : Nat)) (by show M.ret (D.int ((l : Int) + (m0 : Int))) = _; rw [hm]; rw [show ((l + m0 : Nat) : Int) = (l : Int) + (m0 : Int) by omega]) ?_
  refine ⟨EV [.tup (airs.map dP), dP s, .int u, .int d, .int b, .lst (W.map dP), .lst (ends.map dP), .tup (G.map dP), ab, .int l, .int m], rfl, ?_⟩
  have hlm : l ≤ m := by omega
  have hmn : m ≤ airs.length := by omega
  have hln : l ≤ airs.length := by omega
  clear hm hm0 hrest
  -- the search area
  have hcut : cut (ends.map dP) (some ((l : Nat) : Int)) (some ((m + 1 : Nat) : Int)) = ((List.range (m + 1 - l)).map fun k => land airs s u d (l + k)).map dP := by
    rw [cut_nat (by rw [List.length_map, lends]; omega) (by omega), ← List.map_drop, ← List.map_take]
    have e : (ends.drop l).take (m + 1 - l) = (List.range (m + 1 - l)).map fun k => land airs s u d (l + k) := by
      rw [hends]
      apply List.ext_getElem
      · rw [List.length_take, List.length_drop, List.length_map, List.length_range, List.length_map, List.length_range]
        omega
      · intro i h1 h2
        rw [List.getElem_take, List.getElem_drop, List.getElem_map, List.getElem_map, List.getElem_range, List.getElem_range]
    rw [e]
  have xS : eSlc (eVarB 7) (some (eVar 10)) (some (eBin dAdd (eVarB 11) (eLit (.int 1)))) (EV [.tup (airs.map dP), dP s, .int u, .int d, .int b, .lst (W.map dP), .lst (ends.map dP), .tup (G.map dP), ab, .int l, .int m]) = .ret (.lst (((List.range (m + 1 - l)).map fun k => land airs s u d (l + k)).map dP)) := by
    refine slc_ret (x := .lst (ends.map dP)) rfl (part_int (i := ((l : Nat) : Int)) rfl) (part_int (i := ((m + 1 : Nat) : Int)) rfl) ?_
    show M.ret (D.lst (cut (ends.map dP) (some ((l : Nat) : Int)) (some ((m + 1 : Nat) : Int)))) = _
    rw [hcut]
  obtain ⟨ar, har, _, _⟩ := pts_of (l := (List.range (m + 1 - l)).map fun k => land airs s u d (l + k))
  refine Post.blk1 (no_if (bin_ret (x := .lst (ar.map dP)) (y := .lst (ar.map dP)) (prim1 (x := .tup (ar.map dP)) (call_ret (ds := [.tup (airs.map dP), dP s, .int u, .int d, .int l, .int m]) rfl (by rw [x_search hu10 hd10 ha s hlm hmn, har])) rfl) (prim1 xS (by rw [sortSet_dPs (by rw [List.length_map, List.length_range]; omega), har])) (ne_lst ar))) ?_
  -- the rise
  obtain ⟨Ri, hRi⟩ : ∃ Ri, Ri = way airs s (up1 u b) := ⟨_, rfl⟩
  have lW : W.length = 1 + (lv u d b).length := by
    rw [hW]
    unfold way
    rw [len_way]
    rfl
  have lU : b * u ≤ (lv u d b).length := by
    unfold lv
    rw [List.length_append, len_flat, List.length_range]
    omega
  have m1 : b * u ≤ 100 := Nat.le_trans (Nat.mul_le_mul hb10 hu10) (by decide)
  have xR : eSlc (eVarB 6) none (some (eBin dAdd (eBin dMul (eVarB 3) (eVarB 5)) (eLit (.int 1)))) (EV [.tup (airs.map dP), dP s, .int u, .int d, .int b, .lst (W.map dP), .lst (ends.map dP), .tup (G.map dP), ab, .int l, .int m]) = .ret (.lst (Ri.map dP)) := by
    have hsm : small ((b : Nat) : Int) := by
      have : (10 : Int) < W64 := by decide
      unfold small
      omega
    have hmul : dMul (.int (u : Nat)) (.int (b : Nat)) = .ret (.int ((u * b : Nat) : Int)) := by
      show ck (small ((u : Nat) : Int) ∨ small ((b : Nat) : Int)) (M.ret (D.int (((u : Nat) : Int) * ((b : Nat) : Int)))) = _
      rw [ck_pos (.inr hsm), Int.natCast_mul]
    refine slc_ret (x := .lst (W.map dP)) rfl part_none (part_int (i := ((u * b + 1 : Nat) : Int)) (bin_ret (bin_ret (x := .int (u : Nat)) (y := .int (b : Nat)) rfl rfl hmul) lit1 rfl)) ?_
    show M.ret (D.lst (cut (W.map dP) none (some ((u * b + 1 : Nat) : Int)))) = _
    rw [cut_to (by rw [List.length_map, lW, Nat.mul_comm]; omega), ← List.map_take, hW, rise_of, ← hRi]
  refine Post.blk1 (e := EV [.tup (airs.map dP), dP s, .int u, .int d, .int b, .lst (W.map dP), .lst (ends.map dP), .tup (G.map dP), ab, .int l, .int m, .lst (Ri.map dP)]) (set1 xR) ?_
  have xB : eSlc (eVarB 1) none (some (eVar 5)) (EV [.tup (airs.map dP), dP s, .int u, .int d, .int b, .lst (W.map dP), .lst (ends.map dP), .tup (G.map dP), ab, .int l, .int m, .lst (Ri.map dP)]) = .ret (.tup ((airs.take b).map dP)) := by
    refine slc_ret (x := .tup (airs.map dP)) rfl part_none (part_int (i := ((b : Nat) : Int)) rfl) ?_
    show M.ret (D.tup (cut (airs.map dP) none (some ((b : Nat) : Int)))) = _
    rw [cut_to (by rw [List.length_map]; exact hb'), List.map_take]
  have hu30 : ((u : Nat) : Int) < W30 := by
    have : (10 : Int) < W30 := by decide
    omega
  have hdiv : dFdiv (.int 7) (.int (u : Nat)) = .ret (.int (7 / (u : Int))) := by
    unfold dFdiv
    have h0 : (0 : Int) < (u : Nat) := by omega
    simp only [if_pos h0]
    exact ck_pos hu30
  have hE : ∀ k : Nat, k ≤ airs.length → dIdx (.lst (ends.map dP)) (.int (k : Nat)) = .ret (dP (land airs s u d k)) := fun k hk => idx_lst (by
    rw [List.getElem?_map, hends, List.getElem?_map, List.getElem?_range (by omega)]
    rfl)
  refine Post.blk1 (no_if (or_ret (k := false) (bin_ret (x := .tup ((airs.take b).map dP)) (y := .tup ((airs.take b).map dP)) (call_ret (ds := [.tup (Ri.map dP), .int u]) (all_cons (prim1 (x := .lst (Ri.map dP)) rfl rfl) (all_cons (d := .int (u : Nat)) rfl all_nil)) (by rw [hRi]; exact x_airs_seen (by omega) hu10 hb10 hb' s)) xB (ne_tup _))
    (or_ret (k := false) (bin_ret (x := .int (7 / (u : Int))) (y := .int (7 / (u : Int))) (call_ret (ds := [.int (u : Nat), .int 7]) rfl (x_highest (by omega) hu30 7)) (bin_ret (x := .int 7) (y := .int (u : Nat)) rfl rfl hdiv) (ne_self rfl (Nat.zero_le _)))
      (bin_ret (x := .bl (decide (land airs s u d l = land airs s u d m))) (y := .bl (decide (land airs s u d l = land airs s u d m))) (call_ret (ds := [.tup (airs.map dP), .int u, .int d, .int l, .int m]) rfl (x_same hu10 hd10 ha s hln hmn)) (bin_ret (bin_ret (x := .lst (ends.map dP)) (y := .int (l : Nat)) rfl rfl (hE l hln)) (bin_ret (x := .lst (ends.map dP)) (y := .int (m : Nat)) rfl rfl (hE m hmn)) (oEq_dP _ _)) (ne_self rfl (Nat.zero_le _)))))) ?_
  -- posts, goal
  refine Post.blk (Post.par (Post.all (Post.prim (Post.prim (Post.lcI (Post.rng1 (Post.bin (Post.eq lit1 ?_))))))))
  refine Post.next1 (n := 3) rfl rfl (by decide) fun i2 hi2 => ?_
  refine Post.eq (a := .int ((1 + i2 : Nat) : Int)) (by show M.ret (D.int (1 + (i2 : Int))) = _; rw [show ((1 + i2 : Nat) : Int) = 1 + (i2 : Int) by omega]) ?_
  refine Post.eq (range1 (by omega)) ?_
  refine Post.lc (xs := rng 0 (1 + i2) 1) (fun d => ∃ p : Pt, d = dP p) rfl rfl (by rw [length_rng]; omega) (fun x hx => ?_) fun ll hl2 hq => ?_
  · rw [tgt1 rfl]
    refine Post.tup (Post.all ?_)
    refine Post.next1 (n := 5) rfl rfl (by decide) fun i1 _ => ?_
    refine Post.all ?_
    refine Post.next1 (n := 5) rfl rfl (by decide) fun i3 _ => ?_
    exact Post.eq all_nil ⟨((i1 : Int), (i3 : Int)), rfl⟩
  obtain ⟨S0, rfl, hS0⟩ := pts_all hq
  have lS0 : S0.length = 1 + i2 := by rw [hS0, hl2, length_rng]
  obtain ⟨S, hS, hmem, hSl⟩ := pts_of (l := S0)
  have Sne : S ≠ [] := by
    intro e
    cases S0 with
    | nil => simp at lS0; omega
    | cons p r =>
      have := (hmem p).mpr List.mem_cons_self
      rw [e] at this
      cases this
  refine Post.eq (sortSet_dPs (by omega)) ?_
  rw [hS]
  refine Post.eq (a := .tup (S.map dP)) rfl (Post.all (Post.tup (Post.all ?_)))
  refine Post.next1 (n := 5) rfl rfl (by decide) fun g1 _ => ?_
  refine Post.all (Post.next1 (n := 5) rfl rfl (by decide) fun g2 _ => Post.eq all_nil (Post.eq all_nil ?_))
  obtain ⟨g, hg⟩ : ∃ g : Pt, g = ((g1 : Int), (g2 : Int)) := ⟨_, rfl⟩
  refine ⟨EV [.tup (airs.map dP), dP s, .int u, .int d, .int b, .lst (W.map dP), .lst (ends.map dP), .tup (G.map dP), ab, .int l, .int m, .lst (Ri.map dP), .tup (S.map dP), dP g], by rw [hg]; rfl, ?_⟩
  have lS : S.length ≤ 3 := by omega
  -- the posts' offs
  obtain ⟨EW, hEW⟩ : ∃ EW : List D → Option (Bool × D) → Option (Bool × D) → Option (Bool × D) → Env, EW = fun a o16 o17 o18 => [some (false, .w), some (false, .tup (airs.map dP)), some (false, dP s), some (false, .int u), some (false, .int d), some (false, .int b), some (false, .lst (W.map dP)), some (false, .lst (ends.map dP)), some (false, .tup (G.map dP)), some (false, ab), some (false, .int l), some (false, .int m), some (false, .lst (Ri.map dP)), some (false, .tup (S.map dP)), some (false, dP g), some (true, .lst a), o16, o17, o18, none] := ⟨_, rfl⟩
  refine Post.blk1 (e := EW [] none none none) (by rw [hEW]; exact own1 (d := .lst []) rfl) ?_
  have hs2 : ∀ (a : List D) (k : Pt) (env : Env), a.length < 1000 → (∃ o16 o17 o18, env = EW a o16 o17 o18) → ∃ e, (tName 16 (dP k) env >>= (sBlk [(sTgt (tTup [(tName 17), (tName 18)]) (eBin dIdx (eCall F_law_sonde [(eVar 1), (eVar 16), (eVar 3), (eVar 4), (eVar 5)]) (eUn dNeg (eLit (.int 1))))),
    (sMut 15 fAppend (eTup [(eBin dAdd (ePrim pAbs [(eBin dSub (eVarB 17) (eBin dIdx (eVarB 14) (eLit (.int 0))))]) (ePrim pAbs [(eBin dSub (eVarB 18) (eBin dIdx (eVarB 14) (eLit (.int 1))))])), (eVar 16)]))])) = .ret (.nx e) ∧ ∃ o16 o17 o18, e = EW (a ++ [off airs u d b g k]) o16 o17 o18 := by
    rintro a k env hl ⟨o16, o17, o18, rfl⟩
    subst hEW
    have e1 : eBin dIdx (eCall F_law_sonde [(eVar 1), (eVar 16), (eVar 3), (eVar 4), (eVar 5)]) (eUn dNeg (eLit (.int 1))) [some (false, .w), some (false, .tup (airs.map dP)), some (false, dP s), some (false, .int u), some (false, .int d), some (false, .int b), some (false, .lst (W.map dP)), some (false, .lst (ends.map dP)), some (false, .tup (G.map dP)), some (false, ab), some (false, .int l), some (false, .int m), some (false, .lst (Ri.map dP)), some (false, .tup (S.map dP)), some (false, dP g), some (true, .lst a), some (false, dP k), o17, o18, none] = .ret (dP (land airs k u d b)) :=
      bin_ret (call_ret (ds := [.tup (airs.map dP), dP k, .int u, .int d, .int b]) rfl (x_law_sonde hu10 hd10 hb10 hb' k)) rfl (last_lst (last_map (way_ne hu10 hd10 hb10 hb' k)))
    obtain ⟨q, hq⟩ : ∃ q, q = land airs k u d b := ⟨_, rfl⟩
    have b1 : (sTgt (tTup [(tName 17), (tName 18)]) (eBin dIdx (eCall F_law_sonde [(eVar 1), (eVar 16), (eVar 3), (eVar 4), (eVar 5)]) (eUn dNeg (eLit (.int 1))))) [some (false, .w), some (false, .tup (airs.map dP)), some (false, dP s), some (false, .int u), some (false, .int d), some (false, .int b), some (false, .lst (W.map dP)), some (false, .lst (ends.map dP)), some (false, .tup (G.map dP)), some (false, ab), some (false, .int l), some (false, .int m), some (false, .lst (Ri.map dP)), some (false, .tup (S.map dP)), some (false, dP g), some (true, .lst a), some (false, dP k), o17, o18, none] =
        .ret (.nx [some (false, .w), some (false, .tup (airs.map dP)), some (false, dP s), some (false, .int u), some (false, .int d), some (false, .int b), some (false, .lst (W.map dP)), some (false, .lst (ends.map dP)), some (false, .tup (G.map dP)), some (false, ab), some (false, .int l), some (false, .int m), some (false, .lst (Ri.map dP)), some (false, .tup (S.map dP)), some (false, dP g), some (true, .lst a), some (false, dP k), some (false, .int q.1), some (false, .int q.2), none]) := by
      unfold sTgt
      rw [e1, ret_bind, ← hq]
      rfl
    have e2 : eTup [(eBin dAdd (ePrim pAbs [(eBin dSub (eVarB 17) (eBin dIdx (eVarB 14) (eLit (.int 0))))]) (ePrim pAbs [(eBin dSub (eVarB 18) (eBin dIdx (eVarB 14) (eLit (.int 1))))])), (eVar 16)] [some (false, .w), some (false, .tup (airs.map dP)), some (false, dP s), some (false, .int u), some (false, .int d), some (false, .int b), some (false, .lst (W.map dP)), some (false, .lst (ends.map dP)), some (false, .tup (G.map dP)), some (false, ab), some (false, .int l), some (false, .int m), some (false, .lst (Ri.map dP)), some (false, .tup (S.map dP)), some (false, dP g), some (true, .lst a), some (false, dP k), some (false, .int q.1), some (false, .int q.2), none] = .ret (off airs u d b g k) := by
      unfold off
      rw [← hq]
      rfl
    have b3 : sMut 15 fAppend (eTup [(eBin dAdd (ePrim pAbs [(eBin dSub (eVarB 17) (eBin dIdx (eVarB 14) (eLit (.int 0))))]) (ePrim pAbs [(eBin dSub (eVarB 18) (eBin dIdx (eVarB 14) (eLit (.int 1))))])), (eVar 16)]) [some (false, .w), some (false, .tup (airs.map dP)), some (false, dP s), some (false, .int u), some (false, .int d), some (false, .int b), some (false, .lst (W.map dP)), some (false, .lst (ends.map dP)), some (false, .tup (G.map dP)), some (false, ab), some (false, .int l), some (false, .int m), some (false, .lst (Ri.map dP)), some (false, .tup (S.map dP)), some (false, dP g),  some (true, .lst a), some (false, dP k), some (false, .int q.1), some (false, .int q.2), none] = .ret (.nx [some (false, .w), some (false, .tup (airs.map dP)), some (false, dP s), some (false, .int u), some (false, .int d), some (false, .int b), some (false, .lst (W.map dP)), some (false, .lst (ends.map dP)), some (false, .tup (G.map dP)), some (false, ab), some (false, .int l), some (false, .int m), some (false, .lst (Ri.map dP)), some (false, .tup (S.map dP)), some (false, dP g),  some (true, .lst (a ++ [off airs u d b g k])), some (false, dP k), some (false, .int q.1), some (false, .int q.2), none]) := mut1 (i := 15) (c := .lst a) e2 rfl (app_lst (lim1000 hl))
    have e0 : tName 16 (dP k) [some (false, .w), some (false, .tup (airs.map dP)), some (false, dP s), some (false, .int u), some (false, .int d), some (false, .int b), some (false, .lst (W.map dP)), some (false, .lst (ends.map dP)), some (false, .tup (G.map dP)), some (false, ab), some (false, .int l), some (false, .int m), some (false, .lst (Ri.map dP)), some (false, .tup (S.map dP)), some (false, dP g),  some (true, .lst a), o16, o17, o18, none] = .ret [some (false, .w), some (false, .tup (airs.map dP)), some (false, dP s), some (false, .int u), some (false, .int d), some (false, .int b), some (false, .lst (W.map dP)), some (false, .lst (ends.map dP)), some (false, .tup (G.map dP)), some (false, ab), some (false, .int l), some (false, .int m), some (false, .lst (Ri.map dP)), some (false, .tup (S.map dP)), some (false, dP g),  some (true, .lst a), some (false, dP k), o17, o18, none] := rfl
    refine ⟨_, ?_, some (false, dP k), some (false, .int q.1), some (false, .int q.2), rfl⟩
    show (tName 16 (dP k) [some (false, .w), some (false, .tup (airs.map dP)), some (false, dP s), some (false, .int u), some (false, .int d), some (false, .int b), some (false, .lst (W.map dP)), some (false, .lst (ends.map dP)), some (false, .tup (G.map dP)), some (false, ab), some (false, .int l), some (false, .int m), some (false, .lst (Ri.map dP)), some (false, .tup (S.map dP)), some (false, dP g),  some (true, .lst a), o16, o17, o18, none] >>= _) = _
    rw [e0, ret_bind, blk_nx b1]
    exact b3
  obtain ⟨e, hf, o16, o17, o18, he⟩ := app_loop dP (off airs u d b g) (fun a env => ∃ o16 o17 o18, env = EW a o16 o17 o18) hs2 S [] (EW [] none none none) (by simp; omega) ⟨none, none, none, rfl⟩
  subst he
  rw [List.nil_append] at hf
  refine Post.blk1 (for1 (r := .ret (.nx _)) (val1 (d := .tup (S.map dP)) (by rw [hEW]; rfl) rfl) hf) ?_
  obtain ⟨r, hr, hne⟩ := min_off (airs := airs) (u := u) (d := d) (b := b) (g := g) Sne
  have xb := x_best hu10 hd10 ha hb' g S (by omega)
  rw [hr, ret_bind] at xb
  refine Post.blk1 (no_if (bin_ret (x := r) (y := r) (call_ret (ds := [.tup (airs.map dP), .tup (S.map dP), .int u, .int d, .int b, dP g]) (by rw [hEW]; rfl) xb) (prim1 (x := .lst (S.map (off airs u d b g))) (by rw [hEW]; rfl) hr) hne)) ?_
  exact Post.eq (ret1 lit1) rfl
/-- the law, at any script -/
theorem law_ok (ns : List Int) (hn : ns.length ≤ 63) : Safe (F_law [.scr ns]) := by
  have hL : Post (F_law [.scr ns]) fun d => d = .bl true := by
    unfold F_law
    refine Post.run (env := [some (false, .scr ns), none, none]) rfl ?_
    unfold c_law
    refine Post.blk (Post.set ?_)
    have hd : F_law_draws = F_draws := rfl
    unfold eMkw
    refine Post.bind (Post.call (ds := [.scr ns, .int 900]) rfl ((draws_ok ns hn).mono fun d ⟨ds, e, hds⟩ => ?_))
    subst e
    have hall : ((ds.map D.int).all (fun x => match x with | .int i => decide (0 ≤ i ∧ i < 997) | _ => false)) = true := by
      rw [List.all_map]
      exact List.all_eq_true.mpr fun n hn => decide_eq_true (hds n hn)
    refine Post.eq (ck_pos hall) ⟨[some (false, .scr ns), some (false, .w), none], rfl, ?_⟩
    refine Post.blk (Post.for (xs := rng 0 4 1) ((iRng1 (d := .int ((4 : Nat) : Int)) rfl).trans (range1 (by omega))) (fun _ env => ∃ o, env = [some (false, .scr ns), some (false, .w), o]) ⟨none, rfl⟩ (fun i x env hx ⟨o, he⟩ => ?_) (fun env ⟨o, he⟩ => ?_))
    · subst he
      rw [tgt1 (e := [some (false, .scr ns), some (false, .w), some (false, x)]) rfl]
      show Post (sIf _ _ _ _) _
      unfold sIf eUn
      refine Post.bind (Post.bind (Post.call (ds := [.w]) rfl (holds_ok.mono fun d e => ?_)))
      subst e
      exact Post.ret (Post.ret ⟨_, rfl, some (false, x), rfl⟩)
    · exact ⟨_, rfl, Post.eq (ret1 lit1) rfl⟩
  exact hL.safe
end K29
namespace K29
open PySem PySem.Spec PyProof.Rows L2 PV
def dd_set_of : He.DefD := ⟨("set_of", none), "set_of", "set_of", defArgs s_set_of, defBody s_set_of, defScope s_set_of, [], []⟩
def dd_moved : He.DefD := ⟨("moved", none), "moved", "moved", defArgs s_moved, defBody s_moved, defScope s_moved, [], []⟩
def dd_apart : He.DefD := ⟨("apart", none), "apart", "apart", defArgs s_apart, defBody s_apart, defScope s_apart, [], []⟩
def dd_levels_along : He.DefD := ⟨("levels_along", none), "levels_along", "levels_along", defArgs s_levels_along, defBody s_levels_along, defScope s_levels_along, [], []⟩
def dd_flown_sonde : He.DefD := ⟨("flown_sonde", none), "flown_sonde", "flown_sonde", defArgs s_flown_sonde, defBody s_flown_sonde, defScope s_flown_sonde, [], []⟩
def dd_lands_at : He.DefD := ⟨("lands_at", none), "lands_at", "lands_at", defArgs s_lands_at, defBody s_lands_at, defScope s_lands_at, [], []⟩
def dd_burst_for : He.DefD := ⟨("burst_for", none), "burst_for", "burst_for", defArgs s_burst_for, defBody s_burst_for, defScope s_burst_for, [], []⟩
def dd_search_area : He.DefD := ⟨("search_area", none), "search_area", "search_area", defArgs s_search_area, defBody s_search_area, defScope s_search_area, [], []⟩
def dd_airs_seen : He.DefD := ⟨("airs_seen", none), "airs_seen", "airs_seen", defArgs s_airs_seen, defBody s_airs_seen, defScope s_airs_seen, [], []⟩
def dd_best_post : He.DefD := ⟨("best_post", none), "best_post", "best_post", defArgs s_best_post, defBody s_best_post, defScope s_best_post, [], []⟩
def dd_highest_by : He.DefD := ⟨("highest_by", none), "highest_by", "highest_by", defArgs s_highest_by, defBody s_highest_by, defScope s_highest_by, [], []⟩
def dd_same_landing : He.DefD := ⟨("same_landing", none), "same_landing", "same_landing", defArgs s_same_landing, defBody s_same_landing, defScope s_same_landing, [], []⟩
def dd_law_draws : He.DefD := ⟨("_law_draws", none), "_law_draws", "_law_draws", defArgs s_law_draws, defBody s_law_draws, defScope s_law_draws, [], []⟩
def dd_law_next : He.DefD := ⟨("_law_next", none), "_law_next", "_law_next", defArgs s_law_next, defBody s_law_next, defScope s_law_next, [], []⟩
def dd_law_pick : He.DefD := ⟨("_law_pick", none), "_law_pick", "_law_pick", defArgs s_law_pick, defBody s_law_pick, defScope s_law_pick, [], []⟩
def dd_law_sonde : He.DefD := ⟨("_law_sonde", none), "_law_sonde", "_law_sonde", defArgs s_law_sonde, defBody s_law_sonde, defScope s_law_sonde, [], []⟩
def dd_law_holds : He.DefD := ⟨("_law_holds", none), "_law_holds", "_law_holds", defArgs s_law_holds, defBody s_law_holds, defScope s_law_holds, [], []⟩
def dd_law : He.DefD := ⟨("law", none), "law", "law", defArgs s_law, defBody s_law, defScope s_law, [], []⟩
def fn : List He.DefD := [dd_set_of, dd_moved, dd_apart, dd_levels_along, dd_flown_sonde, dd_lands_at, dd_burst_for, dd_search_area, dd_airs_seen, dd_best_post, dd_highest_by, dd_same_landing, dd_law_draws, dd_law_next, dd_law_pick, dd_law_sonde, dd_law_holds, dd_law]
def fa : List He.Fa := [.glo "set_of", .glo "moved", .glo "apart", .glo "levels_along", .glo "flown_sonde", .glo "lands_at", .glo "burst_for", .glo "search_area", .glo "airs_seen", .glo "best_post", .glo "highest_by", .glo "same_landing", .glo "_law_draws", .glo "_law_next", .glo "_law_pick", .glo "_law_sonde", .glo "_law_holds", .glo "law", .free "abs", .free "any", .free "int", .free "len", .free "list", .free "min", .free "range", .free "set", .free "sorted", .free "sum", .free "tuple", .free "zip"]
abbrev R : PySem.W.OpenRow := PySem.W.OpenLaw.row PySem.Challenge.rw_windheld_k29_whole_all_sondes_that_land
abbrev hk : PySem.W.Hook := He.hookD 4 fa fn
def ob (s : PySem.W.SharedT) : He.AlD := He.obsDG 4 fa fn (HandSHeadRun.getT s)
theorem ob_eq (s : PySem.W.SharedT) : ob s = hk.obs s.abs := He.obsDG_eq (HandSHeadRun.getT_eq s)
theorem hrun (w : World) : HandSHeadRun.RunEq R (PySem.W.view R.prog [22]) hk ob 4000 ["set_of", "moved", "apart", "levels_along", "flown_sonde", "lands_at", "burst_for", "search_area", "airs_seen", "best_post", "highest_by", "same_landing", "_law_draws", "_law_next", "_law_pick", "_law_sonde", "_law_holds"] w := by
  intro os
  kernel_rfl
theorem facts {P : Program} {w : World} {K : PySem.W.Frag} {h : Heap} {mg : Str → Option Value} {f : Addr} (X : K.In h) (G : h.Ns mainGlobals mg) (hfa : mg ("law" : Str) = some (.ref f)) (c : He.SaysD fa fn K) :
    ∃ fd : FuncData, (∀ (s : Shared) (v : Value), BindsTo s fd ⟨[v], []⟩ [("script", v)]) ∧ ∀ base : Heap, K.In base → base.Ns mainGlobals mg → FnOk P w K mg base CX0 6 f fd ["script"] (spF P w K 1 F_law) := by
  obtain ⟨fd_set_of, D_set_of⟩ := c.def_ 0 (d := dd_set_of) rfl
  have g_set_of := He.glo_ok X G (c.fact 0 (f := .glo "set_of") rfl)
  obtain ⟨fd_moved, D_moved⟩ := c.def_ 1 (d := dd_moved) rfl
  have g_moved := He.glo_ok X G (c.fact 1 (f := .glo "moved") rfl)
  obtain ⟨fd_apart, D_apart⟩ := c.def_ 2 (d := dd_apart) rfl
  have g_apart := He.glo_ok X G (c.fact 2 (f := .glo "apart") rfl)
  obtain ⟨fd_levels_along, D_levels_along⟩ := c.def_ 3 (d := dd_levels_along) rfl
  have g_levels_along := He.glo_ok X G (c.fact 3 (f := .glo "levels_along") rfl)
  obtain ⟨fd_flown_sonde, D_flown_sonde⟩ := c.def_ 4 (d := dd_flown_sonde) rfl
  have g_flown_sonde := He.glo_ok X G (c.fact 4 (f := .glo "flown_sonde") rfl)
  obtain ⟨fd_lands_at, D_lands_at⟩ := c.def_ 5 (d := dd_lands_at) rfl
  have g_lands_at := He.glo_ok X G (c.fact 5 (f := .glo "lands_at") rfl)
  obtain ⟨fd_burst_for, D_burst_for⟩ := c.def_ 6 (d := dd_burst_for) rfl
  have g_burst_for := He.glo_ok X G (c.fact 6 (f := .glo "burst_for") rfl)
  obtain ⟨fd_search_area, D_search_area⟩ := c.def_ 7 (d := dd_search_area) rfl
  have g_search_area := He.glo_ok X G (c.fact 7 (f := .glo "search_area") rfl)
  obtain ⟨fd_airs_seen, D_airs_seen⟩ := c.def_ 8 (d := dd_airs_seen) rfl
  have g_airs_seen := He.glo_ok X G (c.fact 8 (f := .glo "airs_seen") rfl)
  obtain ⟨fd_best_post, D_best_post⟩ := c.def_ 9 (d := dd_best_post) rfl
  have g_best_post := He.glo_ok X G (c.fact 9 (f := .glo "best_post") rfl)
  obtain ⟨fd_highest_by, D_highest_by⟩ := c.def_ 10 (d := dd_highest_by) rfl
  have g_highest_by := He.glo_ok X G (c.fact 10 (f := .glo "highest_by") rfl)
  obtain ⟨fd_same_landing, D_same_landing⟩ := c.def_ 11 (d := dd_same_landing) rfl
  have g_same_landing := He.glo_ok X G (c.fact 11 (f := .glo "same_landing") rfl)
  obtain ⟨fd_law_draws, D_law_draws⟩ := c.def_ 12 (d := dd_law_draws) rfl
  have g_law_draws := He.glo_ok X G (c.fact 12 (f := .glo "_law_draws") rfl)
  obtain ⟨fd_law_next, D_law_next⟩ := c.def_ 13 (d := dd_law_next) rfl
  have g_law_next := He.glo_ok X G (c.fact 13 (f := .glo "_law_next") rfl)
  obtain ⟨fd_law_pick, D_law_pick⟩ := c.def_ 14 (d := dd_law_pick) rfl
  have g_law_pick := He.glo_ok X G (c.fact 14 (f := .glo "_law_pick") rfl)
  obtain ⟨fd_law_sonde, D_law_sonde⟩ := c.def_ 15 (d := dd_law_sonde) rfl
  have g_law_sonde := He.glo_ok X G (c.fact 15 (f := .glo "_law_sonde") rfl)
  obtain ⟨fd_law_holds, D_law_holds⟩ := c.def_ 16 (d := dd_law_holds) rfl
  have g_law_holds := He.glo_ok X G (c.fact 16 (f := .glo "_law_holds") rfl)
  obtain ⟨fd_law, D_law⟩ := c.def_ 17 (d := dd_law) rfl
  have g_law := He.glo_ok X G (c.fact 17 (f := .glo "law") rfl)
  have e := hfa.symm.trans g_law
  cases e
  have B : Bi mg := ⟨He.free_ok X G (c.fact 18 (f := .free "abs") rfl), He.free_ok X G (c.fact 19 (f := .free "any") rfl), He.free_ok X G (c.fact 20 (f := .free "int") rfl), He.free_ok X G (c.fact 21 (f := .free "len") rfl), He.free_ok X G (c.fact 22 (f := .free "list") rfl), He.free_ok X G (c.fact 23 (f := .free "min") rfl), He.free_ok X G (c.fact 24 (f := .free "range") rfl), He.free_ok X G (c.fact 25 (f := .free "set") rfl), He.free_ok X G (c.fact 26 (f := .free "sorted") rfl), He.free_ok X G (c.fact 27 (f := .free "sum") rfl), He.free_ok X G (c.fact 28 (f := .free "tuple") rfl), He.free_ok X G (c.fact 29 (f := .free "zip") rfl)⟩
  have b := FunD.bindsA (ps := ["script"]) D_law fun _ _ _ _ _ _ us hl => match us, hl with | [_], _ => rfl
  refine ⟨fd_law, fun s v => b s [v] rfl, fun base _ _ => ?_⟩
  have C_set_of := ok_set_of (P := P) (w := w) (base := base) B D_set_of g_set_of 
  have C_moved := ok_moved (P := P) (w := w) (base := base) B D_moved g_moved 
  have C_apart := ok_apart (P := P) (w := w) (base := base) B D_apart g_apart 
  have C_levels_along := ok_levels_along (P := P) (w := w) (base := base) B D_levels_along g_levels_along 
  have C_flown_sonde := ok_flown_sonde (P := P) (w := w) (base := base) B D_flown_sonde g_flown_sonde C_levels_along C_moved
  have C_lands_at := ok_lands_at (P := P) (w := w) (base := base) B D_lands_at g_lands_at C_flown_sonde
  have C_burst_for := ok_burst_for (P := P) (w := w) (base := base) B D_burst_for g_burst_for C_lands_at
  have C_search_area := ok_search_area (P := P) (w := w) (base := base) B D_search_area g_search_area C_set_of C_lands_at
  have C_airs_seen := ok_airs_seen (P := P) (w := w) (base := base) B D_airs_seen g_airs_seen 
  have C_best_post := ok_best_post (P := P) (w := w) (base := base) B D_best_post g_best_post C_apart C_lands_at
  have C_highest_by := ok_highest_by (P := P) (w := w) (base := base) B D_highest_by g_highest_by 
  have C_same_landing := ok_same_landing (P := P) (w := w) (base := base) B D_same_landing g_same_landing C_lands_at
  have C_law_draws := ok_law_draws (P := P) (w := w) (base := base) B D_law_draws g_law_draws 
  have C_law_next := ok_law_next (P := P) (w := w) (base := base) B D_law_next g_law_next 
  have C_law_pick := ok_law_pick (P := P) (w := w) (base := base) B D_law_pick g_law_pick C_law_next
  have C_law_sonde := ok_law_sonde (P := P) (w := w) (base := base) B D_law_sonde g_law_sonde 
  have C_law_holds := ok_law_holds (P := P) (w := w) (base := base) B D_law_holds g_law_holds C_law_sonde C_law_next C_burst_for C_best_post C_flown_sonde C_lands_at C_search_area C_airs_seen C_highest_by C_same_landing C_law_pick
  exact fn_law B D_law g_law C_law_draws C_law_holds
theorem safe_walk {P : Program} {w : World} {K : PySem.W.Frag} (safe : ∀ ns : List Int, ns.length ≤ 63 → Safe (F_law [.scr ns])) (H : Hp) (a : Addr) (ns : List Int) (hl : ns.length ≤ 63) (ho : Only H) (hS : SqL K H a (ns.map V.int)) :
    spF P w K 1 F_law [.ref a] H (fun v _ => v = .bl true) fun _ _ _ => False := PV.safe_at (safe ns hl) ho hS
end K29
open PySem PySem.W PySem.Calls PyProof.Rows
theorem K29.done (safe : ∀ ns : List Int, ns.length ≤ 63 → PV.Safe (K29.F_law [.scr ns])) : PySem.Challenge.rw_windheld_k29_whole_all_sondes_that_land.Holds := by
  w_on; o_law
  refine HandSHeadRun.head_any (r := OpenLaw.row PySem.Challenge.rw_windheld_k29_whole_all_sondes_that_land) (q := view (OpenLaw.row PySem.Challenge.rw_windheld_k29_whole_all_sondes_that_land).prog [22]) (H := K29.hk) (ob := K29.ob) (M := 4000) (loose := ["set_of", "moved", "apart", "levels_along", "flown_sonde", "lands_at", "burst_for", "search_area", "airs_seen", "best_post", "highest_by", "same_landing", "_law_draws", "_law_next", "_law_pick", "_law_sonde", "_law_holds"]) (d := HandSHeadRun.topDef (OpenLaw.row PySem.Challenge.rw_windheld_k29_whole_all_sondes_that_land).prog 22) (kwd := []) K29.ob_eq
    (by kernel_rfl) (fun s => by kernel_rfl) K29.hrun (by kernel_rfl) (by kernel_rfl) (by kernel_rfl) (by rfl) (by first | assumption | decide +kernel) (by decide +kernel) ⟨rfl, rfl, rfl, rfl, rfl, by decide +kernel⟩ ?hw ?hc
  case hw => w_witness2
  case hc =>
    refine L2.walk_ofE (l := PySem.Challenge.rw_windheld_k29_whole_all_sondes_that_land) (n := 63) (k := 6) (x := "script") (CX := L2.CX0) rfl (by decide) (by kernel_rfl) ⟨rfl, by decide, by decide⟩ ?F (fun _ _ _ _ z => z)
    intro w mg fa h Y G hmg0
    obtain ⟨K, KX, c⟩ := Y
    have hmg : mg ("law" : PySem.Str) = some (.ref fa) := by
      have e : (HandSHeadRun.topDef (OpenLaw.row PySem.Challenge.rw_windheld_k29_whole_all_sondes_that_land).prog 22).name = ("law" : PySem.Str) := by kernel_rfl
      rw [← e]
      exact hmg0
    obtain ⟨fd, hb, hF⟩ := K29.facts (P := (PySem.Challenge.rw_windheld_k29_whole_all_sondes_that_land).prog) (w := w) KX G hmg c
    exact ⟨K, fd, PV.spF _ w K 1 K29.F_law, KX, hb, fun H a ns hl ho hS => K29.safe_walk safe H a ns hl ho hS, hF⟩
theorem PySem.Challenge.cw_windheld_k29_whole_all_sondes_that_land_holds : PySem.Challenge.rw_windheld_k29_whole_all_sondes_that_land.Holds := by
  exact K29.done K29.law_ok
