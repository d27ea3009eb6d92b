import PyProof.Rows.All
import HandS.ForMost
import HandS.Wide
import HandS.WideMore
import HandS.TupAny
import HandS.TupMul
import HandS.Style
import HandS.Flow
import HandS.Conv
import HandS.Zip
import HandS.Rev
import HandS.RevRange
import HandS.Gcd
import HandS.IsInst
import HandS.ForExc
import KE.GoesMore
import PyProof.EnumMake
import HandS.WordsExc
import HandS.Defaults
import HandS.Head0
import HandS.Head1
import HandS.Head2
import HandS.HeadEnd
import HandS.HeadHook1
import HandS.HeadHook2
import PySem.Challenge.RW_onewebtwice_k01_whole_pair_polynomials_b
import KE.KStateDown
section
set_option Elab.async false
set_option linter.all false
set_option maxRecDepth 100000
/-! Z1: a small language of values by value and lists by number, and what it computes. -/
namespace Z
open PySem PySem.Spec

/-- a value: texts, tuples by value; a list by its number in the store, or one that is only read -/
inductive D where
  | non | bl (b : Bool) | int (i : Int) | str (x : Str) | tup (xs : List D) | lst (n : Nat) | ro (xs : List D)
deriving Inhabited
abbrev Sto := List (List D)
abbrev Rho := List (Option D)

mutual
/-- no list of the store within -/
def D.pure : D → Bool
  | .lst _ => false
  | .tup xs => pures xs
  | .ro xs => pures xs
  | _ => true
def pures : List D → Bool
  | [] => true
  | x :: xs => x.pure && pures xs
end
mutual
def D.shift (k : Nat) : D → D
  | .lst n => .lst (n + k)
  | .tup xs => .tup (shifts k xs)
  | .ro xs => .ro (shifts k xs)
  | x => x
def shifts (k : Nat) : List D → List D
  | [] => []
  | x :: xs => x.shift k :: shifts k xs
end
mutual
def D.beq : D → D → Bool
  | .non, .non => true
  | .bl a, .bl b => a == b
  | .int a, .int b => a == b
  | .str a, .str b => decide (a = b)
  | .tup a, .tup b => beqs a b
  | .lst a, .lst b => a == b
  | .ro a, .ro b => beqs a b
  | _, _ => false
def beqs : List D → List D → Bool
  | [], [] => true
  | x :: xs, y :: ys => x.beq y && beqs xs ys
  | _, _ => false
end
mutual
theorem D.beq_eq : ∀ {a b : D}, a.beq b = true → a = b
  | .non, b, h => by cases b <;> simp_all [D.beq]
  | .bl _, b, h => by cases b <;> simp_all [D.beq]
  | .int _, b, h => by cases b <;> simp_all [D.beq]
  | .str _, b, h => by cases b <;> simp_all [D.beq]
  | .tup xs, b, h => by
    cases b <;> simp only [D.beq, reduceCtorEq] at h
    rw [beqs_eq h]
  | .lst _, b, h => by cases b <;> simp_all [D.beq]
  | .ro xs, b, h => by
    cases b <;> simp only [D.beq, reduceCtorEq] at h
    rw [beqs_eq h]
theorem beqs_eq : ∀ {a b : List D}, beqs a b = true → a = b
  | [], b, h => by cases b <;> simp_all [beqs]
  | x :: xs, b, h => by
    cases b with
    | nil => simp [beqs] at h
    | cons y ys =>
      simp only [beqs, Bool.and_eq_true] at h
      rw [D.beq_eq h.1, beqs_eq h.2]
end
mutual
theorem D.beq_refl : ∀ a : D, a.beq a = true
  | .non => rfl
  | .bl _ => by simp [D.beq]
  | .int _ => by simp [D.beq]
  | .str _ => by simp [D.beq]
  | .tup xs => by simp only [D.beq]; exact beqs_refl xs
  | .lst _ => by simp [D.beq]
  | .ro xs => by simp only [D.beq]; exact beqs_refl xs
theorem beqs_refl : ∀ a : List D, beqs a a = true
  | [] => rfl
  | x :: xs => by simp only [beqs, D.beq_refl x, beqs_refl xs, Bool.and_self]
end
mutual
/-- nested at most so deep -/
def D.flatTo : Nat → D → Bool
  | 0, .tup _ => false
  | 0, .ro _ => false
  | k + 1, .tup xs => flatTos k xs
  | k + 1, .ro xs => flatTos k xs
  | _, _ => true
def flatTos : Nat → List D → Bool
  | _, [] => true
  | k, x :: xs => x.flatTo k && flatTos k xs
end
mutual
def D.py : D → PyData
  | .non => .none
  | .bl b => .bool b
  | .int i => .int i
  | .str x => .str x
  | .tup xs => .tuple (pys xs)
  | .lst _ => .none
  | .ro xs => .list (pys xs)
def pys : List D → List PyData
  | [] => []
  | x :: xs => x.py :: pys xs
end

/-! ### answers -/
inductive R (α : Type) where
  | ok (a : α) (S : Sto)
  | exc (c : Str) (fs : List (Str × D)) (S : Sto)
  | bad
def R.bind {α β : Type} (r : R α) (k : α → Sto → R β) : R β :=
  match r with
  | .ok a S => k a S
  | .exc c fs S => .exc c fs S
  | .bad => .bad
@[simp] theorem R.bind_ok {α β : Type} (a : α) (S : Sto) (k : α → Sto → R β) : (R.ok a S).bind k = k a S := rfl
@[simp] theorem R.bind_exc {α β : Type} (c : Str) (fs : List (Str × D)) (S : Sto) (k : α → Sto → R β) : (R.exc (α := α) c fs S).bind k = .exc c fs S := rfl
@[simp] theorem R.bind_bad {α β : Type} (k : α → Sto → R β) : (R.bad (α := α)).bind k = .bad := rfl
/-- a value, or nothing told -/
def optR {α : Type} (o : Option α) (S : Sto) : R α := match o with | some a => .ok a S | none => .bad
@[simp] theorem optR_some {α : Type} (a : α) (S : Sto) : optR (some a) S = .ok a S := rfl
@[simp] theorem optR_none {α : Type} (S : Sto) : optR (none : Option α) S = .bad := rfl

/-- an exception here is not told -/
def R.calm {α : Type} (r : R α) : R α := match r with | .exc _ _ _ => .bad | r => r
@[simp] theorem R.calm_ok {α : Type} (a : α) (S : Sto) : (R.ok a S).calm = .ok a S := rfl
@[simp] theorem R.calm_bad {α : Type} : (R.bad : R α).calm = .bad := rfl

/-! ### operations on values -/
inductive BOp | add | sub | mul | fdiv | mod | pow | shl | shr | band | bor | bxor
deriving DecidableEq
inductive COp | eq | ne | lt | le | gt | ge | is | isnt | isin | notin
deriving DecidableEq

def mulOk (i j : Int) : Prop := (-(2 ^ 64) < i ∧ i < 2 ^ 64) ∨ (-(2 ^ 64) < j ∧ j < 2 ^ 64) ∨ i.natAbs.log2 + j.natAbs.log2 < 1000000
instance (i j : Int) : Decidable (mulOk i j) := by unfold mulOk; infer_instance
def divOk (j : Int) : Prop := 0 < j ∧ (j < 1073741824 ∨ j.natAbs.log2 < 9000)
instance (j : Int) : Decidable (divOk j) := by unfold divOk; infer_instance
def powOk (i j : Int) : Prop := 0 ≤ j ∧ j ≤ 1000000 ∧ i.natAbs < 2 ^ 64
instance (i j : Int) : Decidable (powOk i j) := by unfold powOk; infer_instance

/-- so many times one behind another -/
def rep {α : Type} (k : Nat) (xs : List α) : List α := (List.replicate k xs).flatten
/-- a new list -/
def newL (xs : List D) (S : Sto) : R D := if xs.length ≤ sizeLine then .ok (.lst S.length) (S ++ [xs]) else .bad
def newT (xs : List D) (S : Sto) : R D := if xs.length ≤ sizeLine then .ok (.tup xs) S else .bad

def intB (op : BOp) (i j : Int) (S : Sto) : R D :=
  match op with
  | .add => .ok (.int (i + j)) S
  | .sub => .ok (.int (i - j)) S
  | .mul => if mulOk i j then .ok (.int (i * j)) S else .bad
  | .fdiv => if divOk j then .ok (.int (i / j)) S else .bad
  | .mod => if 0 < j then .ok (.int (i % j)) S else .bad
  | .pow => if powOk i j then .ok (.int (i ^ j.toNat)) S else .bad
  | .shl => if powOk i j then .ok (.int (i * 2 ^ j.toNat)) S else .bad
  | .shr => if 0 ≤ j then .ok (.int (i / 2 ^ j.toNat)) S else .bad
  | .band => .ok (.int (Builtin.bitAnd i j)) S
  | .bor => .ok (.int (Builtin.bitOr i j)) S
  | .bxor => .ok (.int (Builtin.bitXor i j)) S
def binR (op : BOp) (a b : D) (S : Sto) : R D :=
  match a, b with
  | .int i, .int j => intB op i j S
  | .tup xs, .tup ys => match op with
    | .add => newT (xs ++ ys) S
    | _ => .bad
  | .tup xs, .int k => match op with
    | .mul => if -(2 ^ 62) ≤ k ∧ k ≤ 1000 ∧ xs.length ≤ 1000 then .ok (.tup (rep k.toNat xs)) S else .bad
    | _ => .bad
  | .lst m, .lst n => match op, S[m]?, S[n]? with
    | .add, some xs, some ys => newL (xs ++ ys) S
    | _, _, _ => .bad
  | .lst m, .int k => match op, S[m]? with
    | .mul, some xs => if -(2 ^ 63) ≤ k ∧ k < 2 ^ 63 then newL (rep k.toNat xs) S else .bad
    | _, _ => .bad
  | .str x, .str y => match op with
    | .add => if x.length + y.length ≤ sizeLine then .ok (.str (x ++ y)) S else .bad
    | _ => .bad
  | _, _ => .bad
/-- op= : of lists + is not told -/
def augR (op : BOp) (a b : D) (S : Sto) : R D :=
  match a, b with
  | .int i, .int j => match op with
    | .pow => .bad
    | op => intB op i j S
  | .str x, .str y => match op with
    | .add => if x.length + y.length ≤ sizeLine then .ok (.str (x ++ y)) S else .bad
    | _ => .bad
  | _, _ => .bad

/-- a list of the store as it stands -/
def res (S : Sto) (d : D) : Option D := match d with | .lst n => (S[n]?).map D.ro | d => some d
def eqD (a b : D) : Bool := PyData.eqv a.py b.py
def eqR (a b : D) (S : Sto) : Option Bool :=
  match res S a, res S b with
  | some a, some b => if a.pure = true ∧ b.pure = true ∧ (a.flatTo 60 || b.flatTo 60) = true then some (eqD a b) else none
  | _, _ => none
def flatD : D → Bool
  | .non => true | .bl _ => true | .int _ => true | .str _ => true | _ => false
/-- the items of a list or a tuple -/
def itemsOf (S : Sto) (d : D) : Option (List D) := match d with | .lst n => S[n]? | .tup xs => some xs | .ro xs => some xs | _ => none
def intsOf : List D → Option (List Int)
  | [] => some []
  | .int i :: r => (intsOf r).map (i :: ·)
  | _ :: _ => none
def lexLt : List Int → List Int → Bool := HT.lexLt
def cmpR (op : COp) (a b : D) (S : Sto) : R D :=
  match op with
  | .eq => optR ((eqR a b S).map D.bl) S
  | .ne => optR ((eqR a b S).map fun x => D.bl (!x)) S
  | .lt => match a, b with
    | .int i, .int j => .ok (.bl (decide (i < j))) S
    | .tup xs, .tup ys => match intsOf xs, intsOf ys with
      | some ns, some ms => .ok (.bl (lexLt ns ms)) S
      | _, _ => .bad
    | _, _ => .bad
  | .le => match a, b with
    | .int i, .int j => .ok (.bl (decide (i ≤ j))) S
    | _, _ => .bad
  | .gt => match a, b with
    | .int i, .int j => .ok (.bl (decide (j < i))) S
    | _, _ => .bad
  | .ge => match a, b with
    | .int i, .int j => .ok (.bl (decide (j ≤ i))) S
    | _, _ => .bad
  | .is => match a, b with
    | .non, .non => .ok (.bl true) S
    | _, .non => .ok (.bl false) S
    | .bl x, .bl y => .ok (.bl (x == y)) S
    | _, .bl _ => .ok (.bl false) S
    | _, _ => .bad
  | .isnt => match a, b with
    | .non, .non => .ok (.bl false) S
    | _, .non => .ok (.bl true) S
    | .bl x, .bl y => .ok (.bl (!(x == y))) S
    | _, .bl _ => .ok (.bl true) S
    | _, _ => .bad
  | .isin => match itemsOf S b with
    | some xs => if flatD a = true ∧ xs.all flatD = true then .ok (.bl (xs.any fun y => eqD y a)) S else .bad
    | none => .bad
  | .notin => match itemsOf S b with
    | some xs => if flatD a = true ∧ xs.all flatD = true then .ok (.bl (!xs.any fun y => eqD y a)) S else .bad
    | none => .bad

def truthR (d : D) (S : Sto) : Option Bool :=
  match d with
  | .non => some false
  | .bl b => some b
  | .int i => some (i != 0)
  | .str x => if x.length ≤ sizeLine then some ((x.length : Int) != 0) else none
  | .tup xs => some (!xs.isEmpty)
  | .ro xs => some (!xs.isEmpty)
  | .lst n => (S[n]?).map fun xs => !xs.isEmpty

/-- the item at a place of either sign -/
def atI {α : Type} (xs : List α) (i : Int) : Option α := L2.atI xs i
def ixR (a b : D) (S : Sto) : R D :=
  match b with
  | .int i => match itemsOf S a with
    | some xs => optR (atI xs i) S
    | none => match a with
      | .str z => if z.length ≤ sizeLine then optR ((atI z.cps.toList i).map fun c => D.str ⟨#[c]⟩) S else .bad
      | _ => .bad
  | _ => .bad
/-- .. of a list of the store alone -/
def ixL (a b : D) (S : Sto) : R D := match a with | .lst _ => ixR a b S | _ => .bad
def cut {α : Type} (xs : List α) (lo hi : Option Int) : List α := (xs.drop (HT.sIx xs.length 0 lo)).take (HT.sIx xs.length xs.length hi - HT.sIx xs.length 0 lo)
def slR (a : D) (l h : Option Int) (S : Sto) : R D :=
  match a with
  | .tup xs => .ok (.tup (cut xs l h)) S
  | .lst n => match S[n]? with
    | some xs => newL (cut xs l h) S
    | none => .bad
  | .ro xs => newL (cut xs l h) S
  | _ => .bad
def revR (a : D) (S : Sto) : R D :=
  match a with
  | .tup xs => .ok (.tup xs.reverse) S
  | .lst n => match S[n]? with
    | some xs => newL xs.reverse S
    | none => .bad
  | .ro xs => newL xs.reverse S
  | _ => .bad
def setIxR (o i v : D) (S : Sto) : Option Sto :=
  match o, i with
  | .lst n, .int k => match S[n]? with
    | some xs => (L2.ixN xs.length k).map fun j => S.set n (xs.set j v)
    | none => none
  | _, _ => none

/-! ### built-ins -/
def rangeD : Int → Nat → List D
  | _, 0 => []
  | lo, n + 1 => .int lo :: rangeD (lo + 1) n
def stepD (c : Int) : Int → Nat → List D
  | _, 0 => []
  | lo, n + 1 => .int lo :: stepD c (lo + c) n
def enumD : Int → List D → List D
  | _, [] => []
  | i, x :: xs => .tup [.int i, x] :: enumD (i + 1) xs
def zipD : List D → List D → List D
  | x :: xs, y :: ys => .tup [x, y] :: zipD xs ys
  | _, _ => []
def bndOk (i : Int) : Prop := -(2 ^ 62) ≤ i ∧ i < 2 ^ 62
instance (i : Int) : Decidable (bndOk i) := by unfold bndOk; infer_instance

inductive Bi | len | tuple | list | abs | min | max | int | sum | gcd | isInt | isBool | isTuple | isStr | isList | isLT | all | any | sorted
deriving DecidableEq
def boolsOf : List D → Option (List Bool)
  | [] => some []
  | .bl b :: r => (boolsOf r).map (b :: ·)
  | _ :: _ => none
def biR (b : Bi) (ds : List D) (S : Sto) : R D :=
  match b, ds with
  | .len, [.str x] => if x.length ≤ sizeLine then .ok (.int x.length) S else .bad
  | .len, [d] => match itemsOf S d with
    | some xs => .ok (.int xs.length) S
    | none => .bad
  | .tuple, [.tup xs] => .ok (.tup xs) S
  | .tuple, [d] => match itemsOf S d with
    | some xs => .ok (.tup xs) S
    | none => .bad
  | .list, [d] => match itemsOf S d with
    | some xs => newL xs S
    | none => .bad
  | .abs, [.int i] => .ok (.int (if i < 0 then -i else i)) S
  | .min, [.int i, .int j] => .ok (.int (if j < i then j else i)) S
  | .max, [.int i, .int j] => .ok (.int (if j > i then j else i)) S
  | .int, [.int i] => .ok (.int i) S
  | .int, [.bl k] => .ok (.int (if k then 1 else 0)) S
  | .sum, [d] => match itemsOf S d, d with
    | some xs, .lst _ => optR ((intsOf xs).map fun ns => D.int ns.sum) S
    | _, _ => .bad
  | .gcd, [.int i, .int j] => .ok (.int ((Nat.gcd i.natAbs j.natAbs : Nat) : Int)) S
  | .isInt, [d] => .ok (.bl (match d with | .int _ => true | .bl _ => true | _ => false)) S
  | .isBool, [d] => .ok (.bl (match d with | .bl _ => true | _ => false)) S
  | .isTuple, [d] => .ok (.bl (match d with | .tup _ => true | _ => false)) S
  | .isStr, [d] => .ok (.bl (match d with | .str _ => true | _ => false)) S
  | .isList, [d] => .ok (.bl (match d with | .lst _ => true | .ro _ => true | _ => false)) S
  | .isLT, [d] => .ok (.bl (match d with | .lst _ => true | .ro _ => true | .tup _ => true | _ => false)) S
  | .all, [.lst n] => match S[n]? with
    | some xs => optR ((boolsOf xs).map fun bs => D.bl (bs.all id)) S
    | none => .bad
  | .any, [.lst n] => match S[n]? with
    | some xs => optR ((boolsOf xs).map fun bs => D.bl (bs.any id)) S
    | none => .bad
  | _, _ => .bad
inductive Mt | append | pop | popAt | extend
deriving DecidableEq
def mtR (m : Mt) (o : D) (ds : List D) (S : Sto) : R D :=
  match o with
  | .lst n => match S[n]? with
    | some xs => match m, ds with
      | .append, [d] => if xs.length < sizeLine then .ok .non (S.set n (xs ++ [d])) else .bad
      | .pop, [] => match xs[xs.length - 1]? with
        | some y => .ok y (S.set n xs.dropLast)
        | none => .bad
      | .popAt, [.int i] => if -(2 ^ 63) ≤ i ∧ i < 2 ^ 63 then match seqIndex? i xs.length with
        | some k => match xs[k]? with
          | some y => .ok y (S.set n (xs.eraseIdx k))
          | none => .bad
        | none => .bad else .bad
      | .extend, [.lst b] => match S[b]? with
        | some zs => if xs.length + zs.length ≤ sizeLine then .ok .non (S.set n (xs ++ zs)) else .bad
        | none => .bad
      | _, _ => .bad
    | none => .bad
  | _ => .bad

/-! ### the language -/
mutual
inductive G where
  | nm (i : Nat)
  | tup (gs : Gs)
inductive Gs where
  | nil
  | cons (g : G) (gs : Gs)
end
mutual
inductive E where
  | c (d : D)
  | v (i : Nat)
  | g (x : Str)
  | bin (op : BOp) (a b : E)
  | neg (a : E)
  | cmp (op : COp) (a b : E)
  | chain (op op' : COp) (a b c : E)
  | andE (a b : E)
  | orE (a b : E)
  | notE (a : E)
  | ite (t : T) (a b : E)
  | tup (es : Es)
  | lst (es : Es)
  | ix (a b : E)
  | sl (a : E) (lo hi : O)
  | rev (a : E)
  | call (f : Str) (es : Es)
  | bi (b : Bi) (es : Es)
  | mt (m : Mt) (o : E) (es : Es)
  | lc (elt : E) (tg : G) (it : I) (t : T) (own : List Nat)
  | lc2 (elt : E) (tg : G) (it : I) (t : T) (tg1 : G) (it1 : I) (t1 : T) (own : List Nat) (own1 : List Nat)
inductive T where
  | yes
  | val (e : E)
  | and (a b : T)
  | or (a b : T)
  | not (a : T)
inductive Es where
  | nil
  | cons (e : E) (es : Es)
inductive O where
  | non
  | som (e : E)
inductive I where
  | e (e : E)
  | range1 (a : E)
  | range2 (a b : E)
  | range3 (a b c : E)
  | enum (e : E)
  | zip (a b : E)
  | rev (e : E)
end
mutual
inductive St where
  | set (i : Nat) (e : E)
  | tset (g : G) (e : E)
  | par (is : List Nat) (es : Es)
  | setix (o i e : E)
  | aug (i : Nat) (op : BOp) (e : E)
  | augix (o i : E) (op : BOp) (e : E)
  | ex (e : E)
  | ret (e : E)
  | retN
  | ite (t : T) (a b : Sts)
  | wh (t : T) (b : Sts)
  | fo (g : G) (it : I) (b : Sts)
  | pass
  | brk
  | cont
inductive Sts where
  | nil
  | cons (s : St) (ss : Sts)
end
structure Fn where
  np : Nat
  nv : Nat
  body : Sts

/-! ### what it computes -/
mutual
/-- a target gets a value -/
def asg : G → D → Rho → Option Rho
  | .nm i, d, ρ => some (ρ.set i (some d))
  | .tup gs, .tup xs, ρ => asgs gs xs ρ
  | .tup _, _, _ => none
def asgs : Gs → List D → Rho → Option Rho
  | .nil, [], ρ => some ρ
  | .cons g gs, x :: xs, ρ => (asg g x ρ).bind fun ρ => asgs gs xs ρ
  | _, _, _ => none
end
def wipeR (ρ : Rho) : List Nat → Rho
  | [] => ρ
  | v :: vs => (wipeR ρ vs).set v none
/-- the lists that are walked stand as they stood -/
def chk (gd : List (Nat × List D)) (S : Sto) : Bool := gd.all fun p => match S[p.1]? with | some ys => beqs p.2 ys | none => false
abbrev Gd := List (Nat × List D)
/-- a list comprehension's turns: what each turn gives (or leaves out) -/
def lcF (gd : Gd) (body : D → Sto → R (Option D)) : List D → Sto → R (List D)
  | [], S => if chk gd S then .ok [] S else .bad
  | x :: xs, S => if chk gd S then (body x S).bind fun o S1 => (lcF gd body xs S1).bind fun vs S2 => .ok (match o with | some v => v :: vs | none => vs) S2 else .bad
/-- .. each turn gives several -/
def lcF2 (gd : Gd) (body : D → Sto → R (List D)) : List D → Sto → R (List D)
  | [], S => if chk gd S then .ok [] S else .bad
  | x :: xs, S => if chk gd S then (body x S).bind fun o S1 => (lcF2 gd body xs S1).bind fun vs S2 => .ok (o ++ vs) S2 else .bad
/-- a known def's call: what it is handed -/
abbrev Calls := Str → List D → Sto → R D
def callR (Γ : Calls) (f : Str) (ds : List D) (S : Sto) : R D :=
  if pures ds = true then
    match Γ f ds [] with
    | .ok d S1 => if d.pure = true then .ok d S else .ok (d.shift S.length) (S ++ S1.map (shifts S.length))
    | .exc c fs S1 => if pures (fs.map (·.2)) = true then .exc c fs S else .bad
    | .bad => .bad
  else Γ f ds S
/-- what a name of the module holds -/
abbrev Consts := Str → Option D
section
variable (Γ : Calls) (Co : Consts)
mutual
def evE : E → Rho → Sto → R D
  | .c d, _, S => .ok d S
  | .v i, ρ, S => match ρ[i]? with
    | some (some d) => .ok d S
    | _ => .bad
  | .g x, _, S => optR (Co x) S
  | .bin op a b, ρ, S => (evE a ρ S).bind fun x S => (evE b ρ S).bind fun y S => binR op x y S
  | .neg a, ρ, S => (evE a ρ S).bind fun x S => match x with
    | .int i => .ok (.int (-i)) S
    | _ => .bad
  | .cmp op a b, ρ, S => (evE a ρ S).bind fun x S => (evE b ρ S).bind fun y S => cmpR op x y S
  | .chain op op' a b c, ρ, S => (evE a ρ S).bind fun x S => (evE b ρ S).bind fun y S => (cmpR op x y S).bind fun z S => match z with
    | .bl true => (evE c ρ S).bind fun w S => cmpR op' y w S
    | .bl false => .ok (.bl false) S
    | _ => .bad
  | .andE a b, ρ, S => (evE a ρ S).bind fun x S => (optR (truthR x S) S).bind fun t S => if t = true then evE b ρ S else .ok x S
  | .orE a b, ρ, S => (evE a ρ S).bind fun x S => (optR (truthR x S) S).bind fun t S => if t = true then .ok x S else evE b ρ S
  | .notE a, ρ, S => (evE a ρ S).bind fun x S => (optR (truthR x S) S).bind fun t S => .ok (.bl (!t)) S
  | .ite t a b, ρ, S => (evT t ρ S).bind fun t S => if t = true then evE a ρ S else evE b ρ S
  | .tup es, ρ, S => (evEs es ρ S).bind fun xs S => newT xs S
  | .lst es, ρ, S => (evEs es ρ S).bind fun xs S => newL xs S
  | .ix a b, ρ, S => (evE a ρ S).bind fun x S => (evE b ρ S).bind fun y S => ixR x y S
  | .sl a lo hi, ρ, S => (evE a ρ S).bind fun x S => (evO lo ρ S).bind fun l S => (evO hi ρ S).bind fun h S => slR x l h S
  | .rev a, ρ, S => (evE a ρ S).bind fun x S => revR x S
  | .call f es, ρ, S => (evEs es ρ S).bind fun xs S => callR Γ f xs S
  | .bi b es, ρ, S => (evEs es ρ S).bind fun xs S => biR b xs S
  | .mt m o es, ρ, S => (evE o ρ S).bind fun x S => match x with
    | .lst n => (evEs es ρ S).bind fun xs S => mtR m (.lst n) xs S
    | _ => .bad
  | .lc elt tg it t own, ρ, S => (evI it ρ S).bind fun p S => ((lcF p.1 (fun x S => match asg tg x (wipeR ρ own) with
      | none => .bad
      | some ρ => (evT t ρ S).bind fun b S => if b = true then (evE elt ρ S).bind fun v S => .ok (some v) S else .ok none S) p.2 S).bind fun vs S => newL vs S).calm
  | .lc2 elt tg it t tg1 it1 t1 own own1, ρ, S => (evI it ρ S).bind fun p S => ((lcF2 p.1 (fun x S => match asg tg x (wipeR ρ own) with
      | none => .bad
      | some ρ => (evT t ρ S).bind fun b S => if b = true then (evI it1 ρ S).bind fun p1 S => lcF p1.1 (fun x1 S => match asg tg1 x1 (wipeR ρ own1) with
          | none => .bad
          | some ρ => (evT t1 ρ S).bind fun b S => if b = true then (evE elt ρ S).bind fun v S => .ok (some v) S else .ok none S) p1.2 S else .ok [] S) p.2 S).bind fun vs S => newL vs S).calm
def evT : T → Rho → Sto → R Bool
  | .yes, _, S => .ok true S
  | .val e, ρ, S => (evE e ρ S).bind fun x S => optR (truthR x S) S
  | .and a b, ρ, S => (evT a ρ S).bind fun t S => if t = true then evT b ρ S else .ok false S
  | .or a b, ρ, S => (evT a ρ S).bind fun t S => if t = true then .ok true S else evT b ρ S
  | .not a, ρ, S => (evT a ρ S).bind fun t S => .ok (!t) S
def evEs : Es → Rho → Sto → R (List D)
  | .nil, _, S => .ok [] S
  | .cons e es, ρ, S => (evE e ρ S).bind fun x S => (evEs es ρ S).bind fun xs S => .ok (x :: xs) S
def evO : O → Rho → Sto → R (Option Int)
  | .non, _, S => .ok none S
  | .som e, ρ, S => (evE e ρ S).bind fun x S => match x with
    | .int i => .ok (some i) S
    | _ => .bad
/-- what is walked: the lists that must stay, the items -/
def evI : I → Rho → Sto → R (Gd × List D)
  | .e e, ρ, S => (evE e ρ S).bind fun x S => match x with
    | .tup xs => .ok ([], xs) S
    | .ro xs => .ok ([], xs) S
    | .lst n => match S[n]? with
      | some xs => .ok ([(n, xs)], xs) S
      | none => .bad
    | .str z => .ok ([], z.cps.toList.map fun c => .str ⟨#[c]⟩) S
    | _ => .bad
  | .range1 a, ρ, S => (evE a ρ S).bind fun x S => match x with
    | .int j => if bndOk j then .ok ([], rangeD 0 j.toNat) S else .bad
    | _ => .bad
  | .range2 a b, ρ, S => (evE a ρ S).bind fun x S => (evE b ρ S).bind fun y S => match x, y with
    | .int i, .int j => if bndOk i ∧ bndOk j then .ok ([], rangeD i (j - i).toNat) S else .bad
    | _, _ => .bad
  | .range3 a b c, ρ, S => (evE a ρ S).bind fun x S => (evE b ρ S).bind fun y S => (evE c ρ S).bind fun z S => match x, y, z with
    | .int i, .int j, .int c => if bndOk i ∧ bndOk j ∧ c = -1 then .ok ([], stepD (-1) i (i - j).toNat) S
        else if c ≠ 0 ∧ c.natAbs < 1073741824 ∧ Builtin.Range.small i j c = true ∧ Builtin.Range.rangeSize i j c = ((Builtin.Range.rangeSize i j c).toNat : Int) then .ok ([], stepD c i (Builtin.Range.rangeSize i j c).toNat) S else .bad
    | _, _, _ => .bad
  | .enum e, ρ, S => (evE e ρ S).bind fun x S => match x with
    | .tup xs => .ok ([], enumD 0 xs) S
    | .ro xs => .ok ([], enumD 0 xs) S
    | .lst n => match S[n]? with
      | some xs => .ok ([(n, xs)], enumD 0 xs) S
      | none => .bad
    | _ => .bad
  | .zip a b, ρ, S => (evE a ρ S).bind fun x S => (evE b ρ S).bind fun y S => match x, y with
    | .tup xs, .tup ys => .ok ([], zipD xs ys) S
    | .lst m, .lst n => match S[m]?, S[n]? with
      | some xs, some ys => .ok ([(m, xs), (n, ys)], zipD xs ys) S
      | _, _ => .bad
    | _, _ => .bad
  | .rev e, ρ, S => (evE e ρ S).bind fun x S => match x with
    | .tup xs => .ok ([], xs.reverse) S
    | .lst n => match S[n]? with
      | some xs => .ok ([(n, xs)], xs.reverse) S
      | none => .bad
    | _ => .bad
end
end
/-- how a statement ends -/
inductive F where
  | nx (ρ : Rho) (S : Sto)
  | rt (d : D) (S : Sto)
  | bk (ρ : Rho) (S : Sto)
  | ct (ρ : Rho) (S : Sto)
  | exc (c : Str) (fs : List (Str × D)) (S : Sto)
  | bad
def F.then (f : F) (k : Rho → Sto → F) : F := match f with
  | .nx ρ S => k ρ S
  | f => f
@[simp] theorem F.then_nx (ρ : Rho) (S : Sto) (k : Rho → Sto → F) : (F.nx ρ S).then k = k ρ S := rfl
@[simp] theorem F.then_rt (d : D) (S : Sto) (k : Rho → Sto → F) : (F.rt d S).then k = .rt d S := rfl
@[simp] theorem F.then_bk (ρ : Rho) (S : Sto) (k : Rho → Sto → F) : (F.bk ρ S).then k = .bk ρ S := rfl
@[simp] theorem F.then_ct (ρ : Rho) (S : Sto) (k : Rho → Sto → F) : (F.ct ρ S).then k = .ct ρ S := rfl
@[simp] theorem F.then_exc (c : Str) (fs : List (Str × D)) (S : Sto) (k : Rho → Sto → F) : (F.exc c fs S).then k = .exc c fs S := rfl
@[simp] theorem F.then_bad (k : Rho → Sto → F) : F.bad.then k = .bad := rfl
def R.toF {α : Type} (r : R α) (k : α → Sto → F) : F := match r with
  | .ok a S => k a S
  | .exc c fs S => .exc c fs S
  | .bad => .bad
@[simp] theorem R.toF_ok {α : Type} (a : α) (S : Sto) (k : α → Sto → F) : (R.ok a S).toF k = k a S := rfl
@[simp] theorem R.toF_exc {α : Type} (c : Str) (fs : List (Str × D)) (S : Sto) (k : α → Sto → F) : (R.exc c fs S : R α).toF k = .exc c fs S := rfl
@[simp] theorem R.toF_bad {α : Type} (k : α → Sto → F) : (R.bad : R α).toF k = .bad := rfl
/-- a turn of a loop is over -/
def F.turn (f : F) (again : Rho → Sto → F) : F := match f with
  | .nx ρ S => again ρ S
  | .ct ρ S => again ρ S
  | .bk ρ S => .nx ρ S
  | f => f
@[simp] theorem F.turn_nx (ρ : Rho) (S : Sto) (k : Rho → Sto → F) : (F.nx ρ S).turn k = k ρ S := rfl
@[simp] theorem F.turn_ct (ρ : Rho) (S : Sto) (k : Rho → Sto → F) : (F.ct ρ S).turn k = k ρ S := rfl
@[simp] theorem F.turn_bk (ρ : Rho) (S : Sto) (k : Rho → Sto → F) : (F.bk ρ S).turn k = .nx ρ S := rfl
@[simp] theorem F.turn_rt (d : D) (S : Sto) (k : Rho → Sto → F) : (F.rt d S).turn k = .rt d S := rfl
@[simp] theorem F.turn_exc (c : Str) (fs : List (Str × D)) (S : Sto) (k : Rho → Sto → F) : (F.exc c fs S).turn k = .exc c fs S := rfl
@[simp] theorem F.turn_bad (k : Rho → Sto → F) : F.bad.turn k = .bad := rfl
def forF (gd : Gd) (body : D → Rho → Sto → F) : List D → Rho → Sto → F
  | [], ρ, S => if chk gd S then .nx ρ S else .bad
  | x :: xs, ρ, S => if chk gd S then (body x ρ S).turn fun ρ S => forF gd body xs ρ S else .bad
def whF (test : Rho → Sto → R Bool) (body : Rho → Sto → F) : Nat → Rho → Sto → F
  | 0, _, _ => .bad
  | n + 1, ρ, S => (test ρ S).toF fun b S => if b = true then (body ρ S).turn fun ρ S => whF test body n ρ S else .nx ρ S
def setAll : List Nat → List D → Rho → Option Rho
  | [], [], ρ => some ρ
  | i :: is, x :: xs, ρ => setAll is xs (ρ.set i (some x))
  | _, _, _ => none
/-- how many turns a while may take -/
def turns : Nat := 2 ^ 80
section
variable (Γ : Calls) (Co : Consts)
mutual
def evS : St → Rho → Sto → F
  | .set i e, ρ, S => (evE Γ Co e ρ S).toF fun x S => .nx (ρ.set i (some x)) S
  | .tset g e, ρ, S => (evE Γ Co e ρ S).toF fun x S => match asg g x ρ with
    | some ρ => .nx ρ S
    | none => .bad
  | .par is es, ρ, S => (evEs Γ Co es ρ S).toF fun xs S => match setAll is xs ρ with
    | some ρ => .nx ρ S
    | none => .bad
  | .setix o i e, ρ, S => (evE Γ Co e ρ S).toF fun v S => (evE Γ Co o ρ S).toF fun o S => (evE Γ Co i ρ S).toF fun i S => match setIxR o i v S with
    | some S => .nx ρ S
    | none => .bad
  | .aug i op e, ρ, S => match ρ[i]? with
    | some (some x) => (evE Γ Co e ρ S).toF fun y S => (augR op x y S).toF fun z S => .nx (ρ.set i (some z)) S
    | _ => .bad
  | .augix o i op e, ρ, S => (evE Γ Co o ρ S).toF fun o S => (evE Γ Co i ρ S).toF fun i S => (ixL o i S).toF fun x S => (evE Γ Co e ρ S).toF fun y S => (augR op x y S).toF fun z S => match setIxR o i z S with
    | some S => .nx ρ S
    | none => .bad
  | .ex e, ρ, S => (evE Γ Co e ρ S).toF fun _ S => .nx ρ S
  | .ret e, ρ, S => (evE Γ Co e ρ S).toF fun x S => .rt x S
  | .retN, _, S => .rt .non S
  | .ite t a b, ρ, S => (evT Γ Co t ρ S).toF fun t S => if t = true then evSs a ρ S else evSs b ρ S
  | .wh t b, ρ, S => whF (evT Γ Co t) (fun ρ S => evSs b ρ S) turns ρ S
  | .fo g it b, ρ, S => (evI Γ Co it ρ S).toF fun p S => forF p.1 (fun x ρ S => match asg g x ρ with
      | none => .bad
      | some ρ => evSs b ρ S) p.2 ρ S
  | .pass, ρ, S => .nx ρ S
  | .brk, ρ, S => .bk ρ S
  | .cont, ρ, S => .ct ρ S
def evSs : Sts → Rho → Sto → F
  | .nil, ρ, S => .nx ρ S
  | .cons s ss, ρ, S => (evS s ρ S).then fun ρ S => evSs ss ρ S
end
/-- a def's run -/
def runFn (fn : Fn) (ds : List D) (S : Sto) : R D :=
  if ds.length = fn.np then
    match evSs Γ Co fn.body (ds.map some ++ List.replicate (fn.nv - fn.np) none) S with
    | .rt d S => .ok d S
    | .nx _ S => .ok .non S
    | .exc c fs S => .exc c fs S
    | _ => .bad
  else .bad
end
/-- the defs by their names -/
def run (Co : Consts) (P : Str → Option Fn) : Nat → Calls
  | 0, _, _, _ => .bad
  | n + 1, f, ds, S => match P f with
    | some fn => runFn (run Co P n) Co fn ds S
    | none => .bad
end Z
end
section
set_option Elab.async false
set_option linter.all false
set_option autoImplicit false
set_option maxRecDepth 100000
set_option maxHeartbeats 2000000
/-! Z2: how the heap bears the values; the operations by values. -/
namespace Z
open PySem PySem.Spec PyProof.Rows L2

/-- a list that is only read -/
def Fz (K : PySem.W.Frag) (H : Hp) (a : Addr) (xs : List V) : Prop :=
  (∃ o, H a = some (.frz o (.lst xs))) ∨
    ∃ (o : Obj) (its : Array Value) (n : Nat), K.lookup a = some o ∧ o.cls = .type "list" ∧ o.dict = none ∧ o.data = .seq its n ∧ its.size ≤ sizeLine ∧ Vals xs its.toList
theorem Fz.sq {K : PySem.W.Frag} {H : Hp} {a : Addr} {xs : List V} (h : Fz K H a xs) : SqL K H a xs := by
  rcases h with ⟨o, h⟩ | h
  · exact .inl (.inr ⟨o, h⟩)
  · exact .inr h
mutual
inductive RepD (K : PySem.W.Frag) (H : Hp) (m : Nat → Addr) (N : Nat) : D → V → Prop
  | non : RepD K H m N .non .non
  | bl (b : Bool) : RepD K H m N (.bl b) (.bl b)
  | int (i : Int) : RepD K H m N (.int i) (.int i)
  | str (x : Str) : PyData.strOk x = true → RepD K H m N (.str x) (.str x)
  | tup {a : Addr} {ds : List D} {vs : List V} : SqT K H a vs → RepDs K H m N ds vs → RepD K H m N (.tup ds) (.ref a)
  | lst {n : Nat} : n < N → RepD K H m N (.lst n) (.ref (m n))
  | ro {a : Addr} {ds : List D} {vs : List V} : Fz K H a vs → RepDs K H m N ds vs → RepD K H m N (.ro ds) (.ref a)
inductive RepDs (K : PySem.W.Frag) (H : Hp) (m : Nat → Addr) (N : Nat) : List D → List V → Prop
  | nil : RepDs K H m N [] []
  | cons {d : D} {v : V} {ds : List D} {vs : List V} : RepD K H m N d v → RepDs K H m N ds vs → RepDs K H m N (d :: ds) (v :: vs)
end
structure RepS (K : PySem.W.Frag) (H : Hp) (m : Nat → Addr) (S : Sto) : Prop where
  cell : ∀ (n : Nat) (xs : List D), S[n]? = some xs → ∃ vs, H (m n) = some (.lst vs) ∧ RepDs K H m S.length xs vs
  inj : ∀ i j, i < S.length → j < S.length → m i = m j → i = j
/-- from one heap to a later one -/
structure Ext (H : Hp) (m : Nat → Addr) (N : Nat) (H' : Hp) (m' : Nat → Addr) (N' : Nat) : Prop where
  le : N ≤ N'
  same : ∀ n, n < N → m' n = m n
  frame : ∀ a o, H a = some o → (∀ n, n < N → m n ≠ a) → H' a = some o
  fresh : ∀ n, N ≤ n → n < N' → H (m' n) = none
/-- the lists of the store are tracked -/
def TrL (H : Hp) (m : Nat → Addr) (N : Nat) : Prop := ∀ n, n < N → ∃ vs, H (m n) = some (.lst vs)

section
variable {K : PySem.W.Frag} {H H1 H2 : Hp} {m m1 m2 : Nat → Addr} {N N1 N2 : Nat} {S S1 : Sto} {d : D} {v : V} {ds : List D} {vs : List V}
theorem RepS.tr (r : RepS K H m S) : TrL H m S.length := fun n hn => by
  obtain ⟨vs, h, _⟩ := r.cell n S[n] (List.getElem?_eq_getElem hn)
  exact ⟨vs, h⟩
theorem Ext.refl : Ext H m N H m N := ⟨Nat.le_refl _, fun _ _ => rfl, fun _ _ h _ => h, fun n h1 h2 => absurd (Nat.lt_of_lt_of_le h2 h1) (Nat.lt_irrefl _)⟩
theorem Ext.trans (a : Ext H m N H1 m1 N1) (t1 : TrL H1 m1 N1) (b : Ext H1 m1 N1 H2 m2 N2) : Ext H m N H2 m2 N2 := by
  have ne : ∀ x o, H x = some o → (∀ n, n < N → m n ≠ x) → ∀ n, n < N1 → m1 n ≠ x := fun x o hx hn n hn1 e => by
    by_cases q : n < N
    · exact hn n q ((a.same n q).symm.trans e)
    · have z := a.fresh n (Nat.le_of_not_lt q) hn1
      rw [e, hx] at z; cases z
  refine ⟨Nat.le_trans a.le b.le, fun n h => (b.same n (Nat.lt_of_lt_of_le h a.le)).trans (a.same n h), fun x o hx hn => b.frame x o (a.frame x o hx hn) (ne x o hx hn), fun n h1 h2 => ?_⟩
  by_cases q : n < N1
  · rw [b.same n q]; exact a.fresh n h1 q
  · have z := b.fresh n (Nat.le_of_not_lt q) h2
    cases e : H (m2 n) with
    | none => rfl
    | some o =>
      by_cases hx : ∀ k, k < N → m k ≠ m2 n
      · have := a.frame _ o e hx
        rw [z] at this; cases this
      · have ⟨k, hk⟩ := Classical.not_forall.mp hx
        have ⟨hk1, hk2⟩ := Classical.not_imp.mp hk
        have hk3 := Classical.not_not.mp hk2
        obtain ⟨vs, q2⟩ := t1 k (Nat.lt_of_lt_of_le hk1 a.le)
        rw [a.same k hk1, hk3, z] at q2; cases q2
theorem sqT_ext (t : TrL H m N) (x : Ext H m N H1 m1 N1) {a : Addr} (h : SqT K H a vs) : SqT K H1 a vs := by
  have ne : ∀ o, H a = some o → (∀ ys, o ≠ .lst ys) → ∀ n, n < N → m n ≠ a := fun o e hne n hn z => by
    obtain ⟨ys, q⟩ := t n hn
    rw [z, e] at q
    exact hne ys (Option.some.inj q)
  rcases h with (h | ⟨o, h⟩) | h
  · exact .inl (.inl (x.frame a _ h (ne _ h (fun _ z => by cases z))))
  · exact .inl (.inr ⟨o, x.frame a _ h (ne _ h (fun _ z => by cases z))⟩)
  · exact .inr h
theorem fz_ext (t : TrL H m N) (x : Ext H m N H1 m1 N1) {a : Addr} (h : Fz K H a vs) : Fz K H1 a vs := by
  rcases h with ⟨o, h⟩ | h
  · refine .inl ⟨o, x.frame a _ h fun n hn z => ?_⟩
    obtain ⟨ys, q⟩ := t n hn
    rw [z, h] at q
    cases q
  · exact .inr h
mutual
theorem RepD.ext (t : TrL H m N) (x : Ext H m N H1 m1 N1) : ∀ {d : D} {v : V}, RepD K H m N d v → RepD K H1 m1 N1 d v
  | _, _, .non => .non
  | _, _, .bl b => .bl b
  | _, _, .int i => .int i
  | _, _, .str y h => .str y h
  | _, _, .tup h r => .tup (sqT_ext t x h) (RepDs.ext t x r)
  | _, _, .lst (n := n) h => by
    rw [← x.same n h]
    exact .lst (Nat.lt_of_lt_of_le h x.le)
  | _, _, .ro h r => .ro (fz_ext t x h) (RepDs.ext t x r)
theorem RepDs.ext (t : TrL H m N) (x : Ext H m N H1 m1 N1) : ∀ {d : List D} {v : List V}, RepDs K H m N d v → RepDs K H1 m1 N1 d v
  | _, _, .nil => .nil
  | _, _, .cons a b => .cons (RepD.ext t x a) (RepDs.ext t x b)
end
theorem RepDs.length : ∀ {ds : List D} {vs : List V}, RepDs K H m N ds vs → ds.length = vs.length
  | _, _, .nil => rfl
  | _, _, .cons _ b => by simp [RepDs.length b]
theorem RepDs.get : ∀ {ds : List D} {vs : List V} {i : Nat} {d : D}, RepDs K H m N ds vs → ds[i]? = some d → ∃ v, vs[i]? = some v ∧ RepD K H m N d v
  | _, _, _, _, .nil, h => by simp at h
  | _, _, 0, _, .cons a _, h => by simp at h; subst h; exact ⟨_, rfl, a⟩
  | _, _, i + 1, _, .cons _ b, h => by
    obtain ⟨v, h1, h2⟩ := RepDs.get (i := i) b (by simpa using h)
    exact ⟨v, by simpa using h1, h2⟩
theorem RepDs.getV : ∀ {ds : List D} {vs : List V} {i : Nat} {v : V}, RepDs K H m N ds vs → vs[i]? = some v → ∃ d, ds[i]? = some d ∧ RepD K H m N d v
  | _, _, _, _, .nil, h => by simp at h
  | _, _, 0, _, .cons a _, h => by simp at h; subst h; exact ⟨_, rfl, a⟩
  | _, _, i + 1, _, .cons _ b, h => by
    obtain ⟨v, h1, h2⟩ := RepDs.getV (i := i) b (by simpa using h)
    exact ⟨v, by simpa using h1, h2⟩
theorem RepDs.append : ∀ {ds es : List D} {vs ws : List V}, RepDs K H m N ds vs → RepDs K H m N es ws → RepDs K H m N (ds ++ es) (vs ++ ws)
  | _, _, _, _, .nil, h => h
  | _, _, _, _, .cons a b, h => .cons a (RepDs.append b h)
theorem RepDs.take : ∀ {ds : List D} {vs : List V} (n : Nat), RepDs K H m N ds vs → RepDs K H m N (ds.take n) (vs.take n)
  | _, _, 0, _ => by simp; exact .nil
  | _, _, _ + 1, .nil => .nil
  | _, _, n + 1, .cons a b => .cons a (RepDs.take n b)
theorem RepDs.drop : ∀ {ds : List D} {vs : List V} (n : Nat), RepDs K H m N ds vs → RepDs K H m N (ds.drop n) (vs.drop n)
  | _, _, 0, h => h
  | _, _, _ + 1, .nil => .nil
  | _, _, n + 1, .cons _ b => RepDs.drop n b
theorem RepDs.reverse : ∀ {ds : List D} {vs : List V}, RepDs K H m N ds vs → RepDs K H m N ds.reverse vs.reverse
  | _, _, .nil => .nil
  | _, _, .cons a b => by simp only [List.reverse_cons]; exact (RepDs.reverse b).append (.cons a .nil)
theorem RepDs.set {x : D} {y : V} (r : RepD K H m N x y) : ∀ {ds : List D} {vs : List V} (i : Nat), RepDs K H m N ds vs → RepDs K H m N (ds.set i x) (vs.set i y)
  | _, _, _, .nil => .nil
  | _, _, 0, .cons _ b => .cons r b
  | _, _, i + 1, .cons a b => .cons a (RepDs.set r i b)
theorem RepDs.erase : ∀ {ds : List D} {vs : List V} (i : Nat), RepDs K H m N ds vs → RepDs K H m N (ds.eraseIdx i) (vs.eraseIdx i)
  | _, _, _, .nil => .nil
  | _, _, 0, .cons _ b => b
  | _, _, i + 1, .cons a b => .cons a (RepDs.erase i b)
theorem RepDs.dropLast {ds : List D} {vs : List V} (h : RepDs K H m N ds vs) : RepDs K H m N ds.dropLast vs.dropLast := by
  rw [List.dropLast_eq_take, List.dropLast_eq_take, h.length]
  exact h.take _
theorem RepDs.rep {ds : List D} {vs : List V} (h : RepDs K H m N ds vs) : ∀ k : Nat, RepDs K H m N (rep k ds) (List.replicate k vs).flatten
  | 0 => .nil
  | k + 1 => by
    show RepDs K H m N (List.replicate (k + 1) ds).flatten _
    rw [List.replicate_succ, List.flatten_cons, List.replicate_succ, List.flatten_cons]
    exact h.append (RepDs.rep h k)
theorem RepDs.ints : ∀ {ds : List D} {vs : List V} {ns : List Int}, RepDs K H m N ds vs → intsOf ds = some ns → vs = ns.map V.int
  | _, _, _, .nil, h => by simp [intsOf] at h; subst h; rfl
  | _, _, ns, .cons (d := d) (ds := ds) a b, h => by
    cases a with
    | int i =>
      simp only [intsOf, Option.map_eq_some_iff] at h
      obtain ⟨r, h1, h2⟩ := h
      subst h2
      rw [RepDs.ints b h1]; rfl
    | _ => simp [intsOf] at h
theorem RepDs.bools : ∀ {ds : List D} {vs : List V} {ns : List Bool}, RepDs K H m N ds vs → boolsOf ds = some ns → vs = ns.map V.bl
  | _, _, _, .nil, h => by simp [boolsOf] at h; subst h; rfl
  | _, _, ns, .cons (d := d) (ds := ds) a b, h => by
    cases a with
    | bl i =>
      simp only [boolsOf, Option.map_eq_some_iff] at h
      obtain ⟨r, h1, h2⟩ := h
      subst h2
      rw [RepDs.bools b h1]; rfl
    | _ => simp [boolsOf] at h
mutual
theorem RepD.dp : ∀ {d : D} {v : V}, RepD K H m N d v → d.pure = true → Dp K H v d.py
  | _, _, .non, _ => .non
  | _, _, .bl b, _ => .bl b
  | _, _, .int i, _ => .int i
  | _, _, .str x _, _ => .str x
  | _, _, .tup h r, p => by
    simp only [D.pure] at p
    simp only [D.py]
    exact .tup h (RepDs.dps r p)
  | _, _, .lst _, p => by simp [D.pure] at p
  | _, _, .ro h r, p => by
    simp only [D.pure] at p
    simp only [D.py]
    exact .lst h.sq (RepDs.dps r p)
theorem RepDs.dps : ∀ {d : List D} {v : List V}, RepDs K H m N d v → pures d = true → DpAll K H v (pys d)
  | _, _, .nil, _ => .nil
  | _, _, .cons a b, p => by
    simp only [pures, Bool.and_eq_true] at p
    exact .cons (RepD.dp a p.1) (RepDs.dps b p.2)
end
mutual
theorem RepD.lay : ∀ {d : D} {v : V}, RepD K H m N d v → d.py.canLay0 = true
  | _, _, .non => rfl
  | _, _, .bl b => rfl
  | _, _, .int i => rfl
  | _, _, .str x h => by simpa [D.py, PyData.canLay0] using h
  | _, _, .tup h r => by simpa [D.py, PyData.canLay0] using RepDs.lays r
  | _, _, .lst _ => rfl
  | _, _, .ro h r => by simpa [D.py, PyData.canLay0] using RepDs.lays r
theorem RepDs.lays : ∀ {d : List D} {v : List V}, RepDs K H m N d v → PyData.canLayAll0 (pys d) = true
  | _, _, .nil => rfl
  | _, _, .cons a b => by simp [pys, PyData.canLayAll0, RepD.lay a, RepDs.lays b]
end
mutual
theorem D.flat_depth : ∀ {d : D} {k : Nat}, d.flatTo k = true → d.py.depth ≤ k
  | .non, _, _ => by simp [D.py, PyData.depth]
  | .bl _, _, _ => by simp [D.py, PyData.depth]
  | .int _, _, _ => by simp [D.py, PyData.depth]
  | .str _, _, _ => by simp [D.py, PyData.depth]
  | .lst _, _, _ => by simp [D.py, PyData.depth]
  | .tup xs, 0, h => by simp [D.flatTo] at h
  | .tup xs, k + 1, h => by
    simp only [D.flatTo] at h
    have := flats_depth h
    simp only [D.py, PyData.depth]
    omega
  | .ro xs, 0, h => by simp [D.flatTo] at h
  | .ro xs, k + 1, h => by
    simp only [D.flatTo] at h
    have := flats_depth h
    simp only [D.py, PyData.depth]
    omega
theorem flats_depth : ∀ {d : List D} {k : Nat}, flatTos k d = true → PyData.depthAll (pys d) ≤ k
  | [], _, _ => by simp [pys, PyData.depthAll]
  | x :: xs, k, h => by
    simp only [flatTos, Bool.and_eq_true] at h
    have h1 := D.flat_depth h.1
    have h2 := flats_depth h.2
    simp only [pys, PyData.depthAll]
    omega
end

/-! ### the store -/
/-- heaps that agree on the lists of the store -/
theorem RepS.ext (r : RepS K H m S) (x : Ext H m S.length H1 m S.length) (h : ∀ n, n < S.length → H1 (m n) = H (m n)) : RepS K H1 m S :=
  ⟨fun n xs e => by
    obtain ⟨vs, h1, h2⟩ := r.cell n xs e
    have hn : n < S.length := (List.getElem?_eq_some_iff.mp e).1
    exact ⟨vs, (h n hn).trans h1, h2.ext r.tr x⟩, r.inj⟩
theorem ext_new {p : Addr} {o : HO} (h : H p = none) : Ext H m N (upd H p o) m N :=
  ⟨Nat.le_refl _, fun _ _ => rfl, fun a u e _ => by rw [upd_ne (ne_of_none e h)]; exact e, fun n h1 h2 => absurd (Nat.lt_of_lt_of_le h2 h1) (Nat.lt_irrefl _)⟩
theorem RepS.new {p : Addr} {o : HO} (r : RepS K H m S) (h : H p = none) : RepS K (upd H p o) m S :=
  r.ext (ext_new h) fun n hn => by
    obtain ⟨vs, e⟩ := r.tr n hn
    rw [upd_ne (ne_of_none e h)]
/-- a new list -/
def push (m : Nat → Addr) (n : Nat) (p : Addr) : Nat → Addr := fun k => if k = n then p else m k
theorem push_self {n : Nat} {p : Addr} : push m n p n = p := by unfold push; rw [if_pos rfl]
theorem push_lt {n k : Nat} {p : Addr} (h : k < n) : push m n p k = m k := by unfold push; rw [if_neg (Nat.ne_of_lt h)]
theorem ext_push {p : Addr} {o : HO} (h : H p = none) : Ext H m N (upd H p o) (push m N p) (N + 1) :=
  ⟨Nat.le_succ _, fun n hn => push_lt hn, fun a u e _ => by rw [upd_ne (ne_of_none e h)]; exact e, fun n h1 h2 => by
    have e : n = N := by omega
    subst e
    rw [push_self]; exact h⟩
theorem RepS.push {p : Addr} {xs : List D} {vs : List V} (r : RepS K H m S) (h : H p = none) (rx : RepDs K H m S.length xs vs) : RepS K (upd H p (.lst vs)) (Z.push m S.length p) (S ++ [xs]) := by
  have x : Ext H m S.length (upd H p (.lst vs)) (Z.push m S.length p) (S.length + 1) := ext_push h
  have hl : (S ++ [xs]).length = S.length + 1 := by simp
  refine ⟨fun n ys e => ?_, fun i j hi hj e => ?_⟩
  · rw [hl]
    by_cases hn : n < S.length
    · rw [List.getElem?_append_left hn] at e
      obtain ⟨ws, h1, h2⟩ := r.cell n ys e
      refine ⟨ws, ?_, h2.ext r.tr x⟩
      rw [push_lt hn, upd_ne (ne_of_none h1 h)]
      exact h1
    · have hn2 : n = S.length := by
        have := (List.getElem?_eq_some_iff.mp e).1
        rw [hl] at this
        omega
      subst hn2
      rw [List.getElem?_append_right (Nat.le_refl _)] at e
      simp at e
      subst e
      refine ⟨vs, ?_, rx.ext r.tr x⟩
      rw [push_self, upd_same]
  · rw [hl] at hi hj
    by_cases h1 : i < S.length
    · by_cases h2 : j < S.length
      · rw [push_lt h1, push_lt h2] at e
        exact r.inj i j h1 h2 e
      · have e2 : j = S.length := by omega
        subst e2
        rw [push_lt h1, push_self] at e
        obtain ⟨ws, q⟩ := r.tr i h1
        rw [e, h] at q; cases q
    · have e1 : i = S.length := by omega
      by_cases h2 : j < S.length
      · subst e1
        rw [push_lt h2, push_self] at e
        obtain ⟨ws, q⟩ := r.tr j h2
        rw [← e, h] at q; cases q
      · omega
/-- a list of the store is changed -/
theorem ext_set {n : Nat} {o : HO} (hn : n < N) : Ext H m N (upd H (m n) o) m N :=
  ⟨Nat.le_refl _, fun _ _ => rfl, fun a u e hx => by rw [upd_ne (fun z => hx n hn z.symm)]; exact e, fun n h1 h2 => absurd (Nat.lt_of_lt_of_le h2 h1) (Nat.lt_irrefl _)⟩
theorem RepS.setL {n : Nat} {xs : List D} {vs : List V} (r : RepS K H m S) (hn : n < S.length) (rx : RepDs K H m S.length xs vs) : RepS K (upd H (m n) (.lst vs)) m (S.set n xs) := by
  have x : Ext H m S.length (upd H (m n) (.lst vs)) m S.length := ext_set hn
  refine ⟨fun k ys e => ?_, fun i j hi hj e => r.inj i j (by simpa using hi) (by simpa using hj) e⟩
  rw [List.length_set]
  by_cases hk : k = n
  · subst hk
    rw [List.getElem?_set_self hn] at e
    cases e
    exact ⟨vs, upd_same, rx.ext r.tr x⟩
  · rw [List.getElem?_set_ne (Ne.symm hk)] at e
    obtain ⟨ws, h1, h2⟩ := r.cell k ys e
    refine ⟨ws, ?_, h2.ext r.tr x⟩
    rw [upd_ne (fun z => hk (r.inj k n (List.getElem?_eq_some_iff.mp e).1 hn z))]
    exact h1
theorem RepS.items {d : D} {v : V} {xs : List D} (r : RepS K H m S) (rd : RepD K H m S.length d v) (h : itemsOf S d = some xs) : ∃ a vs, v = .ref a ∧ (SqL K H a vs ∨ SqT K H a vs) ∧ RepDs K H m S.length xs vs := by
  cases rd with
  | tup q rs => simp [itemsOf] at h; subst h; exact ⟨_, _, rfl, .inr q, rs⟩
  | lst hn =>
    obtain ⟨vs, h1, h2⟩ := r.cell _ xs h
    exact ⟨_, vs, rfl, .inl (SqL.of h1), h2⟩
  | ro q rs => simp [itemsOf] at h; subst h; exact ⟨_, _, rfl, .inl q.sq, rs⟩
  | _ => simp [itemsOf] at h
end

/-! ### outcomes -/
section
variable (K : PySem.W.Frag) (cls : Str → Value) (W : XK)
/-- an exception's fields in its own dict -/
def RepF (H : Hp) (m : Nat → Addr) (N : Nat) (fs : List (Str × D)) (fvs : List (Str × V)) : Prop :=
  ∀ x, match fs.lookup x, fvs.lookup x with
    | some d, some v => RepD K H m N d v
    | none, none => True
    | _, _ => False
def ExcW (H : Hp) (m : Nat → Addr) (N : Nat) (c : Str) (fs : List (Str × D)) (S' : Sto) : Prop :=
  ∀ (d : Addr) (H' : Hp) (m' : Nat → Addr) (fvs : List (Str × V)), Ext H m N H' m' S'.length → RepS K H' m' S' → H' d = some (.xd fvs) → RepF K H' m' S'.length fs fvs → W (cls c) (some d) H'
abbrev RelT (α β : Type) := Hp → (Nat → Addr) → Nat → α → β → Prop
def Out {α β : Type} (Rel : RelT α β) (H : Hp) (m : Nat → Addr) (N : Nat) (r : R α) (Q : β → Hp → Prop) : Prop :=
  match r with
  | .ok a S' => ∀ (b : β) (H' : Hp) (m' : Nat → Addr), Ext H m N H' m' S'.length → RepS K H' m' S' → Rel H' m' S'.length a b → Q b H'
  | .exc c fs S' => ExcW K cls W H m N c fs S'
  | .bad => False
abbrev relD : RelT D V := RepD K
abbrev relDs : RelT (List D) (List V) := RepDs K
abbrev relB : RelT Bool Bool := fun _ _ _ a b => a = b
structure Sta (σ : L2.St) (H : Hp) (ρ : Rho) (S : Sto) (m : Nat → Addr) : Prop where
  len : ρ.length = σ.length
  loc : ∀ (i : Nat) (d : D), ρ[i]? = some (some d) → ∃ v, σ[i]? = some (some v) ∧ RepD K H m S.length d v
  sto : RepS K H m S
/-- a reading by what is computed -/
def tZ {α β : Type} (Rel : RelT α β) (z : Rho → Sto → R α) : L2.St → Hp → (β → Hp → Prop) → Prop :=
  fun σ H Q => ∃ ρ S m, Sta K σ H ρ S m ∧ Out K cls W Rel H m S.length (z ρ S) Q
abbrev tE (z : Rho → Sto → R D) : TE := tZ K cls W (relD K) z
abbrev tT (z : Rho → Sto → R Bool) : TT := tZ K cls W relB z
abbrev tA (z : Rho → Sto → R (List D)) : TA := tZ K cls W (relDs K) z
end
section
variable {K : PySem.W.Frag} {cls : Str → Value} {W : XK} {H H1 : Hp} {m m1 : Nat → Addr} {N N1 : Nat} {S S1 : Sto} {σ : L2.St} {ρ : Rho} {α β γ δ : Type} {Rel : RelT α β} {Rel' : RelT γ δ}
theorem Out.pull {r : R α} {Q : β → Hp → Prop} (h : Out K cls W Rel H m N r Q) (x : Ext H m N H1 m1 N1) (t : TrL H1 m1 N1) : Out K cls W Rel H1 m1 N1 r Q := by
  cases r with
  | ok a S' => exact fun b H' m' e r q => h b H' m' (x.trans t e) r q
  | exc c fs S' => exact fun d H' m' fvs e r q1 q2 => h d H' m' fvs (x.trans t e) r q1 q2
  | bad => exact h
theorem Out.fin {a : α} {b : β} {Q : β → Hp → Prop} (h : Out K cls W Rel H m S.length (.ok a S) Q) (r : RepS K H m S) (q : Rel H m S.length a b) : Q b H := h b H m Ext.refl r q
theorem Out.mono {r : R α} {Q Q' : β → Hp → Prop} (h : Out K cls W Rel H m N r Q) (hq : ∀ b H, Q b H → Q' b H) : Out K cls W Rel H m N r Q' := by
  cases r with
  | ok a S' => exact fun b H' m' e r q => hq _ _ (h b H' m' e r q)
  | exc c fs S' => exact h
  | bad => exact h
theorem Sta.ext (s : Sta K σ H ρ S m) (x : Ext H m S.length H1 m1 S1.length) (r : RepS K H1 m1 S1) : Sta K σ H1 ρ S1 m1 :=
  ⟨s.len, fun i d e => by
    obtain ⟨v, h1, h2⟩ := s.loc i d e
    exact ⟨v, h1, h2.ext s.sto.tr x⟩, r⟩
theorem Sta.set {i : Nat} {d : D} {v : V} (s : Sta K σ H ρ S m) (r : RepD K H m S.length d v) : Sta K (σ.set i (some v)) H (ρ.set i (some d)) S m := by
  refine ⟨by simp [s.len], fun j e h => ?_, s.sto⟩
  by_cases hj : j = i
  · subst hj
    have hl : j < ρ.length := by
      have := (List.getElem?_eq_some_iff.mp h).1
      simpa using this
    rw [List.getElem?_set_self hl] at h
    cases h
    exact ⟨v, by rw [List.getElem?_set_self (by rw [← s.len]; exact hl)], r⟩
  · rw [List.getElem?_set_ne (Ne.symm hj)] at h
    obtain ⟨w, h1, h2⟩ := s.loc j e h
    exact ⟨w, by rw [List.getElem?_set_ne (Ne.symm hj)]; exact h1, h2⟩
theorem tZ.mono {z : Rho → Sto → R α} {Q Q' : β → Hp → Prop} (h : tZ K cls W Rel z σ H Q) (hq : ∀ b H, Q b H → Q' b H) : tZ K cls W Rel z σ H Q' := by
  obtain ⟨ρ, S, m, s, o⟩ := h
  exact ⟨ρ, S, m, s, o.mono hq⟩
/-- behind one part the next -/
structure Behind (K : PySem.W.Frag) (cls : Str → Value) (W : XK) (Rel : RelT α β) (Rel' : RelT γ δ) (σ : L2.St) (ρ : Rho) (H : Hp) (m : Nat → Addr) (N : Nat) (k : α → Sto → R γ) (Q : δ → Hp → Prop) (a : α) (S1 : Sto) (m1 : Nat → Addr) (b : β) (H1 : Hp) : Prop where
  ext : Ext H m N H1 m1 S1.length
  sta : Sta K σ H1 ρ S1 m1
  rel : Rel H1 m1 S1.length a b
  out : Out K cls W Rel' H1 m1 S1.length (k a S1) Q
theorem tZ_bind {z : Rho → Sto → R α} {k : α → Sto → R γ} {Q : δ → Hp → Prop} (s : Sta K σ H ρ S m) (h : Out K cls W Rel' H m S.length ((z ρ S).bind k) Q) :
    tZ K cls W Rel z σ H fun b H1 => ∃ a S1 m1, Behind K cls W Rel Rel' σ ρ H m S.length k Q a S1 m1 b H1 := by
  refine ⟨ρ, S, m, s, ?_⟩
  cases e : z ρ S with
  | ok a S' =>
    rw [e] at h
    exact fun b H' m' x r q => ⟨a, S', m', x, s.ext x r, q, h.pull x r.tr⟩
  | exc c fs S' => rw [e] at h; exact h
  | bad => rw [e] at h; exact h
theorem tZ_run {z : Rho → Sto → R α} {Q : β → Hp → Prop} (s : Sta K σ H ρ S m) (h : Out K cls W Rel H m S.length (z ρ S) Q) : tZ K cls W Rel z σ H Q := ⟨ρ, S, m, s, h⟩
end

/-! ### operations by values -/
section
variable (K : PySem.W.Frag) (cls : Str → Value) (W : XK)
def r2Z (f : D → D → Sto → R D) : R2 := fun x y H Q => ∃ a b S m, RepS K H m S ∧ RepD K H m S.length a x ∧ RepD K H m S.length b y ∧ Out K cls W (relD K) H m S.length (f a b S) Q
end
section
variable {X : Cx} {cls : Str → Value} {W : XK} {H : Hp} {m : Nat → Addr} {S : Sto} {Q : VK} {xs : List D} {vs : List V}
theorem newT_out {K : PySem.W.Frag} (h : Out K cls W (relD K) H m S.length (newT xs S) Q) (r : RepS K H m S) (rx : RepDs K H m S.length xs vs) : vs.length ≤ sizeLine ∧ ∀ p, H p = none → Q (.ref p) (upd H p (.tup vs)) := by
  unfold newT at h
  by_cases hl : xs.length ≤ sizeLine
  · rw [if_pos hl] at h
    refine ⟨by rw [← rx.length]; exact hl, fun p hp => h _ _ m (ext_new hp) (r.new hp) (.tup (SqT.of upd_same) (rx.ext r.tr (ext_new hp)))⟩
  · rw [if_neg hl] at h; exact h.elim
theorem newL_out {K : PySem.W.Frag} (h : Out K cls W (relD K) H m S.length (newL xs S) Q) (r : RepS K H m S) (rx : RepDs K H m S.length xs vs) : vs.length ≤ sizeLine ∧ ∀ p, H p = none → Q (.ref p) (upd H p (.lst vs)) := by
  unfold newL at h
  by_cases hl : xs.length ≤ sizeLine
  · rw [if_pos hl] at h
    refine ⟨by rw [← rx.length]; exact hl, fun p hp => ?_⟩
    have hl2 : (S ++ [xs]).length = S.length + 1 := by simp
    have q := h (.ref (push m S.length p S.length)) (upd H p (.lst vs)) (push m S.length p) (by rw [hl2]; exact ext_push hp) (r.push hp rx) (.lst (by rw [hl2]; exact Nat.lt_succ_self _))
    rw [push_self] at q
    exact q
  · rw [if_neg hl] at h; exact h.elim
/-- the int operations -/
theorem intB_ok (op : BOp) (pop : Operator) (hp : (match op with | .add => Operator.Add | .sub => .Sub | .mul => .Mult | .fdiv => .FloorDiv | .mod => .Mod | .pow => .Pow | .shl => .LShift | .shr => .RShift | .band => .BitAnd | .bor => .BitOr | .bxor => .BitXor) = pop)
    {pins : List (Addr × Obj)} {s : Shared} {σ : L2.St} {i j : Int} {v u : Value} (I : Inv X pins σ H s) (rx : RelV (.int i) v) (ry : RelV (.int j) u) (r : RepS X.K H m S) (h : Out X.K cls W (relD X.K) H m S.length (intB op i j S) Q) :
    wpAny (model X.prog X.w) X.A (binaryOp pop v u) (EP X pins σ Q) X.xe s := by
  subst hp
  cases op with
  | add => exact op_add pins s σ H _ _ v u Q I rx ry ⟨i, j, rfl, rfl, h.fin r (.int _)⟩
  | sub => exact op_sub pins s σ H _ _ v u Q I rx ry ⟨i, j, rfl, rfl, h.fin r (.int _)⟩
  | mul =>
    simp only [intB] at h
    split at h
    · rename_i hm
      rcases hm with hm | hm | hm
      · exact op_mul pins s σ H _ _ v u Q I rx ry ⟨i, j, rfl, rfl, .inl hm, h.fin r (.int _)⟩
      · exact op_mul pins s σ H _ _ v u Q I rx ry ⟨i, j, rfl, rfl, .inr hm, h.fin r (.int _)⟩
      · exact op_mulW pins s σ H _ _ v u Q I rx ry ⟨i, j, rfl, rfl, hm, h.fin r (.int _)⟩
    · exact h.elim
  | fdiv =>
    simp only [intB] at h
    split at h
    · rename_i hm
      obtain ⟨h0, hm | hm⟩ := hm
      · exact op_fdiv pins s σ H _ _ v u Q I rx ry ⟨i, j, rfl, rfl, ⟨h0, hm⟩, h.fin r (.int _)⟩
      · exact op_fdivW pins s σ H _ _ v u Q I rx ry ⟨i, j, rfl, rfl, ⟨h0, hm⟩, h.fin r (.int _)⟩
    · exact h.elim
  | mod =>
    simp only [intB] at h
    split at h
    · rename_i hm
      exact op_mod pins s σ H _ _ v u Q I rx ry ⟨i, j, rfl, rfl, hm, h.fin r (.int _)⟩
    · exact h.elim
  | pow =>
    simp only [intB] at h
    split at h
    · rename_i hm
      exact op_pow pins s σ H _ _ v u Q I rx ry ⟨i, j, rfl, rfl, hm, h.fin r (.int _)⟩
    · exact h.elim
  | shl =>
    simp only [intB] at h
    split at h
    · rename_i hm
      exact op_shl pins s σ H _ _ v u Q I rx ry ⟨i, j, rfl, rfl, hm, h.fin r (.int _)⟩
    · exact h.elim
  | shr =>
    simp only [intB] at h
    split at h
    · rename_i hm
      exact op_shr pins s σ H _ _ v u Q I rx ry ⟨i, j, rfl, rfl, hm, h.fin r (.int _)⟩
    · exact h.elim
  | band => exact op_and pins s σ H _ _ v u Q I rx ry ⟨i, j, rfl, rfl, h.fin r (.int _)⟩
  | bor => exact op_or pins s σ H _ _ v u Q I rx ry ⟨i, j, rfl, rfl, h.fin r (.int _)⟩
  | bxor => exact op_xor pins s σ H _ _ v u Q I rx ry ⟨i, j, rfl, rfl, h.fin r (.int _)⟩
end
end Z
end
section
set_option Elab.async false
set_option linter.all false
set_option autoImplicit false
set_option maxRecDepth 100000
set_option maxHeartbeats 4000000
namespace L2
open PySem PySem.Spec PyProof.Rows
theorem tuple_mulSelf (l : Addr) (items : Array Value) (n : Nat) (dd : Option Addr) (sl : Array (Option Value)) (x : Int) (u : Tok) (c0 : (decide (x < -(2 ^ 63)) || decide (x ≥ 2 ^ 63)) = false) (c1 : (items.isEmpty || x == 1) = true) :
    Meets (Builtin.«tuple.__mul__» ⟨[.ref l, .int x u], []⟩) (fun _ R s => s.heap.get? l = some { cls := .type "tuple", dict := dd, data := .seq items n, slots := sl } ∧
      R (.ok (.ret (Value.ref l))) s) :=
  .of_wp fun prog w A R s h => by
    obtain ⟨hp, g, d, tk, os⟩ := s
    obtain ⟨hl, h⟩ := h
    have f1 := AutoSeq1.idx_int
    wp_walk using wpAny_loadPart' hl
    repeat (first
      | (refine wpAny_ite_false (decide_eq_false (by rw [c0]; exact Bool.false_ne_true)) ?_; wp_walk using wpAny_loadPart' hl)
      | (refine wpAny_ite_true (decide_eq_true (by rw [c1])) ?_; wp_walk using wpAny_loadPart' hl))

    exact ⟨_, rfl, h⟩
theorem tuple_mulNone (l : Addr) (items : Array Value) (n : Nat) (dd : Option Addr) (sl : Array (Option Value)) (x : Int) (u : Tok) (c0 : (decide (x < -(2 ^ 63)) || decide (x ≥ 2 ^ 63)) = false) (c1 : (items.isEmpty || x == 1) = false) (c2 : (decide (x ≤ 0) || items.isEmpty) = true) :
    Meets (Builtin.«tuple.__mul__» ⟨[.ref l, .int x u], []⟩) (fun _ R s => s.heap.get? l = some { cls := .type "tuple", dict := dd, data := .seq items n, slots := sl } ∧
      R (.ok (.ret (Value.ref s.heap.objs.size))) { s with heap := s.heap.push { cls := Value.type "tuple", data := Data.seq #[] }, toks := s.toks }) :=
  .of_wp fun prog w A R s h => by
    obtain ⟨hp, g, d, tk, os⟩ := s
    obtain ⟨hl, h⟩ := h
    have f1 := AutoSeq1.idx_int
    wp_walk using wpAny_loadPart' hl
    repeat (first
      | (refine wpAny_ite_false (decide_eq_false (by rw [c0]; exact Bool.false_ne_true)) ?_; wp_walk using wpAny_loadPart' hl)
      | (refine wpAny_ite_false (decide_eq_false (by rw [c1]; exact Bool.false_ne_true)) ?_; wp_walk using wpAny_loadPart' hl)
      | (refine wpAny_ite_true (decide_eq_true (by rw [c2])) ?_; wp_walk using wpAny_loadPart' hl))

    exact ⟨_, rfl, h⟩
/-- t * k, of any k -/
def rRepA (K : PySem.W.Frag) : R2 := fun x y H Q => ∃ l k xs, x = .ref l ∧ y = .int k ∧ SqT K H l xs ∧ -(2 ^ 62) ≤ k ∧ k ≤ 1000 ∧ xs.length ≤ 1000 ∧
  (xs = [] ∨ k = 1 → Q (.ref l) H) ∧ (xs ≠ [] → k ≤ 0 → ∀ p, H p = none → Q (.ref p) (upd H p (.tup []))) ∧ (xs ≠ [] → 2 ≤ k → ∀ p, H p = none → Q (.ref p) (upd H p (.tup (List.replicate k.toNat xs).flatten)))
theorem op_repA {X : Cx} : OpR X (binaryOp .Mult) (rRepA X.K) := by
  intro pins s σ H x y v u Q I rx ry h
  obtain ⟨l, k, xs, rfl, rfl, hT, hlo, hhi, hz, q1, q2, q3⟩ := h
  by_cases h2 : xs ≠ [] ∧ 2 ≤ k
  · exact op_repT pins s σ H _ _ v u Q I rx ry ⟨l, k, xs, rfl, rfl, hT, h2.1, h2.2, hhi, hz, q3 h2.1 h2.2⟩
  cases rx
  obtain ⟨t, rfl⟩ := ry
  obtain ⟨its, r, ⟨⟨cls, dd, data, sl⟩, ho, hc, n, hd⟩, hs⟩ := I.tuple hT
  simp only at hc hd
  subst hc hd
  have hle : its.length = xs.length := r.length.symm
  have c0 : (decide (k < -(2 ^ 63)) || decide (k ≥ 2 ^ 63)) = false := by
    rw [decide_eq_false (by omega), decide_eq_false (by omega)] <;> rfl
  by_cases h1 : xs = [] ∨ k = 1
  · have c1 : (its.toArray.isEmpty || k == 1) = true := by
      rcases h1 with h1 | h1
      · subst h1
        have : its = [] := List.eq_nil_of_length_eq_zero hle
        subst this; rfl
      · subst h1; simp
    refine wpAny_binaryOp_repeat_ref (T := "tuple") (U := "int") (by decide) ⟨_, ho, rfl⟩ (fun s' => typeIs_int s' k t) noFill_tuple_mul F.fills_int_mul F.slot_int_rmul repeat_tuple F.slot_int_index.lookup
      (call_meets F.slot_int_rmul (typeIs_int s k t) F.entry_int_rmul (F.args_int_rmul_2 _ _) (int_rmul_tuple k t l its.toArray n dd sl)
        ⟨ho, rfl, ⟨_, ho, rfl⟩, call_meets F.slot_tuple_mul ⟨_, ho, rfl⟩ F.entry_tuple_mul (F.args_tuple_mul_2 _ _) (tuple_mulSelf l its.toArray n dd sl k t c0 c1) ⟨ho, ?_⟩⟩)
    exact ⟨.ref l, H, I, rfl, q1 h1⟩
  · have hne : xs ≠ [] := fun e => h1 (.inl e)
    have hk1 : k ≠ 1 := fun e => h1 (.inr e)
    have hk : k ≤ 0 := by
      by_cases h3 : 2 ≤ k
      · exact absurd ⟨hne, h3⟩ h2
      · omega
    have hi : its.toArray.isEmpty = false := by
      cases its with
      | nil => exact absurd (List.eq_nil_of_length_eq_zero (by rw [← hle]; rfl)) hne
      | cons a b => rfl
    have c1 : (its.toArray.isEmpty || k == 1) = false := by
      rw [hi, Bool.false_or]
      exact beq_eq_false_iff_ne.mpr hk1
    have c2 : (decide (k ≤ 0) || its.toArray.isEmpty) = true := by
      rw [decide_eq_true hk]; rfl
    refine wpAny_binaryOp_repeat_ref (T := "tuple") (U := "int") (by decide) ⟨_, ho, rfl⟩ (fun s' => typeIs_int s' k t) noFill_tuple_mul F.fills_int_mul F.slot_int_rmul repeat_tuple F.slot_int_index.lookup
      (call_meets F.slot_int_rmul (typeIs_int s k t) F.entry_int_rmul (F.args_int_rmul_2 _ _) (int_rmul_tuple k t l its.toArray n dd sl)
        ⟨ho, rfl, ⟨_, ho, rfl⟩, call_meets F.slot_tuple_mul ⟨_, ho, rfl⟩ F.entry_tuple_mul (F.args_tuple_mul_2 _ _) (tuple_mulNone l its.toArray n dd sl k t c0 c1 c2) ⟨ho, ?_⟩⟩)
    refine ⟨.ref s.heap.objs.size, _, I.laid (t' := s.toks) (o := .tup []) (fun b ob q => Heap.get?_push_of_some _ q) (Nat.le_refl _) ?_, rfl, q2 hne hk _ (I.hok.fresh (Nat.le_refl _))⟩
    exact ⟨Nat.zero_le _, [], .nil, IsTup.new _ _⟩
end L2
end
section
set_option Elab.async false
set_option linter.all false
set_option autoImplicit false
set_option maxRecDepth 100000
set_option maxHeartbeats 4000000
/-! Z3b: tuples turned about by a slice; comparisons by is; operations by values. -/
namespace HT
open PySem PySem.Spec PyProof.Rows L2
section
variable {prog : Program} {w : World} {A : Around} {E : Value → Shared → Prop} {s : Shared}
theorem sliceApplied_rev {sl : Addr} {vl vu vs : Value} {n : Nat} {Q : Int × Int × Nat → Shared → Prop} (hs : s.heap.IsSliceOf sl vl vu vs) (pl : IsPart vl none) (pu : IsPart vu none) (ps : IsPart vs (some (-1)))
    (h : Q ((n : Int) - 1, -1, n) s) : wpAny (model prog w) A (Builtin.Slice.sliceApplied (.ref sl) (pure (n : Int))) Q E s := by
  obtain ⟨os, hos, hcs, hds⟩ := id hs
  unfold Builtin.Slice.sliceApplied Builtin.Slice.sliceFields
  refine wpAny_bind (wpAny_bind (wpAny_field hos hds (x := vl) rfl (wpAny_bind (wpAny_field hos hds (x := vu) rfl (wpAny_bind (wpAny_field hos hds (x := vs) rfl (wpAny_pure ?_)))))))
  refine wpAny_bind (slicePart_ ps ?_)
  show wpAny _ _ (if ((-1 : Int) == 0) = true then _ else _) _ _ s
  rw [if_neg (by decide)]
  refine wpAny_bind (slicePart_ pl (wpAny_bind (slicePart_ pu (wpAny_bind (wpAny_pure ?_)))))
  show wpAny _ _ (match Builtin.Slice.sliceAdjust none none (-1) (n : Int) with | (lo, hi) => pure (lo, (-1 : Int), Builtin.Slice.slicePlaces lo hi (-1))) _ _ s
  have e1 : Builtin.Slice.sliceAdjust none none (-1) (n : Int) = ((n : Int) - 1, -1) := by
    unfold Builtin.Slice.sliceAdjust
    have h1 : ((-1 : Int) < 0) := by omega
    simp only [h1, if_true]
  rw [e1]
  show wpAny _ _ (pure ((n : Int) - 1, (-1 : Int), Builtin.Slice.slicePlaces ((n : Int) - 1) (-1) (-1))) _ _ s
  have e2 : Builtin.Slice.slicePlaces ((n : Int) - 1) (-1) (-1) = n := by
    unfold Builtin.Slice.slicePlaces
    have h1 : ¬ ((-1 : Int) > 0) := by omega
    simp only [h1, if_false, Int.neg_neg, Int.ediv_one]
    split <;> omega
  rw [e2]
  exact wpAny_pure h
theorem fm_congr {α β : Type} {f g : α → Option β} : ∀ {l : List α}, (∀ x ∈ l, f x = g x) → l.filterMap f = l.filterMap g
  | [], _ => rfl
  | a :: l, h => by
    rw [List.filterMap_cons, List.filterMap_cons, h a List.mem_cons_self, fm_congr fun x hx => h x (List.mem_cons_of_mem _ hx)]
theorem pick_rev (xs : List Value) : ((List.range xs.length).filterMap fun (k : Nat) => xs.toArray[(((xs.length : Int) - 1) + (k : Int) * (-1)).toNat]?) = xs.reverse := by
  have e : ((List.range xs.length).filterMap fun (k : Nat) => xs.toArray[(((xs.length : Int) - 1) + (k : Int) * (-1)).toNat]?) = (List.range xs.length).filterMap (fun k => xs.reverse[k]?) := by
    refine fm_congr fun k hk => ?_
    have hk := List.mem_range.mp hk
    rw [List.getElem?_reverse hk, List.getElem?_toArray]
    congr 1
    omega
  rw [e]
  have e3 : (List.range xs.length).filterMap (fun k => xs.reverse[k]?) = xs.reverse := by
    have := PySem.W.krv_all xs.reverse.toArray
    simpa using this
  rw [e3]
theorem getItem_tuple_rev {t sl : Addr} {its : List Value} {vl vu vs : Value} {Q : Value → Shared → Prop} (ht : IsTup s.heap t its.toArray) (hs : s.heap.IsSliceOf sl vl vu vs) (pl : IsPart vl none) (pu : IsPart vu none) (ps : IsPart vs (some (-1)))
    (h : Q (.ref s.heap.objs.size) { s with heap := s.heap.push { cls := .type "tuple", data := .seq its.reverse.toArray } })
    (hsz : its.length ≤ sizeLine) : wpAny (model prog w) A (getItem (.ref t) (.ref sl)) Q E s := by
  have htake : sizeOk (.seq its.reverse.toArray) := by
    show its.reverse.toArray.size ≤ sizeLine
    rw [List.size_toArray, List.length_reverse]
    exact hsz
  obtain ⟨os, hos, hcs, hds⟩ := id hs
  have hTs : s.TypeIs (.ref sl) "slice" := ⟨os, hos, hcs⟩
  unfold getItem
  try with_reducible refine wpAny_holding ?_
  first | refine wpAny_bind (wpAny_pure ?_) | skip
  refine wpAny_bind (wpAny_sequenceKey ht.typeIs (by decide) ?_)
  refine wpAny_bind (wpAny_callSpecial?_slot (name := Str.ofString "__getitem__") ht.typeIs PyProof.Rows.slot_tuple_getitem
    (wpAny_call_entry PyProof.Rows.slot_tuple_getitem ht.typeIs entry_tuple_getitem ?_ (args_tuple_getitem _ _)))
  show wpAny _ _ (Builtin.Tuple.tupleItemsOf (.ref t) >>= _) _ _ s
  refine wpAny_bind (tupleItemsOf_ ht ?_)
  refine wpAny_bind (wpAny_typeOf hTs ?_)
  rw [if_pos (by decide)]
  refine wpAny_bind (sliceApplied_rev hs pl pu ps ?_)
  show wpAny _ _ (if (((its.toArray.size : Int) - 1) == 0 && (-1 : Int) == 1 && its.toArray.size == its.toArray.size) = true then _ else _) _ _ s
  rw [if_neg (by simp)]
  have e : ((List.range its.toArray.size).filterMap fun (k : Nat) => its.toArray[(((its.toArray.size : Int) - 1) + (k : Int) * (-1)).toNat]?) = its.reverse := by
    rw [List.size_toArray]; exact pick_rev its
  rw [e]
  first
    | exact wpAny_bind (m := Builtin.Tuple.tupleExact _) (wpAny_newObj_type (wpAny_pure ⟨_, rfl, wpAny_pure h⟩) htake)
    | exact wpAny_bind (m := Builtin.Tuple.tupleExact _) (wpAny_newObj_type (wpAny_bind (wpAny_pure (wpAny_pure ⟨_, rfl, wpAny_pure h⟩))) htake)
    | exact wpAny_bind (wpAny_bind (m := Builtin.Tuple.tupleExact _) (wpAny_newObj_type (wpAny_pure (wpAny_pure ⟨_, rfl, wpAny_pure h⟩)) htake))
    | exact wpAny_bind (wpAny_bind (m := Builtin.Tuple.tupleExact _) (wpAny_newObj_type (wpAny_pure ⟨_, rfl, wpAny_pure h⟩) htake))
end
end HT
namespace L2
open PySem PySem.Spec PyProof.Rows
section
variable {X : Cx}
def tRevA (K : PySem.W.Frag) (te : TE) : TE := fun σ H Q => te σ H fun x H1 => ∃ a xs, x = .ref a ∧ ((SqL K H1 a xs ∧ ∀ p, H1 p = none → Q (.ref p) (upd H1 p (.lst xs.reverse))) ∨ (SqT K H1 a xs ∧ ∀ p, H1 p = none → Q (.ref p) (upd H1 p (.tup xs.reverse))))
theorem pe_revA {e : Expr} {te : TE} {k : Nat} {p1 p2 p3 pos : Pos} (he : PE X e te) : PE X (.Subscript e (.Slice none none (some (.UnaryOp .USub (.Constant (.int 1) k p1) p2)) p3) pos) (tRevA X.K te) := by
  refine ⟨fun pins s σ H Q I h => ?_⟩
  refine Subscript_ (thn (he.run pins s σ H _ I h) fun v s1 ⟨x, H1, I1, r1, q1⟩ => ?_)
  obtain ⟨a, xs, ex, hx⟩ := q1
  subst ex
  cases r1
  have hst : PO X (some (.UnaryOp .USub (.Constant (.int 1) k p1) p2)) (tPart (tUn (rU fun i => .int (-i)) (tC (.int 1)))) := po_some (pe_un un_neg pe_int)
  refine wpAny_Slice (thn (po_none.run pins s1 σ H1 (fun o H2 => o = none ∧ H2 = H1) I1 ⟨rfl, rfl⟩) fun vl s2 ⟨l, H2, I2, pl, el, e2⟩ => ?_)
  subst el e2
  refine thn (po_none.run pins s2 σ H2 (fun o H3 => o = none ∧ H3 = H2) I2 ⟨rfl, rfl⟩) fun vu s3 ⟨u, H3, I3, pu, eu, e3⟩ => ?_
  subst eu e3
  refine thn (hst.run pins s3 σ H3 (fun o H4 => o = some (-1) ∧ H4 = H3) I3 ⟨1, rfl, -1, rfl, rfl, rfl⟩) fun vs s4 ⟨o, H4, I4, ps, eo, e4⟩ => ?_
  subst eo e4
  have I5 : Inv X pins σ H4 { s4 with heap := s4.heap.push { cls := .type "slice", data := .fields #[vl, vu, vs] } } := I4.kept (t' := s4.toks) fun b ob q => Heap.get?_push_of_some _ q
  show wpAny (model X.prog X.w) X.A (subscriptTail e (.Slice none none (some (.UnaryOp .USub (.Constant (.int 1) k p1) p2)) p3) (.ref a) (.ref s4.heap.objs.size)) (EP X pins σ Q) X.xe { s4 with heap := s4.heap.push { cls := .type "slice", data := .fields #[vl, vu, vs] } }
  rcases hx with ⟨hx, q⟩ | ⟨hx, q⟩
  · obtain ⟨its, r, ht, hz⟩ := I5.list hx
    have hlen := r.length
    refine tail_any (ops := [.ref a, .ref s4.heap.objs.size]) ht.isList.typeIs (PySem.slot_list_getitem.lookup) ?_ (by with_unfolding_all rfl)
    refine wpAny_getItem_list_slice ht.isList (Heap.IsSliceOf.new _ vl vu vs) pl pu ps (by decide) ?_ (by rw [List.size_toArray]; omega)
    rw [PySem.W.krv_pick]
    refine ⟨.ref _, _, I5.laid (t' := s4.toks) (o := .lst xs.reverse) (fun b ob q => Heap.get?_push_of_some _ q) (Nat.le_refl _) ?_, rfl, q _ (I5.hok.fresh (Nat.le_refl _))⟩
    exact ⟨by rw [List.length_reverse]; exact hz, _, 0, r.reverse, Heap.get?_push_size _ rfl⟩
  · obtain ⟨its, r, ht, hz⟩ := I5.tuple hx
    have hlen := r.length
    refine tail_any (ops := [.ref a, .ref s4.heap.objs.size]) ht.typeIs (PyProof.Rows.slot_tuple_getitem.lookup) ?_ (by with_unfolding_all rfl)
    refine HT.getItem_tuple_rev ht (Heap.IsSliceOf.new _ vl vu vs) pl pu ps ?_ (by omega)
    refine ⟨.ref _, _, I5.laid (t' := s4.toks) (o := .tup xs.reverse) (fun b ob q => Heap.get?_push_of_some _ q) (Nat.le_refl _) ?_, rfl, q _ (I5.hok.fresh (Nat.le_refl _))⟩
    exact ⟨by rw [List.length_reverse]; exact hz, _, r.reverse, IsTup.new _ _⟩

/-- x is True, x is False, of any x -/
theorem is_bool_gen {M : Model} {A : Around} {E : Value → Shared → Prop} {s : Shared} {Q : Value → Shared → Prop} {x : V} {v : Value} {c : Bool} (r : RelV x v) (h : Q (.bool (decide (x = .bl c))) s) : wpAny M A (compareOp .Is v (.bool c)) Q E s := by
  cases x with
  | non => cases r; exact wpAny_pure h
  | bl b => cases r; exact is_bool (by cases b <;> cases c <;> exact h)
  | int _ => obtain ⟨t, rfl⟩ := r; exact wpAny_pure h
  | str _ => obtain ⟨t, rfl⟩ := r; exact wpAny_pure h
  | byt _ => obtain ⟨t, rfl⟩ := r; exact wpAny_pure h
  | flt _ => obtain ⟨t, rfl⟩ := r; exact wpAny_pure h
  | ref _ => cases r; exact wpAny_pure h
  | ty _ => cases r; exact wpAny_pure h
theorem isnot_bool_gen {M : Model} {A : Around} {E : Value → Shared → Prop} {s : Shared} {Q : Value → Shared → Prop} {x : V} {v : Value} {c : Bool} (r : RelV x v) (h : Q (.bool (!decide (x = .bl c))) s) : wpAny M A (compareOp .IsNot v (.bool c)) Q E s := by
  cases x with
  | non => cases r; exact wpAny_pure h
  | bl b => cases r; exact isnot_bool (by cases b <;> cases c <;> exact h)
  | int _ => obtain ⟨t, rfl⟩ := r; exact wpAny_pure h
  | str _ => obtain ⟨t, rfl⟩ := r; exact wpAny_pure h
  | byt _ => obtain ⟨t, rfl⟩ := r; exact wpAny_pure h
  | flt _ => obtain ⟨t, rfl⟩ := r; exact wpAny_pure h
  | ref _ => cases r; exact wpAny_pure h
  | ty _ => cases r; exact wpAny_pure h
end
end L2
end
section
set_option Elab.async false
set_option linter.all false
set_option autoImplicit false
set_option maxRecDepth 100000
set_option maxHeartbeats 4000000
/-! Z3c: the operations by values. -/
namespace Z
open PySem PySem.Spec PyProof.Rows L2
def BOp.py : BOp → Operator
  | .add => .Add | .sub => .Sub | .mul => .Mult | .fdiv => .FloorDiv | .mod => .Mod | .pow => .Pow | .shl => .LShift | .shr => .RShift | .band => .BitAnd | .bor => .BitOr | .bxor => .BitXor
def COp.py : COp → CmpOp
  | .eq => .Eq | .ne => .NotEq | .lt => .Lt | .le => .LtE | .gt => .Gt | .ge => .GtE | .is => .Is | .isnt => .IsNot | .isin => .In | .notin => .NotIn
section
variable {X : Cx} {cls : Str → Value} {W : XK}
theorem op_binZ (op : BOp) : OpR X (binaryOp op.py) (r2Z X.K cls W (binR op)) := by
  intro pins s σ H x y v u Q I rx ry h
  obtain ⟨a, b, S, m, rs, ra, rb, h⟩ := h
  cases ra with
  | int i =>
    cases rb with
    | int j => exact intB_ok op op.py (by cases op <;> rfl) I rx ry rs h
    | _ => exact h.elim
  | @tup aT dsT vsT ta tas =>
    cases rb with
    | int k =>
      cases op with
      | mul =>
        simp only [binR] at h
        split at h
        · rename_i hk
          obtain ⟨h1, h2, h3⟩ := hk
          refine op_repA pins s σ H _ _ v u Q I rx ry ⟨_, k, _, rfl, rfl, ta, h1, h2, by rw [← tas.length]; exact h3, fun e => ?_, fun ne hk p hp => ?_, fun ne hk p hp => ?_⟩
          · refine h.fin rs (.tup ta ?_)
            rcases e with e | e
            · subst e
              cases tas
              show RepDs _ _ _ _ (List.replicate k.toNat []).flatten []
              have : (List.replicate k.toNat ([] : List D)).flatten = [] := by simp
              rw [this]; exact .nil
            · subst e
              have := tas.rep 1
              simpa [rep] using tas
          · have e : rep k.toNat dsT = [] := by
              have : k.toNat = 0 := by omega
              rw [this]; rfl
            rw [e] at h
            exact h _ _ m (ext_new hp) (rs.new hp) (.tup (SqT.of upd_same) .nil)
          · exact h _ _ m (ext_new hp) (rs.new hp) (.tup (SqT.of upd_same) ((tas.rep k.toNat).ext rs.tr (ext_new hp)))
        · exact h.elim
      | _ => exact h.elim
    | tup tb tbs =>
      cases op with
      | add =>
        simp only [binR] at h
        obtain ⟨hl, q⟩ := newT_out h rs (tas.append tbs)
        unfold newT at h
        rw [if_pos (by rw [(tas.append tbs).length]; exact hl)] at h
        refine op_catA pins s σ H _ _ v u Q I rx ry ⟨_, _, _, _, rfl, rfl, ta, tb, by simpa using hl, fun e => ?_, fun _ e => ?_, fun _ _ p hp => q p hp⟩
        · subst e
          cases tas
          exact h.fin rs (.tup tb tbs)
        · subst e
          cases tbs
          refine h.fin rs (.tup ta ?_)
          simpa using tas
      | _ => exact h.elim
    | _ => exact h.elim
  | lst ha =>
    cases rb with
    | int k =>
      cases op with
      | mul =>
        simp only [binR] at h
        split at h
        · rename_i xs e1
          split at h
          · rename_i hk
            obtain ⟨vs, hv, rv⟩ := rs.cell _ _ (by assumption)
            obtain ⟨hl, q⟩ := newL_out h rs (rv.rep k.toNat)
            refine op_rep pins s σ H _ _ v u Q I rx ry ⟨_, k, _, rfl, rfl, hv, hk.1, hk.2, ?_, q⟩
            have e : (List.replicate k.toNat vs).flatten.length = k.toNat * vs.length := PyProof.Rows.lm_len_rep_flat _ _
            rw [e, Nat.mul_comm] at hl
            exact hl
          · exact h.elim
        · exact h.elim
      | _ => exact h.elim
    | lst hb =>
      simp only [binR] at h
      split at h
      · rename_i xs ys e1 e2
        obtain ⟨vs, hv, rv⟩ := rs.cell _ _ e1
        obtain ⟨ws, hw, rw'⟩ := rs.cell _ _ e2
        obtain ⟨hl, q⟩ := newL_out h rs (rv.append rw')
        exact op_cat pins s σ H _ _ v u Q I rx ry ⟨_, _, _, _, rfl, rfl, hv, hw, by simpa using hl, q⟩
      · exact h.elim
    | _ => exact h.elim
  | str x hx =>
    cases rb with
    | str y hy =>
      cases op with
      | add =>
        simp only [binR] at h
        split at h
        · rename_i hl
          refine op_add_str pins s σ H _ _ v u Q I rx ry ⟨x, y, rfl, rfl, hl, h.fin rs (.str _ ?_)⟩
          have e : (x ++ y).cps = x.cps ++ y.cps := rfl
          unfold PyData.strOk at *
          rw [e, Array.all_append, hx, hy]; rfl
        · exact h.elim
      | _ => exact h.elim
    | _ => exact h.elim
  | _ => exact h.elim
theorem op_augZ (op : BOp) : OpR X (inplaceOp op.py) (r2Z X.K cls W (augR op)) := by
  intro pins s σ H x y v u Q I rx ry h
  obtain ⟨a, b, S, m, rs, ra, rb, h⟩ := h
  cases ra with
  | int i =>
    cases rb with
    | int j =>
      cases op with
      | add => exact iop_add pins s σ H _ _ v u Q I rx ry ⟨i, j, rfl, rfl, h.fin rs (.int _)⟩
      | sub => exact iop_sub pins s σ H _ _ v u Q I rx ry ⟨i, j, rfl, rfl, h.fin rs (.int _)⟩
      | mul =>
        simp only [augR, intB] at h
        split at h
        · rename_i hm
          rcases hm with hm | hm | hm
          · exact iop_mul pins s σ H _ _ v u Q I rx ry ⟨i, j, rfl, rfl, .inl hm, h.fin rs (.int _)⟩
          · exact iop_mul pins s σ H _ _ v u Q I rx ry ⟨i, j, rfl, rfl, .inr hm, h.fin rs (.int _)⟩
          · obtain ⟨t, rfl⟩ := rx
            obtain ⟨t', rfl⟩ := ry
            exact imul_int ⟨.int _, H, I.tok _, ⟨_, rfl⟩, h.fin rs (.int _)⟩ (CMulW.ok hm)
        · exact h.elim
      | fdiv =>
        simp only [augR, intB] at h
        split at h
        · rename_i hm
          obtain ⟨h0, hm | hm⟩ := hm
          · exact iop_fdiv pins s σ H _ _ v u Q I rx ry ⟨i, j, rfl, rfl, ⟨h0, hm⟩, h.fin rs (.int _)⟩
          · exact iop_fdivW pins s σ H _ _ v u Q I rx ry ⟨i, j, rfl, rfl, ⟨h0, hm⟩, h.fin rs (.int _)⟩
        · exact h.elim
      | mod =>
        simp only [augR, intB] at h
        split at h
        · rename_i hm
          exact iop_mod pins s σ H _ _ v u Q I rx ry ⟨i, j, rfl, rfl, hm, h.fin rs (.int _)⟩
        · exact h.elim
      | pow => exact h.elim
      | shl =>
        simp only [augR, intB] at h
        split at h
        · rename_i hm
          exact iop_shl pins s σ H _ _ v u Q I rx ry ⟨i, j, rfl, rfl, hm, h.fin rs (.int _)⟩
        · exact h.elim
      | shr =>
        simp only [augR, intB] at h
        split at h
        · rename_i hm
          exact iop_shr pins s σ H _ _ v u Q I rx ry ⟨i, j, rfl, rfl, hm, h.fin rs (.int _)⟩
        · exact h.elim
      | band => exact iop_and pins s σ H _ _ v u Q I rx ry ⟨i, j, rfl, rfl, h.fin rs (.int _)⟩
      | bor => exact iop_or pins s σ H _ _ v u Q I rx ry ⟨i, j, rfl, rfl, h.fin rs (.int _)⟩
      | bxor => exact iop_xor pins s σ H _ _ v u Q I rx ry ⟨i, j, rfl, rfl, h.fin rs (.int _)⟩
    | _ => exact h.elim
  | str x hx =>
    cases rb with
    | str y hy =>
      cases op with
      | add =>
        simp only [augR] at h
        split at h
        · rename_i hl
          refine iop_add_str pins s σ H _ _ v u Q I rx ry ⟨x, y, rfl, rfl, hl, h.fin rs (.str _ ?_)⟩
          have e : (x ++ y).cps = x.cps ++ y.cps := rfl
          unfold PyData.strOk at *
          rw [e, Array.all_append, hx, hy]; rfl
        · exact h.elim
      | _ => exact h.elim
    | _ => exact h.elim
  | _ => exact h.elim

/-! ### comparisons -/
theorem dp_res {K : PySem.W.Frag} {H : Hp} {m : Nat → Addr} {S : Sto} {a a' : D} {x : V} (rs : RepS K H m S) (ra : RepD K H m S.length a x) (e : res S a = some a') (p : a'.pure = true) : Dp K H x a'.py ∧ a'.py.canLay0 = true := by
  cases ra with
  | lst hn =>
    simp only [res, Option.map_eq_some_iff] at e
    obtain ⟨xs, h1, h2⟩ := e
    subst h2
    obtain ⟨vs, q1, q2⟩ := rs.cell _ _ h1
    simp only [D.pure] at p
    simp only [D.py, PyData.canLay0]
    exact ⟨.lst (SqL.of q1) (q2.dps p), q2.lays⟩
  | non => simp only [res, Option.some.injEq] at e; subst e; exact ⟨RepD.dp (m := m) (N := S.length) .non p, rfl⟩
  | bl b => simp only [res, Option.some.injEq] at e; subst e; exact ⟨RepD.dp (m := m) (N := S.length) (.bl b) p, rfl⟩
  | int i => simp only [res, Option.some.injEq] at e; subst e; exact ⟨RepD.dp (m := m) (N := S.length) (.int i) p, rfl⟩
  | str y h => simp only [res, Option.some.injEq] at e; subst e; exact ⟨RepD.dp (m := m) (N := S.length) (.str y h) p, RepD.lay (K := K) (H := H) (m := m) (N := S.length) (.str y h)⟩
  | tup h r => simp only [res, Option.some.injEq] at e; subst e; exact ⟨RepD.dp (.tup h r) p, RepD.lay (.tup h r)⟩
  | ro h r => simp only [res, Option.some.injEq] at e; subst e; exact ⟨RepD.dp (.ro h r) p, RepD.lay (.ro h r)⟩
theorem eqR_some {a b : D} {S : Sto} {t : Bool} (h : eqR a b S = some t) : ∃ a' b', res S a = some a' ∧ res S b = some b' ∧ a'.pure = true ∧ b'.pure = true ∧ (a'.flatTo 60 || b'.flatTo 60) = true ∧ t = eqD a' b' := by
  unfold eqR at h
  split at h
  · rename_i a' b' h1 h2
    split at h
    · rename_i hc
      exact ⟨a', b', h1, h2, hc.1, hc.2.1, hc.2.2, (Option.some.inj h).symm⟩
    · cases h
  · cases h
theorem flat_room {a b : D} {A : Around} (h : (a.flatTo 60 || b.flatTo 60) = true) (hu : A.units + 64 < cLine) : A.units + min a.py.depth b.py.depth < cLine := by
  rcases Bool.or_eq_true_iff.mp h with h | h
  · have := D.flat_depth h
    omega
  · have := D.flat_depth h
    omega
theorem flatV_of {K : PySem.W.Frag} {H : Hp} {m : Nat → Addr} {N : Nat} {d : D} {v : V} (r : RepD K H m N d v) (h : flatD d = true) : flatV v = true := by
  cases r <;> first | rfl | cases h
theorem eqV_of {K : PySem.W.Frag} {H : Hp} {m : Nat → Addr} {N : Nat} {d e : D} {v w : V} (r : RepD K H m N d v) (q : RepD K H m N e w) (h : flatD d = true) (h' : flatD e = true) : eqV v w = eqD d e := by
  cases r <;> cases q <;> first | rfl | (cases h; done) | (cases h'; done) | (simp [eqV, eqD, D.py, PyData.eqv]; done)
theorem any_of {K : PySem.W.Frag} {H : Hp} {m : Nat → Addr} {N : Nat} {a : D} {x : V} (ra : RepD K H m N a x) (ha : flatD a = true) : ∀ {ds : List D} {vs : List V}, RepDs K H m N ds vs → ds.all flatD = true → vs.all flatV = true ∧ (vs.any fun y => eqV y x) = ds.any fun y => eqD y a
  | _, _, .nil, _ => ⟨rfl, rfl⟩
  | _, _, .cons r rs, h => by
    rw [List.all_cons, Bool.and_eq_true] at h
    obtain ⟨h1, h2⟩ := any_of ra ha rs h.2
    rw [List.all_cons, List.any_cons, List.any_cons, h1, h2, flatV_of r h.1, eqV_of r ra h.1 ha]
    exact ⟨rfl, rfl⟩
theorem op_cmpZ (hu : X.A.units + 64 < cLine) (op : COp) : OpR X (compareOp op.py) (r2Z X.K cls W (cmpR op)) := by
  intro pins s σ H x y v u Q I rx ry h
  obtain ⟨a, b, S, m, rs, ra, rb, h⟩ := h
  cases op with
  | eq =>
    simp only [cmpR] at h
    cases e : eqR a b S with
    | none => rw [e] at h; exact h.elim
    | some t =>
      rw [e] at h
      obtain ⟨a', b', e1, e2, p1, p2, fl, et⟩ := eqR_some e
      obtain ⟨d1, l1⟩ := dp_res rs ra e1 p1
      obtain ⟨d2, l2⟩ := dp_res rs rb e2 p2
      obtain ⟨as, r1⟩ := Dp.reads I _ x v d1 rx
      obtain ⟨bs, r2⟩ := Dp.reads I _ y u d2 ry
      refine SeqAt.compareEq_reads r1 r2 l1 l2 (flat_room fl hu) ⟨.bl _, H, I, rfl, ?_⟩
      subst et
      exact h.fin rs (.bl _)
  | ne =>
    simp only [cmpR] at h
    cases e : eqR a b S with
    | none => rw [e] at h; exact h.elim
    | some t =>
      rw [e] at h
      obtain ⟨a', b', e1, e2, p1, p2, fl, et⟩ := eqR_some e
      obtain ⟨d1, l1⟩ := dp_res rs ra e1 p1
      obtain ⟨d2, l2⟩ := dp_res rs rb e2 p2
      obtain ⟨as, r1⟩ := Dp.reads I _ x v d1 rx
      obtain ⟨bs, r2⟩ := Dp.reads I _ y u d2 ry
      refine SeqAt.compareNe_reads r1 r2 l1 l2 (flat_room fl hu) ⟨.bl _, H, I, rfl, ?_⟩
      subst et
      exact h.fin rs (.bl _)
  | lt =>
    cases ra with
    | int i =>
      cases rb with
      | int j => exact op_lt pins s σ H _ _ v u Q I rx ry ⟨i, j, rfl, rfl, h.fin rs (.bl _)⟩
      | _ => exact h.elim
    | tup ta tas =>
      cases rb with
      | tup tb tbs =>
        simp only [cmpR] at h
        split at h
        · rename_i ns ms e1 e2
          have q1 := tas.ints e1
          have q2 := tbs.ints e2
          subst q1 q2
          exact op_ltT (by omega) pins s σ H _ _ v u Q I rx ry ⟨_, _, ns, ms, rfl, rfl, ta, tb, h.fin rs (.bl _)⟩
        · exact h.elim
      | _ => exact h.elim
    | _ => exact h.elim
  | le =>
    cases ra with
    | int i =>
      cases rb with
      | int j => exact op_le pins s σ H _ _ v u Q I rx ry ⟨i, j, rfl, rfl, h.fin rs (.bl _)⟩
      | _ => exact h.elim
    | _ => exact h.elim
  | gt =>
    cases ra with
    | int i =>
      cases rb with
      | int j => exact op_gt pins s σ H _ _ v u Q I rx ry ⟨i, j, rfl, rfl, h.fin rs (.bl _)⟩
      | _ => exact h.elim
    | _ => exact h.elim
  | ge =>
    cases ra with
    | int i =>
      cases rb with
      | int j => exact op_ge pins s σ H _ _ v u Q I rx ry ⟨i, j, rfl, rfl, h.fin rs (.bl _)⟩
      | _ => exact h.elim
    | _ => exact h.elim
  | is =>
    cases rb with
    | non =>
      refine op_isN pins s σ H x _ v u Q I rx ry ⟨rfl, ?_⟩
      cases ra <;> exact h.fin rs (.bl _)
    | bl c =>
      cases (show u = Value.bool c from ry)
      refine is_bool_gen rx ⟨.bl _, H, I, rfl, ?_⟩
      cases ra with
      | bl d =>
        have := h.fin rs (.bl _)
        cases d <;> cases c <;> exact this
      | _ => exact h.fin rs (.bl _)
    | _ => cases ra <;> exact h.elim
  | isnt =>
    cases rb with
    | non =>
      refine op_notN pins s σ H x _ v u Q I rx ry ⟨rfl, ?_⟩
      cases ra <;> exact h.fin rs (.bl _)
    | bl c =>
      cases (show u = Value.bool c from ry)
      refine isnot_bool_gen rx ⟨.bl _, H, I, rfl, ?_⟩
      cases ra with
      | bl d =>
        have := h.fin rs (.bl _)
        cases d <;> cases c <;> exact this
      | _ => exact h.fin rs (.bl _)
    | _ => cases ra <;> exact h.elim
  | isin =>
    simp only [cmpR] at h
    split at h
    · rename_i xs e
      split at h
      · rename_i hf
        obtain ⟨p, vs, rfl, sq, rv⟩ := rs.items rb e
        obtain ⟨h1, h2⟩ := any_of ra hf.1 rv hf.2
        refine op_in_seq pins s σ H _ _ v u Q I rx ry ⟨p, vs, rfl, sq, flatV_of ra hf.1, h1, ?_⟩
        show Q (.bl (inV x vs)) H
        unfold inV
        rw [h2]
        exact h.fin rs (.bl _)
      · exact h.elim
    · exact h.elim
  | notin =>
    simp only [cmpR] at h
    split at h
    · rename_i xs e
      split at h
      · rename_i hf
        obtain ⟨p, vs, rfl, sq, rv⟩ := rs.items rb e
        obtain ⟨h1, h2⟩ := any_of ra hf.1 rv hf.2
        refine op_notIn_seq pins s σ H _ _ v u Q I rx ry ⟨p, vs, rfl, sq, flatV_of ra hf.1, h1, ?_⟩
        show Q (.bl (!inV x vs)) H
        unfold inV
        rw [h2]
        exact h.fin rs (.bl _)
      · exact h.elim
    · exact h.elim
/-- truth -/
theorem truth_of {K : PySem.W.Frag} {H : Hp} {m : Nat → Addr} {S : Sto} {d : D} {x : V} {k : Bool} (rs : RepS K H m S) (r : RepD K H m S.length d x) (h : truthR d S = some k) : TruV K x H k := by
  cases r with
  | non =>
    simp only [truthR, Option.some.injEq] at h
    show k = false
    exact h.symm
  | bl b =>
    simp only [truthR, Option.some.injEq] at h
    show k = b
    exact h.symm
  | int i => simp [truthR] at h; subst h; rfl
  | str y _ =>
    simp only [truthR] at h
    split at h
    · rename_i hl
      exact ⟨hl, (Option.some.inj h).symm⟩
    · cases h
  | tup ht hr =>
    simp only [truthR, Option.some.injEq] at h
    subst h
    refine .inr (.inl ⟨_, ht, ?_⟩)
    cases hr <;> rfl
  | ro ht hr =>
    simp only [truthR, Option.some.injEq] at h
    subst h
    refine .inl ⟨_, ht.sq, ?_⟩
    cases hr <;> rfl
  | lst hn =>
    simp only [truthR, Option.map_eq_some_iff] at h
    obtain ⟨xs, h1, h2⟩ := h
    obtain ⟨vs, q1, q2⟩ := rs.cell _ _ h1
    subst h2
    refine .inl ⟨vs, SqL.of q1, ?_⟩
    cases q2 <;> rfl
end
end Z
end
section
set_option Elab.async false
set_option linter.all false
set_option autoImplicit false
set_option maxRecDepth 100000
set_option maxHeartbeats 4000000
/-! Z3d: subscripts, slices, built-ins, methods by values. -/
namespace Z
open PySem PySem.Spec PyProof.Rows L2
section
variable {X : Cx} {cls : Str → Value} {W : XK}
theorem atI_rep {K : PySem.W.Frag} {H : Hp} {m : Nat → Addr} {N : Nat} {ds : List D} {vs : List V} {i : Int} {d : D} (r : RepDs K H m N ds vs) (h : atI ds i = some d) : ∃ v, L2.atI vs i = some v ∧ RepD K H m N d v := by
  unfold atI L2.atI at *
  rw [← r.length]
  cases e : L2.ixN ds.length i with
  | none => rw [e] at h; cases h
  | some j =>
    rw [e] at h
    simp only [Option.bind_some] at h ⊢
    exact r.get h
theorem ix_Z : IxR X (r2Z X.K cls W ixR) := by
  intro value slice pins s σ H x y v u Q I rx ry h hs
  obtain ⟨a, b, S, m, rs, ra, rb, h⟩ := h
  cases rb with
  | int i =>
    simp only [ixR] at h
    split at h
    · rename_i xs e
      obtain ⟨p, vs, rfl, sq, rv⟩ := rs.items ra e
      cases e2 : atI xs i with
      | none => rw [e2] at h; exact h.elim
      | some d =>
        rw [e2] at h
        obtain ⟨w, hw, rw'⟩ := atI_rep rv e2
        rcases sq with sq | sq
        · exact ix_list value slice pins s σ H _ _ v u Q I rx ry ⟨p, vs, i, w, rfl, rfl, sq, hw, h.fin rs rw'⟩ hs
        · exact ix_tup value slice pins s σ H _ _ v u Q I rx ry ⟨p, vs, i, w, rfl, rfl, sq, hw, h.fin rs rw'⟩ hs
    · rename_i e
      split at h
      · rename_i z
        split at h
        · rename_i hl
          cases e2 : atI z.cps.toList i with
          | none => rw [e2] at h; exact h.elim
          | some c =>
            rw [e2] at h
            cases ra with
            | str _ hz =>
              refine ix_str value slice pins s σ H _ _ v u Q I rx ry ⟨z, i, c, rfl, rfl, hl, e2, h.fin rs (.str _ ?_)⟩ hs
              have hm : c ∈ z.cps.toList := by
                unfold atI L2.atI at e2
                cases e3 : L2.ixN z.cps.toList.length i with
                | none => rw [e3] at e2; cases e2
                | some j => rw [e3] at e2; exact List.mem_of_getElem? e2
              unfold PyData.strOk at *
              rw [Array.all_eq_true'] at hz
              have := hz c (by simpa using hm)
              simpa using this
        · exact h.elim
      · exact h.elim
  | _ => exact h.elim
/-- a list's item by getItem itself -/
theorem get_Z : PGet X (r2Z X.K cls W ixL) := by
  intro pins s σ H x y v u Q I rx ry h
  obtain ⟨a, b, S, m, rs, ra, rb, h⟩ := h
  cases ra with
  | @lst n hn =>
    cases rb with
    | int i =>
      simp only [ixL, ixR] at h
      split at h
      · rename_i xs e
        obtain ⟨p, vs, ep, sq, rv⟩ := rs.items (RepD.lst hn) e
        cases e2 : atI xs i with
        | none => rw [e2] at h; exact h.elim
        | some d =>
          rw [e2] at h
          obtain ⟨z, he, rw'⟩ := atI_rep rv e2
          have q := h.fin rs rw'
          cases ep
          have sq : SqL X.K H (m n) vs := by
            rcases sq with sq | sq
            · exact sq
            · obtain ⟨ws, q1, q2⟩ := rs.cell _ _ e
              rcases sq with (sq | ⟨o, sq⟩) | ⟨o, its, k, h1, h2, h3, h4, h5⟩
              · rw [q1] at sq; cases sq
              · rw [q1] at sq; cases sq
              · have z1 := I.kIn _ _ h1
                obtain ⟨_, _, _, _, z2⟩ := I.hok _ _ q1
                rw [z1] at z2
                have z3 := Option.some.inj z2
                rw [z3] at h2
                have h6 : Value.type "list" = Value.type "tuple" := h2
                exact absurd h6 (by decide)
          cases rx
          obtain ⟨t, rfl⟩ := ry
          obtain ⟨its, r, pl, hz⟩ := I.list sq
          obtain ⟨j, h1, h2, h3, h4, h5⟩ := atI_get he
          obtain ⟨w, ew, rw'⟩ := r.get h2
          have hl := r.length
          have hn := line63
          have fin : EP X pins σ Q w s := ⟨z, H, I, rw', q⟩
          by_cases h0 : 0 ≤ i
          · have hj : i.toNat = j := by
              rw [seqIndex_of h0 h5] at h1
              exact Option.some.inj h1
            exact wpAny_getItem_list pl.isList h0 (by omega) (by rw [hj]; simpa using ew) fin
          · have hj : (i + (its.toArray.size : Int)).toNat = j := by
              rw [seqIndex_neg (by omega) h4] at h1
              rw [List.size_toArray, ← hl]
              exact Option.some.inj h1
            exact wpAny_getItem_list_neg pl.isList (by omega) (by rw [List.size_toArray] <;> omega) (by omega) (by rw [hj]; simpa using ew) fin
      · exact h.elim
    | _ => exact h.elim
  | _ => exact h.elim
/-- a slice -/
def rSlZ (K : PySem.W.Frag) (cls : Str → Value) (W : XK) : V → Option Int → Option Int → Hp → VK → Prop := fun x lo hi H Q => ∃ a S m, RepS K H m S ∧ RepD K H m S.length a x ∧ Out K cls W (relD K) H m S.length (slR a lo hi S) Q
theorem cut_rep {K : PySem.W.Frag} {H : Hp} {m : Nat → Addr} {N : Nat} {ds : List D} {vs : List V} (r : RepDs K H m N ds vs) (lo hi : Option Int) : RepDs K H m N (cut ds lo hi) (cutV vs lo hi) := by
  unfold cut cutV
  rw [r.length]
  exact (r.drop _).take _
theorem sl_Z : SlR X (rSlZ X.K cls W) := by
  intro pins s σ H x v vl vu lo hi sl Q I rx hs pl pu h
  obtain ⟨a, S, m, rs, ra, h⟩ := h
  unfold slR at h
  cases ra with
  | @tup aT dsT vsT ta tas =>
    refine sl_tupA pins s σ H _ v vl vu lo hi sl Q I rx hs pl pu ⟨_, _, rfl, ta, fun e => ?_, fun e p hp => ?_⟩
    · refine h.fin rs (.tup ta ?_)
      have e3 : cut dsT lo hi = dsT := by
        unfold cut
        rw [tas.length, e.1, e.2]
        simp [← tas.length]
      rw [e3]
      exact tas
    · exact h _ _ m (ext_new hp) (rs.new hp) (.tup (SqT.of upd_same) ((cut_rep tas lo hi).ext rs.tr (ext_new hp)))
  | lst hn =>
    simp only at h
    split at h
    · rename_i xs e
      obtain ⟨vs, q1, q2⟩ := rs.cell _ _ e
      exact sl_list pins s σ H _ v vl vu lo hi sl Q I rx hs pl pu ⟨_, vs, rfl, SqL.of q1, (newL_out h rs (cut_rep q2 lo hi)).2⟩
    · exact h.elim
  | ro ta tas => exact sl_list pins s σ H _ v vl vu lo hi sl Q I rx hs pl pu ⟨_, _, rfl, ta.sq, (newL_out h rs (cut_rep tas lo hi)).2⟩
  | _ => exact h.elim
/-- a store to an item -/
theorem set_Z : PSet X (fun o i v H Q => ∃ a b d S m S', RepS X.K H m S ∧ RepD X.K H m S.length a o ∧ RepD X.K H m S.length b i ∧ RepD X.K H m S.length d v ∧ setIxR a b d S = some S' ∧
    ∀ H', Ext H m S.length H' m S'.length → RepS X.K H' m S' → Q H') := by
  intro pins s σ H o i v ov iv u Q I ro ri rv h
  obtain ⟨a, b, d, S, m, S', rs, ra, rb, rd, e, h⟩ := h
  cases ra with
  | @lst n hn =>
    cases rb with
    | int k =>
      simp only [setIxR] at e
      split at e
      · rename_i xs e1
        obtain ⟨vs, q1, q2⟩ := rs.cell _ _ e1
        simp only [Option.map_eq_some_iff] at e
        obtain ⟨j, ej, e⟩ := e
        subst e
        refine set_list pins s σ H _ _ v ov iv u Q I ro ri rv ⟨_, vs, k, j, rfl, rfl, q1, by rw [← q2.length]; exact ej, h _ ?_ (rs.setL hn (q2.set rd j))⟩
        rw [List.length_set]
        exact ext_set hn
      · cases e
    | _ => cases e
  | _ => simp [setIxR] at e
/-- the type of a value -/
def tyName : D → String
  | .non => "NoneType" | .bl _ => "bool" | .int _ => "int" | .str _ => "str" | .tup _ => "tuple" | .lst _ => "list" | .ro _ => "list"
theorem tyX_of {K : PySem.W.Frag} {H : Hp} {m : Nat → Addr} {S : Sto} {d : D} {v : V} (rs : RepS K H m S) (r : RepD K H m S.length d v) :
    TyX K H v (.type (tyName d)) := by
  cases r with
  | non => exact .base .non
  | bl b => exact .base (.bl b)
  | int i => exact .base (.int i)
  | str x _ => exact .base (.str x)
  | tup h _ =>
    rcases h with (h | ⟨o, h⟩) | ⟨o, its, n, h1, h2, _⟩
    · exact .base (.tup h)
    · exact .fTuple h
    · exact .kTuple h1 h2
  | lst hn =>
    obtain ⟨vs, q⟩ := rs.tr _ hn
    exact .base (.lst q)
  | ro h _ =>
    rcases h with ⟨o, h⟩ | ⟨o, its, n, h1, h2, _⟩
    · exact .base (.frz h)
    · exact .kList h1 h2
end
end Z
end
section
set_option Elab.async false
set_option linter.all false
set_option autoImplicit false
set_option maxRecDepth 100000
set_option maxHeartbeats 4000000
/-! Z3e: enumerate of a tuple. -/
namespace PySem
open Builtin SmallTypes
open AutoSeq1 (wpAny_loadPart')
theorem meets_enumerate_newT (l : Addr) (items : Array Value) (n : Nat) (dct : Option Addr) (sl : Array (Option Value)) :
    Meets (Builtin.«enumerate.__new__» ⟨[.type "enumerate", .ref l], []⟩) (fun _ R s => s.heap.get? l = some { cls := .type "tuple", dict := dct, data := .seq items n, slots := sl } ∧
      R (.ok (.ret (.ref (s.heap.push { cls := .type "tuple_iterator", data := .fields #[.ref l, .int 0 0] }).objs.size)))
        { s with heap := (s.heap.push { cls := .type "tuple_iterator", data := .fields #[.ref l, .int 0 0] }).push { cls := .type "enumerate", data := .fields #[.none, .bool false, .ref s.heap.objs.size, rawInt 0, .none, .none] } }) :=
  .of_wp fun prog w A R s h => by
    obtain ⟨hp, g, d, tk, os⟩ := s; obtain ⟨hl, h⟩ := h
    have hsub := sub_enumerate
    have hL : Heap.IsTuple (Shared.heap ⟨hp, g, d, tk, os⟩) l items := ⟨_, hl, rfl, n, rfl⟩
    wp_walk using wpAny_loadPart' hl
    refine wpAny_stack_any fun st => wpAny_pure ?_
    split
    · rename_i c _ _ _ _ _
      cases (c == Value.type "enumerate")
      · wp_walk using wpAny_loadPart' hl, wpAny_pyIter_tuple hL
        exact ⟨_, rfl, h⟩
      · wp_walk using wpAny_loadPart' hl, wpAny_pyIter_tuple hL
        exact ⟨_, rfl, h⟩
    · wp_walk using wpAny_loadPart' hl, wpAny_pyIter_tuple hL
      exact ⟨_, rfl, h⟩
section
variable {prog : Program} {w : World} {A : Around} {E : Value → Shared → Prop} {s : Shared}
theorem call_enumerate_tuple {l : Addr} {items : Array Value} {Q : Value → Shared → Prop} (hL : s.heap.IsTuple l items)
    (h : ∀ h', IsEnum h' (s.heap.objs.size + 1) s.heap.objs.size 0 .none → h'.IsTupleIter s.heap.objs.size l 0 → h'.objs.size = s.heap.objs.size + 2 →
      (∀ b o, s.heap.get? b = some o → h'.get? b = some o) → Q (.ref (s.heap.objs.size + 1)) { s with heap := h' }) :
    wpAny (model prog w) A (call (.type "enumerate") [.ref l]) Q E s := by
  obtain ⟨⟨c, dct, dt, sl⟩, hl, hc, n, hd⟩ := hL
  replace hc : c = .type "tuple" := hc
  replace hd : dt = .seq items n := hd
  subst hc hd
  refine callType_new F.called_enumerate (by decide) (F.typeCall_enumerate_1 _) (F.newCall_enumerate_1 _) (fun obj => F.args_object_init_2 obj _) F.entry_enumerate_new
    (meets_enumerate_newT l items n dct sl) ⟨hl, ?_⟩
  have hz : (s.heap.push { cls := .type "tuple_iterator", data := .fields #[.ref l, .int 0 0] }).objs.size = s.heap.objs.size + 1 := Heap.size_push ..
  show _ ∧ _
  rw [hz]
  have he : IsEnum ((s.heap.push { cls := .type "tuple_iterator", data := .fields #[.ref l, .int 0 0] }).push
      { cls := .type "enumerate", data := .fields #[.none, .bool false, .ref s.heap.objs.size, rawInt 0, .none, .none] }) (s.heap.objs.size + 1) s.heap.objs.size 0 .none := by
    have := Heap.get?_push_size (s.heap.push { cls := .type "tuple_iterator", data := .fields #[.ref l, .int 0 0] })
      (o := { cls := .type "enumerate", data := .fields #[.none, .bool false, .ref s.heap.objs.size, rawInt 0, .none, .none] }) rfl
    rw [hz] at this; exact this
  refine ⟨⟨_, he, rfl⟩, h _ he ⟨_, Heap.get?_push_of_some _ (Heap.get?_push_size _ rfl), rfl, rfl⟩ (by rw [Heap.size_push, hz]) fun b o x => Heap.get?_push_of_some _ (Heap.get?_push_of_some _ x)⟩
end
end PySem
namespace L2
open PySem PySem.Spec PyProof.Rows
def IteT (K : PySem.W.Frag) (a : Addr) : It :=
  ⟨fun i H => ∃ (xs : List V) (x : V), SqT K H a xs ∧ xs[i]? = some x, fun i H v H' => ∃ T x, v = .ref T ∧ H T = none ∧ H' = upd H T (.tup [.int (i : Nat), x]) ∧ ∀ xs, SqT K H a xs → xs[i]? = some x, fun i H => ∃ xs : List V, SqT K H a xs ∧ xs.length ≤ i⟩
theorem turn_enumT {P : Program} {w : World} {K : PySem.W.Frag} {elts : List Expr} {kk : Nat} {tpos : Pos} (a e it : Addr) :
    Turn P w K (.Tuple elts kk tpos) (IteT K a) [e, it] e (fun i h => (∃ old, IsEnum h e it ((i : Nat) : Int) old) ∧ h.IsTupleIter it a i ∧ e ≠ it) where
  mem := by simp
  obj := fun i h st b hb => by
    obtain ⟨⟨old, he⟩, ⟨o, ho, hc, hd⟩, _⟩ := st
    have e' : b = e ∨ b = it := by simpa using hb
    rcases e' with z | z
    · rw [z]; exact ⟨_, he, fun v q => nomatch q⟩
    · rw [z]; exact ⟨o, ho, fun v q => by rw [hd] at q; cases q⟩
  keep := fun i h h' st k => let ⟨⟨old, he⟩, hi, hne⟩ := st; ⟨⟨old, k e (by simp) _ he⟩, hi.at fun o q => k it (by simp) o q, hne⟩
  item := by
    intro X hP hw hK hc i pins s σ H E I hf st hg
    subst hP hw hK
    obtain ⟨⟨old, he⟩, hit, hne⟩ := st
    obtain ⟨xs, x, hq, hx⟩ := hg
    obtain ⟨its, rv, p, hz⟩ := I.tuple hq
    obtain ⟨u, hu, ru⟩ := rv.get hx
    have hel : e < s.heap.objs.size := Heap.lt_size he
    have hil : it < s.heap.objs.size := by obtain ⟨_, q, _⟩ := hit; exact Heap.lt_size q
    have hlt : i < its.toArray.size := by
      rw [List.size_toArray]
      exact (List.getElem?_eq_some_iff.mp hu).1
    have hia : a ≠ it := fun z => by
      obtain ⟨o, q1, q2, _⟩ := p
      obtain ⟨o', q3, q4, _⟩ := hit
      rw [z, q3] at q1
      cases q1
      rw [q4] at q2
      exact absurd q2 (by decide)
    have hea : e ≠ a := fun z => by
      obtain ⟨o, q1, q2, _⟩ := p
      rw [← z, he] at q1
      cases q1
      exact absurd (show Value.type "enumerate" = Value.type "tuple" from q2) (by decide)
    refine wpAny_pyNext_enum_itemD (Draws.tuple (A := X.A.in1) (I.ok.hd hc) it a hia its.toArray) he ⟨hit, p⟩ hlt hne (by simp [hne, hea]) fun x' h' tk hP ho st' hT hsz hk => ?_
    obtain ⟨hit', p'⟩ := st'
    have ex : x' = u := by
      have hP : its.toArray[i]? = some x' := hP
      rw [List.getElem?_toArray, hu] at hP
      exact (Option.some.inj hP).symm
    subst ex
    refine ⟨_, rfl, wpAny_letOwnedTupleGo_enum (s := { s with heap := h', toks := tk + 1 }) ho fun h'' he' sb => ?_⟩
    have hT2 : h''.get? s.heap.objs.size = some { cls := .type "tuple", data := .seq #[.int i tk, x'] } := (sb.2 _ (Nat.ne_of_gt hel)).trans hT
    have new : ObjOk X.prog X.w (upd H s.heap.objs.size (.tup [.int (i : Nat), x])) h'' s.heap.objs.size (.tup [.int (i : Nat), x]) :=
      ⟨by show 2 ≤ sizeLine; decide, [.int i tk, x'], .cons ⟨_, rfl⟩ (.cons ru .nil), ⟨_, hT2, rfl, _, rfl⟩⟩
    have I1 : Inv X pins σ (upd H s.heap.objs.size (.tup [.int (i : Nat), x])) { s with heap := h'', toks := tk + 1 } :=
      I.turnedNew (ch := [e, it]) (fun b ob hb q => (sb.2 b (fun z => hb (by simp [z]))).trans (hk b ob (fun z => hb (by simp [z])) (fun z => hb (by simp [z])) q)) hf (Nat.le_refl _) new
    refine ⟨.ref s.heap.objs.size, _, I1, rfl, ⟨_, x, rfl, I.hok.fresh (Nat.le_refl _), rfl, fun ys hy => by rw [I.tuple_inj hy hq]; exact hx⟩, ⟨⟨x', ?_⟩, hit'.at fun o q => (sb.2 it (Ne.symm hne)).trans q, hne⟩, fun b hb => ?_⟩
    · have e1 : ((i + 1 : Nat) : Int) = (i : Int) + 1 := by omega
      rw [e1]; exact he'
    · have hb' : b < s.heap.objs.size := by
        have e' : b = e ∨ b = it := by simpa using hb
        rcases e' with z | z
        · rw [z]; exact hel
        · rw [z]; exact hil
      rw [upd_ne (Nat.ne_of_lt hb')]
      exact (hf b hb).1
  done := by
    intro X hP hw hK hc i pins s σ H E I hf st hg
    subst hP hw hK
    obtain ⟨⟨old, he⟩, hit, hne⟩ := st
    obtain ⟨xs, hq, hx⟩ := hg
    obtain ⟨its, rv, p, hz⟩ := I.tuple hq
    obtain ⟨f0, f1, f2, f3, f4, f5⟩ := hf it (by simp)
    have hl := rv.length
    have hT : s.TypeIs (.ref e) "enumerate" := ⟨_, he, rfl⟩
    unfold pyNext
    refine wpAny_bind (wpAny_attempt (wpAny_callSpecial?_slot (name := Str.ofString "__next__") hT F.slot_enumerate_next
      (wpAny_call_entry F.slot_enumerate_next hT F.entry_enumerate_next ?_ (F.args_enumerate_next_1 _))))
    show wpAny _ _ (field (.ref e) 2 >>= _) _ _ _
    refine wpAny_bind (wpAny_field he rfl (x := .ref it) rfl ?_)
    refine wpAny_bind (wpAny_nextOf_tuple_end (items := its.toArray) (show X.A.in1.handled = none from I.ok.hd hc) hit p (by simp; omega) fun h' x he' hx' => ?_)
    obtain ⟨o, ho, hc⟩ := hx'
    refine wpAny_bind (wpAny_isInstance (T := "StopIteration") (b := true) ⟨o, ho, hc⟩ isSubtype_stop ?_)
    exact wpAny_pure ⟨rfl, I.turned (t' := s.toks) (fun b o hb q => he' b o hb q) f0 f1 f3 f4 f5⟩
  self := fun A i s Q E st h => let ⟨⟨_, he⟩, _⟩ := st; wpAny_pyIter_enum he h
def iEnumA (K : PySem.W.Frag) (ta : TA) : TI := fun σ H R => ta σ H fun vs H1 => ∃ a xs, vs = [.ref a] ∧ ((SqL K H1 a xs ∧ R (Ite K a) H1) ∨ (SqT K H1 a xs ∧ R (IteT K a) H1))
theorem pi_enumA {X : Cx} {e : Expr} {ta : TA} {p pos tpos : Pos} {elts : List Expr} {kk : Nat} (hg : Gl X "enumerate") (hm : X.mg "enumerate" = none) (ha : PA X [e] ta) (hs : starEach [e] X.env = [(false, eval e X.env)] := by rfl) :
    PI X (.Tuple elts kk tpos) (.Call (.Name "enumerate" p) [e] [] pos) (iEnumA X.K ta) := by
  refine ⟨fun pins s σ H R I h => ?_⟩
  refine Call_ (ld_blt I hg hm boot_enumerate (PyProof.Rows.callWith_type1 (thn (ha.run pos pins s σ H _ I h) fun us s1 ⟨vs, H1, I1, r1, q1⟩ => ?_) hs rfl))
  obtain ⟨a, xs, e1, q1⟩ := q1
  subst e1
  cases r1 with
  | cons r rr =>
    cases rr
    cases r
    rcases q1 with ⟨hq, q⟩ | ⟨hq, q⟩
    · obtain ⟨its, rv, p', hz⟩ := I1.list hq
      refine call_enumerate_list p'.isList fun h' he hit hsz hk => wpAny_pyIter_enum he ?_
      have I2 : Inv X pins σ H1 { s1 with heap := h' } := I1.kept (t' := s1.toks) hk
      refine ⟨s1.heap.objs.size + 1, [s1.heap.objs.size + 1, s1.heap.objs.size], _, _, H1, rfl, I2, turn_enum a (s1.heap.objs.size + 1) s1.heap.objs.size, ⟨⟨.none, he⟩, hit, Nat.succ_ne_self _⟩, fun b hb => ?_, q⟩
      have e' : b = s1.heap.objs.size + 1 ∨ b = s1.heap.objs.size := by simpa using hb
      rcases e' with z | z
      · rw [z]; exact I1.fpOk (Nat.le_succ _) (I1.hok.fresh (Nat.le_succ _))
      · rw [z]; exact I1.fpOk (Nat.le_refl _) (I1.hok.fresh (Nat.le_refl _))
    · obtain ⟨its, rv, p', hz⟩ := I1.tuple hq
      refine call_enumerate_tuple p' fun h' he hit hsz hk => wpAny_pyIter_enum he ?_
      have I2 : Inv X pins σ H1 { s1 with heap := h' } := I1.kept (t' := s1.toks) hk
      refine ⟨s1.heap.objs.size + 1, [s1.heap.objs.size + 1, s1.heap.objs.size], _, _, H1, rfl, I2, turn_enumT a (s1.heap.objs.size + 1) s1.heap.objs.size, ⟨⟨.none, he⟩, hit, Nat.succ_ne_self _⟩, fun b hb => ?_, q⟩
      have e' : b = s1.heap.objs.size + 1 ∨ b = s1.heap.objs.size := by simpa using hb
      rcases e' with z | z
      · rw [z]; exact I1.fpOk (Nat.le_succ _) (I1.hok.fresh (Nat.le_succ _))
      · rw [z]; exact I1.fpOk (Nat.le_refl _) (I1.hok.fresh (Nat.le_refl _))
end L2
end
section
set_option Elab.async false
set_option linter.all false
set_option autoImplicit false
set_option maxRecDepth 100000
set_option maxHeartbeats 4000000
/-! Z3f: built-ins and methods by values; what is walked. -/
namespace Z
open PySem PySem.Spec PyProof.Rows L2
section
variable (K : PySem.W.Frag) (cls : Str → Value) (W : XK)
def rBi (b : Bi) : List V → Hp → VK → Prop := fun vs H Q => ∃ ds S m, RepS K H m S ∧ RepDs K H m S.length ds vs ∧ Out K cls W (relD K) H m S.length (biR b ds S) Q
def rIs (b : Bi) (n : String) : List V → Hp → VK → Prop := fun vs H Q => ∃ d v S m, vs = [v, .ty n] ∧ RepS K H m S ∧ RepD K H m S.length d v ∧ Out K cls W (relD K) H m S.length (biR b [d] S) Q
def rMt (mt : Mt) : V → List V → Hp → VK → Prop := fun x vs H Q => ∃ o ds S m, RepS K H m S ∧ RepD K H m S.length o x ∧ RepDs K H m S.length ds vs ∧ Out K cls W (relD K) H m S.length (mtR mt o ds S) Q
end
section
variable {X : Cx} {cls : Str → Value} {W : XK}
theorem reps1 {K : PySem.W.Frag} {H : Hp} {m : Nat → Addr} {N : Nat} {d : D} {vs : List V} (r : RepDs K H m N [d] vs) : ∃ v, vs = [v] ∧ RepD K H m N d v := by
  cases r with
  | cons a b => cases b; exact ⟨_, rfl, a⟩
theorem reps2 {K : PySem.W.Frag} {H : Hp} {m : Nat → Addr} {N : Nat} {d e : D} {vs : List V} (r : RepDs K H m N [d, e] vs) : ∃ v w, vs = [v, w] ∧ RepD K H m N d v ∧ RepD K H m N e w := by
  cases r with
  | cons a b =>
    obtain ⟨w, rfl, h⟩ := reps1 b
    exact ⟨_, w, rfl, a, h⟩
theorem repInt {K : PySem.W.Frag} {H : Hp} {m : Nat → Addr} {N : Nat} {i : Int} {v : V} (r : RepD K H m N (.int i) v) : v = .int i := by cases r; rfl
theorem bi_len : CallR X (.builtin "len") (rBi X.K cls W .len) := by
  intro pins s σ H vs us Q I r h
  obtain ⟨ds, S, m, rs, rd, h⟩ := h
  unfold biR at h
  split at h <;> try exact h.elim
  · rename_i x _
    obtain ⟨v, rfl, rv⟩ := reps1 rd
    split at h
    · rename_i hl
      cases rv
      exact call_len_str pins s σ H _ us Q I r ⟨x, rfl, hl, h.fin rs (.int _)⟩
    · exact h.elim
  · rename_i _ d _
    obtain ⟨v, rfl, rv⟩ := reps1 rd
    split at h
    · rename_i xs e
      obtain ⟨a, ws, rfl, sq, rw'⟩ := rs.items rv e
      refine call_len_seq pins s σ H _ us Q I r ⟨a, ws, rfl, sq, ?_⟩
      have := h.fin rs (.int _)
      rwa [rw'.length] at this
    · exact h.elim
  all_goals contradiction
theorem bi_tuple : CallR X (.type "tuple") (rBi X.K cls W .tuple) := by
  intro pins s σ H vs us Q I r h
  obtain ⟨ds, S, m, rs, rd, h⟩ := h
  unfold biR at h
  split at h <;> try exact h.elim
  all_goals try contradiction
  · rename_i _ xs
    obtain ⟨v, rfl, rv⟩ := reps1 rd
    cases rv with
    | tup ht hr => exact call_tupleT pins s σ H _ us Q I r ⟨_, _, rfl, ht, h.fin rs (.tup ht hr)⟩
  · rename_i _ d _
    obtain ⟨v, rfl, rv⟩ := reps1 rd
    split at h
    · rename_i xs e
      obtain ⟨a, ws, rfl, sq, rw'⟩ := rs.items rv e
      rcases sq with sq | sq
      · exact call_tuple_of pins s σ H _ us Q I r ⟨a, ws, rfl, .inl ⟨sq, fun l hl => h _ _ m (ext_new hl) (rs.new hl) (.tup (SqT.of upd_same) (rw'.ext rs.tr (ext_new hl)))⟩⟩
      · exact call_tuple_of pins s σ H _ us Q I r ⟨a, ws, rfl, .inr ⟨sq, h.fin rs (.tup sq rw')⟩⟩
    · exact h.elim
theorem bi_list : CallR X (.type "list") (rBi X.K cls W .list) := by
  intro pins s σ H vs us Q I r h
  obtain ⟨ds, S, m, rs, rd, h⟩ := h
  unfold biR at h
  split at h <;> try exact h.elim
  all_goals try contradiction
  · rename_i _ d
    obtain ⟨v, rfl, rv⟩ := reps1 rd
    split at h
    · rename_i xs e
      obtain ⟨a, ws, rfl, sq, rw'⟩ := rs.items rv e
      exact call_list_of pins s σ H _ us Q I r ⟨a, ws, rfl, sq, (newL_out h rs rw').2⟩
    · exact h.elim
theorem bi_abs : CallR X (.builtin "abs") (rBi X.K cls W .abs) := by
  intro pins s σ H vs us Q I r h
  obtain ⟨ds, S, m, rs, rd, h⟩ := h
  unfold biR at h
  split at h <;> try exact h.elim
  all_goals try contradiction
  · rename_i i _
    obtain ⟨v, rfl, rv⟩ := reps1 rd
    cases repInt rv
    exact call_abs pins s σ H _ us Q I r ⟨i, rfl, h.fin rs (.int _)⟩
theorem bi_min (hc : X.calm = true) : CallR X (.builtin "min") (rBi X.K cls W .min) := by
  intro pins s σ H vs us Q I r h
  obtain ⟨ds, S, m, rs, rd, h⟩ := h
  unfold biR at h
  split at h <;> try exact h.elim
  all_goals try contradiction
  · rename_i i j _
    obtain ⟨v, w, rfl, rv, rw'⟩ := reps2 rd
    cases repInt rv
    cases repInt rw'
    exact call_min2 hc pins s σ H _ us Q I r ⟨i, j, rfl, h.fin rs (.int _)⟩
theorem bi_max (hc : X.calm = true) : CallR X (.builtin "max") (rBi X.K cls W .max) := by
  intro pins s σ H vs us Q I r h
  obtain ⟨ds, S, m, rs, rd, h⟩ := h
  unfold biR at h
  split at h <;> try exact h.elim
  all_goals try contradiction
  · rename_i i j _
    obtain ⟨v, w, rfl, rv, rw'⟩ := reps2 rd
    cases repInt rv
    cases repInt rw'
    exact call_max2 hc pins s σ H _ us Q I r ⟨i, j, rfl, h.fin rs (.int _)⟩
theorem bi_int : CallR X (.type "int") (rBi X.K cls W .int) := by
  intro pins s σ H vs us Q I r h
  obtain ⟨ds, S, m, rs, rd, h⟩ := h
  unfold biR at h
  split at h <;> try exact h.elim
  all_goals try contradiction
  · rename_i i _
    obtain ⟨v, rfl, rv⟩ := reps1 rd
    cases repInt rv
    exact call_int1 pins s σ H _ us Q I r (.inl ⟨i, rfl, h.fin rs (.int _)⟩)
  · rename_i k _
    obtain ⟨v, rfl, rv⟩ := reps1 rd
    cases rv
    exact call_int1 pins s σ H _ us Q I r (.inr ⟨k, rfl, h.fin rs (.int _)⟩)
theorem bi_sum (hc : X.calm = true) : CallR X (.builtin "sum") (rBi X.K cls W .sum) := by
  intro pins s σ H vs us Q I r h
  obtain ⟨ds, S, m, rs, rd, h⟩ := h
  unfold biR at h
  split at h <;> try exact h.elim
  all_goals try contradiction
  · rename_i _ d
    obtain ⟨v, rfl, rv⟩ := reps1 rd
    split at h
    · rename_i xs n e
      cases e2 : intsOf xs with
      | none => rw [e2] at h; exact h.elim
      | some ns =>
        rw [e2] at h
        cases rv with
        | lst hn =>
          obtain ⟨ws, q1, q2⟩ := rs.cell _ _ e
          have e3 := q2.ints e2
          subst e3
          exact cr_sum hc pins s σ H _ us Q I r ⟨_, ns, rfl, SqL.of q1, h.fin rs (.int _)⟩
    · exact h.elim
theorem bi_all (hc : X.calm = true) : CallR X (.builtin "all") (rBi X.K cls W .all) := by
  intro pins s σ H vs us Q I r h
  obtain ⟨ds, S, m, rs, rd, h⟩ := h
  unfold biR at h
  split at h <;> try exact h.elim
  all_goals try contradiction
  · rename_i _ n
    obtain ⟨v, rfl, rv⟩ := reps1 rd
    split at h
    · rename_i xs e
      cases e2 : boolsOf xs with
      | none => rw [e2] at h; exact h.elim
      | some ns =>
        rw [e2] at h
        cases rv with
        | lst hn =>
          obtain ⟨ws, q1, q2⟩ := rs.cell _ _ e
          have e3 := q2.bools e2
          subst e3
          exact cr_all hc pins s σ H _ us Q I r ⟨_, ns, rfl, SqL.of q1, h.fin rs (.bl _)⟩
    · exact h.elim
theorem bi_any (hc : X.calm = true) : CallR X (.builtin "any") (rBi X.K cls W .any) := by
  intro pins s σ H vs us Q I r h
  obtain ⟨ds, S, m, rs, rd, h⟩ := h
  unfold biR at h
  split at h <;> try exact h.elim
  all_goals try contradiction
  · rename_i _ n
    obtain ⟨v, rfl, rv⟩ := reps1 rd
    split at h
    · rename_i xs e
      cases e2 : boolsOf xs with
      | none => rw [e2] at h; exact h.elim
      | some ns =>
        rw [e2] at h
        cases rv with
        | lst hn =>
          obtain ⟨ws, q1, q2⟩ := rs.cell _ _ e
          have e3 := q2.bools e2
          subst e3
          exact cr_any hc pins s σ H _ us Q I r ⟨_, ns, rfl, SqL.of q1, h.fin rs (.bl _)⟩
    · exact h.elim
theorem bi_gcd : CallR X (.builtin "math.gcd") (rBi X.K cls W .gcd) := by
  intro pins s σ H vs us Q I r h
  obtain ⟨ds, S, m, rs, rd, h⟩ := h
  unfold biR at h
  split at h <;> try exact h.elim
  all_goals try contradiction
  · rename_i i j _
    obtain ⟨v, w, rfl, rv, rw'⟩ := reps2 rd
    cases repInt rv
    cases repInt rw'
    exact cr_gcd pins s σ H _ us Q I r ⟨i, j, rfl, h.fin rs (.int _)⟩
def isTy : Bi → Option String
  | .isInt => some "int" | .isBool => some "bool" | .isTuple => some "tuple" | .isStr => some "str" | .isList => some "list" | _ => none
theorem bi_is {b : Bi} {n : String} (hn : isTy b = some n) : CallR X (.builtin "isinstance") (rIs X.K cls W b n) := by
  intro pins s σ H vs us Q I r h
  obtain ⟨d, v, S, m, rfl, rs, rd, h⟩ := h
  have ty := tyX_of rs rd
  cases b <;> simp only [isTy, reduceCtorEq, Option.some.injEq] at hn <;> subst hn <;>
    (refine call_isi pins s σ H _ us Q I r ⟨v, _, _, _, _, rfl, .ty _, ty, kit_ty ?_, h.fin rs (.bl _)⟩
     cases d <;> first
       | (show kitB "NoneType" _ = some true; decide +kernel)
       | (show kitB "NoneType" _ = some false; decide +kernel)
       | (show kitB "bool" _ = some true; decide +kernel)
       | (show kitB "bool" _ = some false; decide +kernel)
       | (show kitB "int" _ = some true; decide +kernel)
       | (show kitB "int" _ = some false; decide +kernel)
       | (show kitB "str" _ = some true; decide +kernel)
       | (show kitB "str" _ = some false; decide +kernel)
       | (show kitB "tuple" _ = some true; decide +kernel)
       | (show kitB "tuple" _ = some false; decide +kernel)
       | (show kitB "list" _ = some true; decide +kernel)
       | (show kitB "list" _ = some false; decide +kernel))

/-! ### methods -/
theorem mt_Z (mt : Mt) (n : String) (hn : (match mt with | .append => "list.append" | .pop => "list.pop" | .popAt => "list.pop" | .extend => "list.extend") = n) : MtR X n (rMt X.K cls W mt) := by
  intro pins s σ H x vs v us Q I rx rvs h
  obtain ⟨o, ds, S, m, rs, ro, rd, h⟩ := h
  cases ro with
  | @lst k hk =>
    simp only [mtR] at h
    split at h
    · rename_i xs e
      obtain ⟨ws, q1, q2⟩ := rs.cell _ _ e
      split at h
      · rename_i _ _ d
        obtain ⟨y, rfl, ry⟩ := reps1 rd
        subst hn
        split at h
        · rename_i hl
          refine mt_append pins s σ H _ _ v us Q I rx rvs ⟨_, ws, y, rfl, rfl, q1, by rw [← q2.length]; exact hl, ?_⟩
          refine h _ _ m ?_ (rs.setL hk (q2.append (.cons ry .nil))) .non
          rw [List.length_set]; exact ext_set hk
        · exact h.elim
      · rename_i _ _
        cases rd
        subst hn
        split at h
        · rename_i y ey
          obtain ⟨z, ez, rz⟩ := q2.get ey
          refine mt_pop pins s σ H _ _ v us Q I rx rvs ⟨_, ws, z, rfl, rfl, q1, by rw [← q2.length]; exact ez, ?_⟩
          have x1 : Ext H m S.length (upd H (m k) (.lst ws.dropLast)) m (S.set k xs.dropLast).length := by rw [List.length_set]; exact ext_set hk
          refine h _ _ m x1 (rs.setL hk q2.dropLast) ?_
          exact rz.ext rs.tr x1
        · exact h.elim
      · rename_i _ _ i
        obtain ⟨y, rfl, ry⟩ := reps1 rd
        cases repInt ry
        subst hn
        split at h
        · rename_i hb
          split at h
          · rename_i j ej
            split at h
            · rename_i y ey
              obtain ⟨z, ez, rz⟩ := q2.get ey
              refine mt_popAt pins s σ H _ _ v us Q I rx rvs ⟨_, ws, i, j, z, rfl, rfl, q1, hb.1, hb.2, by rw [← q2.length]; exact ej, ez, ?_⟩
              have x1 : Ext H m S.length (upd H (m k) (.lst (ws.eraseIdx j))) m (S.set k (xs.eraseIdx j)).length := by rw [List.length_set]; exact ext_set hk
              refine h _ _ m x1 (rs.setL hk (q2.erase j)) ?_
              exact rz.ext rs.tr x1
            · exact h.elim
          · exact h.elim
        · exact h.elim
      · rename_i _ _ b
        obtain ⟨y, rfl, ry⟩ := reps1 rd
        subst hn
        split at h
        · rename_i zs ez
          obtain ⟨ys, q3, q4⟩ := rs.cell _ _ ez
          cases ry with
          | lst hb =>
            split at h
            · rename_i hl
              refine mt_extend pins s σ H _ _ v us Q I rx rvs ⟨_, _, ws, ys, rfl, rfl, q1, q3, by rw [← q2.length, ← q4.length]; exact hl, ?_⟩
              refine h _ _ m ?_ (rs.setL hk (q2.append q4)) .non
              rw [List.length_set]; exact ext_set hk
            · exact h.elim
        · exact h.elim
      · exact h.elim
    · exact h.elim
  | _ => exact h.elim
end

/-! ### what is walked -/
/-- the walk J gives the items xs, while the guarded lists stand -/
structure WZ (K : PySem.W.Frag) (J : It) (gd : Gd) (xs : List D) (H0 : Hp) (m0 : Nat → Addr) (N0 : Nat) : Prop where
  go : ∀ (i : Nat) (H : Hp) (m : Nat → Addr) (S : Sto), i < xs.length → Ext H0 m0 N0 H m S.length → RepS K H m S → chk gd S = true → J.go i H
  stop : ∀ (H : Hp) (m : Nat → Addr) (S : Sto), Ext H0 m0 N0 H m S.length → RepS K H m S → chk gd S = true → J.stop xs.length H
  yld : ∀ (i : Nat) (H : Hp) (m : Nat → Addr) (S : Sto) (x : V) (H' : Hp), i < xs.length → Ext H0 m0 N0 H m S.length → RepS K H m S → chk gd S = true → J.yld i H x H' →
    ∃ d, xs[i]? = some d ∧ Ext H m S.length H' m S.length ∧ RepS K H' m S ∧ RepD K H' m S.length d x
theorem chk_one {n : Nat} {xs : List D} {S : Sto} (h : chk [(n, xs)] S = true) : S[n]? = some xs := by
  unfold chk at h
  rw [List.all_cons, Bool.and_eq_true] at h
  have h1 := h.1
  cases e : S[n]? with
  | none => simp [e] at h1
  | some ys =>
    simp only [e] at h1
    rw [beqs_eq h1]
theorem chk_two {n k : Nat} {xs ys : List D} {S : Sto} (h : chk [(n, xs), (k, ys)] S = true) : S[n]? = some xs ∧ S[k]? = some ys := by
  have h2 := h
  unfold chk at h
  rw [List.all_cons, Bool.and_eq_true] at h
  exact ⟨chk_one (show chk [(n, xs)] S = true by unfold chk; rw [List.all_cons, h.1]; rfl), chk_one h.2⟩
section
variable {K : PySem.W.Frag} {H0 : Hp} {m0 : Nat → Addr} {N0 : Nat} {a b : Addr} {n k : Nat} {xs ys : List D} {vs ws : List V}
/-- a list of the store at a later heap -/
theorem list_at {H : Hp} {m : Nat → Addr} {S : Sto} (hn : n < N0) (x : Ext H0 m0 N0 H m S.length) (r : RepS K H m S) (h : S[n]? = some xs) : ∃ us, H (m0 n) = some (.lst us) ∧ RepDs K H m S.length xs us := by
  obtain ⟨us, h1, h2⟩ := r.cell _ _ h
  rw [x.same n hn] at h1
  exact ⟨us, h1, h2⟩
theorem wz_list (hn : n < N0) : WZ K (Itl K (m0 n)) [(n, xs)] xs H0 m0 N0 where
  go := fun i H m S hi x r c => by
    obtain ⟨us, h1, h2⟩ := list_at hn x r (chk_one c)
    have hl := h2.length
    exact ⟨us, us[i], SqL.of h1, by simp [← hl, hi]⟩
  stop := fun H m S x r c => by
    obtain ⟨us, h1, h2⟩ := list_at hn x r (chk_one c)
    exact ⟨us, SqL.of h1, by rw [h2.length]; exact Nat.le_refl _⟩
  yld := fun i H m S y H' hi x r c q => by
    obtain ⟨us, h1, h2⟩ := list_at hn x r (chk_one c)
    obtain ⟨e, q⟩ := q
    subst e
    obtain ⟨d, e1, e2⟩ := h2.getV (q us (SqL.of h1))
    exact ⟨d, e1, Ext.refl, r, e2⟩
theorem wz_tup (t : TrL H0 m0 N0) (hT : SqT K H0 a vs) (rx : RepDs K H0 m0 N0 xs vs) : WZ K (Itt K a) [] xs H0 m0 N0 where
  go := fun i H m S hi x r c => ⟨vs, vs[i]'(by rw [← rx.length]; exact hi), sqT_ext t x hT, by simp [← rx.length, hi]⟩
  stop := fun H m S x r c => ⟨vs, sqT_ext t x hT, by rw [rx.length]; exact Nat.le_refl _⟩
  yld := fun i H m S y H' hi x r c q => by
    obtain ⟨e, q⟩ := q
    subst e
    obtain ⟨d, e1, e2⟩ := rx.getV (q vs (sqT_ext t x hT))
    exact ⟨d, e1, Ext.refl, r, e2.ext t x⟩
theorem wz_ro (t : TrL H0 m0 N0) (hT : Fz K H0 a vs) (rx : RepDs K H0 m0 N0 xs vs) : WZ K (Itl K a) [] xs H0 m0 N0 where
  go := fun i H m S hi x r c => ⟨vs, vs[i]'(by rw [← rx.length]; exact hi), (fz_ext t x hT).sq, by simp [← rx.length, hi]⟩
  stop := fun H m S x r c => ⟨vs, (fz_ext t x hT).sq, by rw [rx.length]; exact Nat.le_refl _⟩
  yld := fun i H m S y H' hi x r c q => by
    obtain ⟨e, q⟩ := q
    subst e
    obtain ⟨d, e1, e2⟩ := rx.getV (q vs (fz_ext t x hT).sq)
    exact ⟨d, e1, Ext.refl, r, e2.ext t x⟩
theorem rangeD_len : ∀ (lo : Int) (n : Nat), (rangeD lo n).length = n
  | _, 0 => rfl
  | lo, n + 1 => by simp [rangeD, rangeD_len (lo + 1) n]
theorem rangeD_get : ∀ (lo : Int) (n i : Nat), i < n → (rangeD lo n)[i]? = some (.int (lo + i))
  | _, 0, _, h => absurd h (Nat.not_lt_zero _)
  | lo, n + 1, 0, _ => by simp [rangeD]
  | lo, n + 1, i + 1, h => by
    rw [rangeD, List.getElem?_cons_succ, rangeD_get (lo + 1) n i (by omega)]
    congr 2
    omega
theorem stepD_len (c : Int) : ∀ (lo : Int) (n : Nat), (stepD c lo n).length = n
  | _, 0 => rfl
  | lo, n + 1 => by simp [stepD, stepD_len c (lo + c) n]
theorem stepD_get (c : Int) : ∀ (lo : Int) (n i : Nat), i < n → (stepD c lo n)[i]? = some (.int (lo + (i : Nat) * c))
  | _, 0, _, h => absurd h (Nat.not_lt_zero _)
  | lo, n + 1, 0, _ => by simp [stepD]
  | lo, n + 1, i + 1, h => by
    rw [stepD, List.getElem?_cons_succ, stepD_get c (lo + c) n i (by omega)]
    congr 2
    have : ((i + 1 : Nat) : Int) * c = (i : Int) * c + c := by
      rw [Int.natCast_add, Int.add_mul]; simp
    rw [this]; omega
theorem wz_range {lo : Int} {c : Nat} : WZ K (Itr lo c) [] (rangeD lo c) H0 m0 N0 where
  go := fun i H m S hi _ _ _ => by rw [rangeD_len] at hi; exact hi
  stop := fun H m S _ _ _ => by rw [rangeD_len]; exact Nat.le_refl _
  yld := fun i H m S y H' hi x r _ q => by
    obtain ⟨e, q⟩ := q
    subst e q
    rw [rangeD_len] at hi
    exact ⟨_, rangeD_get lo c i hi, Ext.refl, r, .int _⟩
theorem wz_rangeC {lo c : Int} {n : Nat} : WZ K (Itc lo c n) [] (stepD c lo n) H0 m0 N0 where
  go := fun i H m S hi _ _ _ => by rw [stepD_len] at hi; exact hi
  stop := fun H m S _ _ _ => by rw [stepD_len]; exact Nat.le_refl _
  yld := fun i H m S y H' hi x r _ q => by
    obtain ⟨e, q⟩ := q
    subst e q
    rw [stepD_len] at hi
    exact ⟨_, stepD_get c lo n i hi, Ext.refl, r, .int _⟩
theorem enumD_len : ∀ (i : Int) (xs : List D), (enumD i xs).length = xs.length
  | _, [] => rfl
  | i, x :: xs => by simp [enumD, enumD_len (i + 1) xs]
theorem enumD_get : ∀ (j : Int) (xs : List D) (i : Nat) (d : D), xs[i]? = some d → (enumD j xs)[i]? = some (.tup [.int (j + i), d])
  | _, [], _, _, h => by simp at h
  | j, x :: xs, 0, d, h => by
    simp at h; subst h; simp [enumD]
  | j, x :: xs, i + 1, d, h => by
    rw [enumD, List.getElem?_cons_succ, enumD_get (j + 1) xs i d (by simpa using h)]
    congr 4
    omega
theorem pair_new {H : Hp} {m : Nat → Addr} {S : Sto} {T : Addr} {d e : D} {v w : V} (r : RepS K H m S) (hT : H T = none) (rd : RepD K H m S.length d v) (re : RepD K H m S.length e w) :
    Ext H m S.length (upd H T (.tup [v, w])) m S.length ∧ RepS K (upd H T (.tup [v, w])) m S ∧ RepD K (upd H T (.tup [v, w])) m S.length (.tup [d, e]) (.ref T) :=
  ⟨ext_new hT, r.new hT, .tup (SqT.of upd_same) (.cons (rd.ext r.tr (ext_new hT)) (.cons (re.ext r.tr (ext_new hT)) .nil))⟩
theorem wz_enumL (hn : n < N0) : WZ K (Ite K (m0 n)) [(n, xs)] (enumD 0 xs) H0 m0 N0 where
  go := fun i H m S hi x r c => by
    rw [enumD_len] at hi
    obtain ⟨us, h1, h2⟩ := list_at hn x r (chk_one c)
    have hl := h2.length
    exact ⟨us, us[i], SqL.of h1, by simp [← hl, hi]⟩
  stop := fun H m S x r c => by
    obtain ⟨us, h1, h2⟩ := list_at hn x r (chk_one c)
    exact ⟨us, SqL.of h1, by rw [enumD_len, h2.length]; exact Nat.le_refl _⟩
  yld := fun i H m S y H' hi x r c q => by
    obtain ⟨us, h1, h2⟩ := list_at hn x r (chk_one c)
    obtain ⟨T, v, e, hT, e2, q⟩ := q
    subst e e2
    obtain ⟨d, e1, e2⟩ := h2.getV (q us (SqL.of h1))
    obtain ⟨p1, p2, p3⟩ := pair_new r hT (.int (i : Nat)) e2
    exact ⟨_, by have := enumD_get 0 xs i d e1; rwa [Int.zero_add] at this, p1, p2, p3⟩
theorem wz_enumT (t : TrL H0 m0 N0) (hT : SqT K H0 a vs) (rx : RepDs K H0 m0 N0 xs vs) : WZ K (IteT K a) [] (enumD 0 xs) H0 m0 N0 where
  go := fun i H m S hi x r c => by
    rw [enumD_len] at hi
    exact ⟨vs, vs[i]'(by rw [← rx.length]; exact hi), sqT_ext t x hT, by simp [← rx.length, hi]⟩
  stop := fun H m S x r c => ⟨vs, sqT_ext t x hT, by rw [enumD_len, rx.length]; exact Nat.le_refl _⟩
  yld := fun i H m S y H' hi x r c q => by
    obtain ⟨T, v, e, hT', e2, q⟩ := q
    subst e e2
    obtain ⟨d, e1, e2⟩ := rx.getV (q vs (sqT_ext t x hT))
    obtain ⟨p1, p2, p3⟩ := pair_new r hT' (.int (i : Nat)) (e2.ext t x)
    exact ⟨_, by have := enumD_get 0 xs i d e1; rwa [Int.zero_add] at this, p1, p2, p3⟩
theorem wz_enumR (t : TrL H0 m0 N0) (hT : Fz K H0 a vs) (rx : RepDs K H0 m0 N0 xs vs) : WZ K (Ite K a) [] (enumD 0 xs) H0 m0 N0 where
  go := fun i H m S hi x r c => by
    rw [enumD_len] at hi
    exact ⟨vs, vs[i]'(by rw [← rx.length]; exact hi), (fz_ext t x hT).sq, by simp [← rx.length, hi]⟩
  stop := fun H m S x r c => ⟨vs, (fz_ext t x hT).sq, by rw [enumD_len, rx.length]; exact Nat.le_refl _⟩
  yld := fun i H m S y H' hi x r c q => by
    obtain ⟨T, v, e, hT', e2, q⟩ := q
    subst e e2
    obtain ⟨d, e1, e2⟩ := rx.getV (q vs (fz_ext t x hT).sq)
    obtain ⟨p1, p2, p3⟩ := pair_new r hT' (.int (i : Nat)) (e2.ext t x)
    exact ⟨_, by have := enumD_get 0 xs i d e1; rwa [Int.zero_add] at this, p1, p2, p3⟩
theorem zipD_len : ∀ (xs ys : List D), (zipD xs ys).length = min xs.length ys.length
  | [], ys => by simp [zipD]
  | _ :: _, [] => by simp [zipD]
  | x :: xs, y :: ys => by simp [zipD, zipD_len xs ys, Nat.succ_min_succ]
theorem zipD_get : ∀ (xs ys : List D) (i : Nat) (d e : D), xs[i]? = some d → ys[i]? = some e → (zipD xs ys)[i]? = some (.tup [d, e])
  | [], _, _, _, _, h, _ => by simp at h
  | _ :: _, [], _, _, _, _, h => by simp at h
  | x :: xs, y :: ys, 0, d, e, h, h' => by simp at h h'; subst h h'; simp [zipD]
  | x :: xs, y :: ys, i + 1, d, e, h, h' => by
    rw [zipD, List.getElem?_cons_succ]
    exact zipD_get xs ys i d e (by simpa using h) (by simpa using h')
theorem wz_zipL (hn : n < N0) (hk : k < N0) : WZ K (Itz K (m0 n) (m0 k)) [(n, xs), (k, ys)] (zipD xs ys) H0 m0 N0 where
  go := fun i H m S hi x r c => by
    rw [zipD_len] at hi
    obtain ⟨c1, c2⟩ := chk_two c
    obtain ⟨us, h1, h2⟩ := list_at hn x r c1
    obtain ⟨ts, h3, h4⟩ := list_at hk x r c2
    have hl := h2.length
    have hl2 := h4.length
    exact ⟨us, ts, us[i], ts[i], SqL.of h1, SqL.of h3, by simp, by simp⟩
  stop := fun H m S x r c => by
    obtain ⟨c1, c2⟩ := chk_two c
    obtain ⟨us, h1, h2⟩ := list_at hn x r c1
    obtain ⟨ts, h3, h4⟩ := list_at hk x r c2
    refine ⟨us, ts, SqL.of h1, SqL.of h3, ?_⟩
    rw [zipD_len, ← h2.length, ← h4.length]
    omega
  yld := fun i H m S y H' hi x r c q => by
    obtain ⟨c1, c2⟩ := chk_two c
    obtain ⟨us, h1, h2⟩ := list_at hn x r c1
    obtain ⟨ts, h3, h4⟩ := list_at hk x r c2
    obtain ⟨T, v, w, e, hT, e2, q1, q2⟩ := q
    subst e e2
    obtain ⟨d, e1, e2⟩ := h2.getV (q1 us (SqL.of h1))
    obtain ⟨f, e3, e4⟩ := h4.getV (q2 ts (SqL.of h3))
    obtain ⟨p1, p2, p3⟩ := pair_new r hT e2 e4
    exact ⟨_, zipD_get xs ys i d f e1 e3, p1, p2, p3⟩
theorem wz_zipT (t : TrL H0 m0 N0) (hT : SqT K H0 a vs) (rx : RepDs K H0 m0 N0 xs vs) (hT2 : SqT K H0 b ws) (ry : RepDs K H0 m0 N0 ys ws) : WZ K (RZ.ItzT K a b) [] (zipD xs ys) H0 m0 N0 where
  go := fun i H m S hi x r c => by
    rw [zipD_len] at hi
    have hl := rx.length
    have hl2 := ry.length
    exact ⟨vs, ws, vs[i], ws[i], sqT_ext t x hT, sqT_ext t x hT2, by simp, by simp⟩
  stop := fun H m S x r c => by
    refine ⟨vs, ws, sqT_ext t x hT, sqT_ext t x hT2, ?_⟩
    rw [zipD_len, ← rx.length, ← ry.length]
    omega
  yld := fun i H m S y H' hi x r c q => by
    obtain ⟨T, v, w, e, hT', e2, q1, q2⟩ := q
    subst e e2
    obtain ⟨d, e1, e2⟩ := rx.getV (q1 vs (sqT_ext t x hT))
    obtain ⟨f, e3, e4⟩ := ry.getV (q2 ws (sqT_ext t x hT2))
    obtain ⟨p1, p2, p3⟩ := pair_new r hT' (e2.ext t x) (e4.ext t x)
    exact ⟨_, zipD_get xs ys i d f e1 e3, p1, p2, p3⟩
theorem rev_get {us : List V} {i : Nat} {y : V} {xs : List D} {H : Hp} {m : Nat → Addr} {N : Nat} (h2 : RepDs K H m N xs us) (hi : i < xs.length) (q : us[us.length - 1 - i]? = some y) : ∃ d, xs.reverse[i]? = some d ∧ RepD K H m N d y := by
  obtain ⟨d, e1, e2⟩ := h2.getV q
  refine ⟨d, ?_, e2⟩
  rw [List.getElem?_reverse hi, h2.length]
  exact e1
theorem wz_revL (hn : n < N0) : WZ K (Itv K (m0 n) xs.length) [(n, xs)] xs.reverse H0 m0 N0 where
  go := fun i H m S hi x r c => by
    rw [List.length_reverse] at hi
    obtain ⟨us, h1, h2⟩ := list_at hn x r (chk_one c)
    have hl := h2.length
    exact ⟨hi, us, us[xs.length - 1 - i]'(by omega), SqL.of h1, by simp⟩
  stop := fun H m S x r c => by
    rw [List.length_reverse]
    exact Nat.le_refl _
  yld := fun i H m S y H' hi x r c q => by
    rw [List.length_reverse] at hi
    obtain ⟨us, h1, h2⟩ := list_at hn x r (chk_one c)
    obtain ⟨e, q⟩ := q
    subst e
    have q := q us (SqL.of h1)
    rw [h2.length] at q
    obtain ⟨d, e1, e2⟩ := rev_get h2 hi q
    exact ⟨d, e1, Ext.refl, r, e2⟩
theorem wz_revT (t : TrL H0 m0 N0) (hT : SqT K H0 a vs) (rx : RepDs K H0 m0 N0 xs vs) : WZ K (RT.ItvT K a xs.length) [] xs.reverse H0 m0 N0 where
  go := fun i H m S hi x r c => by
    rw [List.length_reverse] at hi
    have hl := rx.length
    exact ⟨hi, vs, vs[xs.length - 1 - i]'(by omega), sqT_ext t x hT, by simp⟩
  stop := fun H m S x r c => by
    rw [List.length_reverse]
    exact Nat.le_refl _
  yld := fun i H m S y H' hi x r c q => by
    rw [List.length_reverse] at hi
    obtain ⟨e, q⟩ := q
    subst e
    have q := q vs (sqT_ext t x hT)
    rw [rx.length] at q
    obtain ⟨d, e1, e2⟩ := rev_get rx hi q
    exact ⟨d, e1, Ext.refl, r, e2.ext t x⟩
theorem wz_str {z : Str} (hz : PyData.strOk z = true) : WZ K (Its z) [] (z.cps.toList.map fun c => D.str ⟨#[c]⟩) H0 m0 N0 where
  go := fun i H m S hi _ _ _ => by
    show i < z.cps.size
    simpa using hi
  stop := fun H m S _ _ _ => by
    show z.cps.size ≤ _
    simp
  yld := fun i H m S y H' hi x r _ q => by
    obtain ⟨e, c, hc, q⟩ := q
    subst e q
    refine ⟨.str ⟨#[c]⟩, ?_, Ext.refl, r, .str _ ?_⟩
    · rw [List.getElem?_map, Array.getElem?_toList, hc]; rfl
    · unfold PyData.strOk at *
      rw [Array.all_eq_true'] at hz
      have := hz c (Array.mem_of_getElem? hc)
      simpa using this
end
end Z
end
section
set_option Elab.async false
set_option linter.all false
set_option autoImplicit false
set_option maxRecDepth 100000
set_option maxHeartbeats 4000000
/-! Z4: the judgements by what is computed. -/
namespace Z
open PySem PySem.Spec PyProof.Rows L2
section
variable {X : Cx} {cls : Str → Value} {W : XK} {Γ : Calls} {Co : Consts} {pos : Pos}
theorem PEw {e : Expr} {t t' : TE} (h : PE X e t) (hw : ∀ σ H Q, t' σ H Q → t σ H Q) : PE X e t' := ⟨fun pins s σ H Q I q => h.run pins s σ H Q I (hw _ _ _ q)⟩
theorem PTw' {e : Expr} {t t' : TT} (h : PT X e t) (hw : ∀ σ H Q, t' σ H Q → t σ H Q) : PT X e t' := ⟨fun pins s σ H Q I q => h.run pins s σ H Q I (hw _ _ _ q)⟩
theorem PWw {e : Expr} {t t' : TT} (h : PW X e t) (hw : ∀ σ H Q, t' σ H Q → t σ H Q) : PW X e t' := ⟨fun wh pins s σ H Q I q => h.run wh pins s σ H Q I (hw _ _ _ q)⟩
theorem PAw {e : List Expr} {t t' : TA} (h : PA X e t) (hw : ∀ σ H Q, t' σ H Q → t σ H Q) : PA X e t' := ⟨fun p pins s σ H Q I q => h.run p pins s σ H Q I (hw _ _ _ q)⟩
theorem PIw {tg e : Expr} {t t' : TI} (h : PI X tg e t) (hw : ∀ σ H Q, t' σ H Q → t σ H Q) : PI X tg e t' := ⟨fun pins s σ H Q I q => h.run pins s σ H Q I (hw _ _ _ q)⟩
/-- what a computation's reading is -/
abbrev zE (X : Cx) (cls : Str → Value) (W : XK) (z : Rho → Sto → R D) : TE := tE X.K cls W z
abbrev zT (X : Cx) (cls : Str → Value) (W : XK) (z : Rho → Sto → R Bool) : TT := tT X.K cls W z
abbrev zA (X : Cx) (cls : Str → Value) (W : XK) (z : Rho → Sto → R (List D)) : TA := tA X.K cls W z

theorem z_const {e : Expr} {d : D} {v : V} (h : PE X e (tC v)) (r : ∀ H m N, RepD X.K H m N d v) : PE X e (zE X cls W fun _ S => .ok d S) :=
  PEw h fun σ H Q ⟨ρ, S, m, s, o⟩ => o.fin s.sto (r _ _ _)
theorem z_var {i : Nat} {x : Str} (hN : X.N[i]? = some x) (hv : Vis X.env.scope x) (hd : (x == ("__debug__" : Str)) = false) (hcd : (x == ("__classdict__" : Str)) = false) : PE X (.Name x pos) (zE X cls W fun ρ S => match ρ[i]? with
    | some (some d) => .ok d S
    | _ => .bad) := by
  refine PEw (pe_var hN hv hd hcd) fun σ H Q ⟨ρ, S, m, s, o⟩ => ?_
  dsimp only at o
  split at o
  · rename_i d e
    obtain ⟨v, h1, h2⟩ := s.loc i d e
    exact ⟨v, h1, o.fin s.sto h2⟩
  · exact o.elim
theorem z_bin {a b : Expr} {za zb : Rho → Sto → R D} (op : BOp) (ha : PE X a (zE X cls W za)) (hb : PE X b (zE X cls W zb)) :
    PE X (.BinOp a op.py b pos) (zE X cls W fun ρ S => (za ρ S).bind fun x S => (zb ρ S).bind fun y S => binR op x y S) := by
  refine PEw (pe_op (op_binZ (cls := cls) (W := W) op) ha hb) fun σ H Q ⟨ρ, S, m, s, o⟩ => ?_
  exact (tZ_bind s o).mono fun x H1 ⟨a, S1, m1, p1⟩ => (tZ_bind p1.sta p1.out).mono fun y H2 ⟨b, S2, m2, p2⟩ => ⟨a, b, S2, m2, p2.sta.sto, p1.rel.ext p1.sta.sto.tr p2.ext, p2.rel, p2.out⟩
theorem z_cmp {a b : Expr} {za zb : Rho → Sto → R D} (hu : X.A.units + 64 < cLine) (op : COp) (hm : behindInMarks op.py b = false) (ha : PE X a (zE X cls W za)) (hb : PE X b (zE X cls W zb)) :
    PE X (.Compare a [op.py] [b] pos) (zE X cls W fun ρ S => (za ρ S).bind fun x S => (zb ρ S).bind fun y S => cmpR op x y S) := by
  refine PEw (pe_cmpR (op_cmpZ (cls := cls) (W := W) hu op) ha hb hm) fun σ H Q ⟨ρ, S, m, s, o⟩ => ?_
  exact (tZ_bind s o).mono fun x H1 ⟨a, S1, m1, p1⟩ => (tZ_bind p1.sta p1.out).mono fun y H2 ⟨b, S2, m2, p2⟩ => ⟨a, b, S2, m2, p2.sta.sto, p1.rel.ext p1.sta.sto.tr p2.ext, p2.rel, p2.out⟩
/-- a comparison gives a bool, its store as it was -/
theorem optR_bl {o : Option Bool} {S : Sto} : (∃ k, optR (o.map D.bl) S = .ok (.bl k) S) ∨ optR (o.map D.bl) S = .bad := by
  cases o with
  | none => exact .inr rfl
  | some k => exact .inl ⟨k, rfl⟩
theorem cmpR_bl (op : COp) (a b : D) (S : Sto) : (∃ k, cmpR op a b S = .ok (.bl k) S) ∨ cmpR op a b S = .bad := by
  cases op with
  | eq => exact optR_bl
  | ne =>
    have := optR_bl (o := (eqR a b S).map fun x => !x) (S := S)
    rw [Option.map_map] at this
    exact this
  | lt => unfold cmpR; dsimp only; split <;> first | exact .inl ⟨_, rfl⟩ | (split <;> first | exact .inl ⟨_, rfl⟩ | exact .inr rfl) | exact .inr rfl
  | le => unfold cmpR; dsimp only; split <;> first | exact .inl ⟨_, rfl⟩ | exact .inr rfl
  | gt => unfold cmpR; dsimp only; split <;> first | exact .inl ⟨_, rfl⟩ | exact .inr rfl
  | ge => unfold cmpR; dsimp only; split <;> first | exact .inl ⟨_, rfl⟩ | exact .inr rfl
  | is => unfold cmpR; dsimp only; split <;> first | exact .inl ⟨_, rfl⟩ | exact .inr rfl
  | isnt => unfold cmpR; dsimp only; split <;> first | exact .inl ⟨_, rfl⟩ | exact .inr rfl
  | isin => unfold cmpR; dsimp only; split <;> first | (split <;> first | exact .inl ⟨_, rfl⟩ | exact .inr rfl) | exact .inr rfl
  | notin => unfold cmpR; dsimp only; split <;> first | (split <;> first | exact .inl ⟨_, rfl⟩ | exact .inr rfl) | exact .inr rfl
/-- .. as a test -/
theorem z_cmpT {a b : Expr} {za zb : Rho → Sto → R D} (hu : X.A.units + 64 < cLine) (op : COp) (hm : behindInMarks op.py b = false) (ha : PE X a (zE X cls W za)) (hb : PE X b (zE X cls W zb)) :
    PT X (.Compare a [op.py] [b] pos) (zT X cls W fun ρ S => ((za ρ S).bind fun x S => (zb ρ S).bind fun y S => cmpR op x y S).bind fun x S => optR (truthR x S) S) := by
  refine PTw' (pt_cmpR (op_cmpZ (cls := cls) (W := W) hu op) ha hb hm) fun σ H Q ⟨ρ, S, m, s, o⟩ => ?_
  have e : ∀ r : R D, ((r.bind fun x S => (zb ρ S).bind fun y S => cmpR op x y S).bind fun x S => optR (truthR x S) S) = r.bind fun x S => (zb ρ S).bind fun y S => (cmpR op x y S).bind fun x S => optR (truthR x S) S := fun r => by
    cases r with
    | ok a S => simp only [R.bind_ok]; cases zb ρ S <;> rfl
    | exc _ _ _ => rfl
    | bad => rfl
  dsimp only at o
  rw [e] at o
  refine (tZ_bind s o).mono fun x H1 ⟨a, S1, m1, p1⟩ => (tZ_bind p1.sta p1.out).mono fun y H2 ⟨b, S2, m2, p2⟩ => ?_
  refine ⟨a, b, S2, m2, p2.sta.sto, p1.rel.ext p1.sta.sto.tr p2.ext, p2.rel, ?_⟩
  have o2 := p2.out
  rcases cmpR_bl op a b S2 with ⟨k, e2⟩ | e2
  · rw [e2] at o2 ⊢
    simp only [R.bind_ok, truthR, optR_some] at o2
    intro v H' m' x r q
    cases q
    exact ⟨k, rfl, o2 k H' m' x r rfl⟩
  · rw [e2] at o2
    exact o2.elim
theorem z_chain {a b c : Expr} {za zb zc : Rho → Sto → R D} (hu : X.A.units + 64 < cLine) (op op' : COp) (hm : lastMarks [op.py, op'.py] [b, c] = false) (ha : PE X a (zE X cls W za)) (hb : PE X b (zE X cls W zb)) (hc : PE X c (zE X cls W zc)) :
    PE X (.Compare a [op.py, op'.py] [b, c] pos) (zE X cls W fun ρ S => (za ρ S).bind fun x S => (zb ρ S).bind fun y S => (cmpR op x y S).bind fun z S => match z with
      | .bl true => (zc ρ S).bind fun w S => cmpR op' y w S
      | .bl false => .ok (.bl false) S
      | _ => .bad) := by
  refine PEw (pe_chain (op_cmpZ (cls := cls) (W := W) hu op) (op_cmpZ (cls := cls) (W := W) hu op') ha hb hc hm) fun σ H Q ⟨ρ, S, m, s, o⟩ => ?_
  refine (tZ_bind s o).mono fun x H1 ⟨a, S1, m1, p1⟩ => (tZ_bind p1.sta p1.out).mono fun y H2 ⟨b, S2, m2, p2⟩ => ?_
  refine ⟨a, b, S2, m2, p2.sta.sto, p1.rel.ext p1.sta.sto.tr p2.ext, p2.rel, ?_⟩
  have o2 := p2.out
  rcases cmpR_bl op a b S2 with ⟨k, e2⟩ | e2
  · rw [e2] at o2 ⊢
    simp only [R.bind_ok] at o2
    intro v H' m' x r q
    cases q
    refine ⟨k, rfl, ?_⟩
    have o3 := o2.pull x r.tr
    cases k with
    | false =>
      rw [if_neg Bool.false_ne_true]
      exact o3.fin r (.bl _)
    | true =>
      rw [if_pos rfl]
      have s3 := p2.sta.ext x r
      exact (tZ_bind s3 o3).mono fun w H3 ⟨c, S3, m3, p3⟩ => ⟨b, c, S3, m3, p3.sta.sto, (p2.rel.ext p2.sta.sto.tr x).ext r.tr p3.ext, p3.rel, p3.out⟩
  · rw [e2] at o2
    exact o2.elim
theorem z_chainT {a b c : Expr} {za zb zc : Rho → Sto → R D} (hu : X.A.units + 64 < cLine) (op op' : COp) (hm : lastMarks [op.py, op'.py] [b, c] = false) (ha : PE X a (zE X cls W za)) (hb : PE X b (zE X cls W zb)) (hc : PE X c (zE X cls W zc)) :
    PT X (.Compare a [op.py, op'.py] [b, c] pos) (zT X cls W fun ρ S => ((za ρ S).bind fun x S => (zb ρ S).bind fun y S => (cmpR op x y S).bind fun z S => match z with
      | .bl true => (zc ρ S).bind fun w S => cmpR op' y w S
      | .bl false => .ok (.bl false) S
      | _ => .bad).bind fun x S => optR (truthR x S) S) := by
  refine PTw' (pt_chain (op_cmpZ (cls := cls) (W := W) hu op) (op_cmpZ (cls := cls) (W := W) hu op') ha hb hc hm) fun σ H Q ⟨ρ, S, m, s, o⟩ => ?_
  have assoc : ∀ {α β γ : Type} (r : R α) (k : α → Sto → R β) (l : β → Sto → R γ), (r.bind k).bind l = r.bind fun x S => (k x S).bind l := fun r k l => by cases r <;> rfl
  simp only [assoc] at o
  refine (tZ_bind s o).mono fun x H1 ⟨a, S1, m1, p1⟩ => (tZ_bind p1.sta p1.out).mono fun y H2 ⟨b, S2, m2, p2⟩ => ?_
  refine ⟨a, b, S2, m2, p2.sta.sto, p1.rel.ext p1.sta.sto.tr p2.ext, p2.rel, ?_⟩
  have o2 := p2.out
  rcases cmpR_bl op a b S2 with ⟨k, e2⟩ | e2
  · rw [e2] at o2 ⊢
    simp only [R.bind_ok] at o2
    intro v H' m' x r q
    cases q
    refine ⟨k, rfl, ?_⟩
    have o3 := o2.pull x r.tr
    cases k with
    | false =>
      rw [if_neg Bool.false_ne_true]
      simp only [R.bind_ok, truthR, optR_some] at o3
      exact ⟨false, rfl, o3.fin r rfl⟩
    | true =>
      rw [if_pos rfl]
      have s3 := p2.sta.ext x r
      simp only [assoc] at o3
      refine (tZ_bind s3 o3).mono fun w H3 ⟨c, S3, m3, p3⟩ => ⟨b, c, S3, m3, p3.sta.sto, (p2.rel.ext p2.sta.sto.tr x).ext r.tr p3.ext, p3.rel, ?_⟩
      have o4 := p3.out
      rcases cmpR_bl op' b c S3 with ⟨k, e3⟩ | e3
      · rw [e3] at o4 ⊢
        simp only [R.bind_ok, truthR, optR_some] at o4
        intro v H' m' x r q
        cases q
        exact ⟨k, rfl, o4 k H' m' x r rfl⟩
      · rw [e3] at o4
        exact o4.elim
  · rw [e2] at o2
    exact o2.elim
/-- truth of a value -/
theorem truth_out {H : Hp} {m : Nat → Addr} {S : Sto} {d : D} {x : V} {k : Bool → Sto → R D} {Q : V → Hp → Prop} (rs : RepS X.K H m S) (r : RepD X.K H m S.length d x) (o : Out X.K cls W (relD X.K) H m S.length ((optR (truthR d S) S).bind k) Q) :
    ∃ t, TruV X.K x H t ∧ Out X.K cls W (relD X.K) H m S.length (k t S) Q := by
  cases e : truthR d S with
  | none => rw [e] at o; exact o.elim
  | some t => rw [e] at o; exact ⟨t, truth_of rs r e, o⟩
theorem z_andE {a b : Expr} {rest : List Expr} {za zb : Rho → Sto → R D} (ha : PE X a (zE X cls W za)) (hb : PE X (.BoolOp .And (b :: rest) pos) (zE X cls W zb)) :
    PE X (.BoolOp .And (a :: b :: rest) pos) (zE X cls W fun ρ S => (za ρ S).bind fun x S => (optR (truthR x S) S).bind fun t S => if t = true then zb ρ S else .ok x S) := by
  refine PEw (pe_andT ha hb) fun σ H Q ⟨ρ, S, m, s, o⟩ => ?_
  refine (tZ_bind s o).mono fun x H1 ⟨a, S1, m1, p1⟩ => ?_
  obtain ⟨t, ht, o2⟩ := truth_out p1.sta.sto p1.rel p1.out
  refine ⟨t, ht, ?_⟩
  cases t with
  | true => exact tZ_run p1.sta o2
  | false => exact o2.fin p1.sta.sto p1.rel
theorem z_orE {a b : Expr} {rest : List Expr} {za zb : Rho → Sto → R D} (ha : PE X a (zE X cls W za)) (hb : PE X (.BoolOp .Or (b :: rest) pos) (zE X cls W zb)) :
    PE X (.BoolOp .Or (a :: b :: rest) pos) (zE X cls W fun ρ S => (za ρ S).bind fun x S => (optR (truthR x S) S).bind fun t S => if t = true then .ok x S else zb ρ S) := by
  refine PEw (pe_orT ha hb) fun σ H Q ⟨ρ, S, m, s, o⟩ => ?_
  refine (tZ_bind s o).mono fun x H1 ⟨a, S1, m1, p1⟩ => ?_
  obtain ⟨t, ht, o2⟩ := truth_out p1.sta.sto p1.rel p1.out
  refine ⟨t, ht, ?_⟩
  cases t with
  | true => exact o2.fin p1.sta.sto p1.rel
  | false => exact tZ_run p1.sta o2
theorem z_notE {a : Expr} {za : Rho → Sto → R D} (ha : PE X a (zE X cls W za)) :
    PE X (.UnaryOp .Not a pos) (zE X cls W fun ρ S => (za ρ S).bind fun x S => (optR (truthR x S) S).bind fun t S => .ok (.bl (!t)) S) := by
  refine PEw (pe_notT ha) fun σ H Q ⟨ρ, S, m, s, o⟩ => ?_
  refine (tZ_bind s o).mono fun x H1 ⟨a, S1, m1, p1⟩ => ?_
  obtain ⟨t, ht, o2⟩ := truth_out p1.sta.sto p1.rel p1.out
  exact ⟨t, ht, o2.fin p1.sta.sto (.bl _)⟩
theorem z_neg {a : Expr} {za : Rho → Sto → R D} (ha : PE X a (zE X cls W za)) :
    PE X (.UnaryOp .USub a pos) (zE X cls W fun ρ S => (za ρ S).bind fun x S => match x with
      | .int i => .ok (.int (-i)) S
      | _ => .bad) := by
  refine PEw (pe_un un_neg ha) fun σ H Q ⟨ρ, S, m, s, o⟩ => ?_
  refine (tZ_bind s o).mono fun x H1 ⟨a, S1, m1, p1⟩ => ?_
  have o2 := p1.out
  have r := p1.rel
  cases r with
  | int i => exact ⟨i, rfl, o2.fin p1.sta.sto (.int _)⟩
  | _ => exact o2.elim
theorem z_ite {c a b : Expr} {zc : Rho → Sto → R Bool} {za zb : Rho → Sto → R D} (hc : PT X c (zT X cls W zc)) (ha : PE X a (zE X cls W za)) (hb : PE X b (zE X cls W zb)) :
    PE X (.IfExp c a b pos) (zE X cls W fun ρ S => (zc ρ S).bind fun t S => if t = true then za ρ S else zb ρ S) := by
  refine PEw (pe_ifExp hc ha hb) fun σ H Q ⟨ρ, S, m, s, o⟩ => ?_
  refine (tZ_bind s o).mono fun t H1 ⟨k, S1, m1, p1⟩ => ?_
  have o2 := p1.out
  have e : k = t := p1.rel
  subst e
  cases k with
  | true => exact tZ_run p1.sta o2
  | false => exact tZ_run p1.sta o2

/-! ### arguments -/
def noStar : Expr → Bool
  | .Starred _ _ => false
  | _ => true
theorem star_cons {e : Expr} {es : List Expr} {env : Env} (h : noStar e = true) : starEach (e :: es) env = (false, eval e env) :: starEach es env := by
  cases e <;> first | rfl | (cases h; done)
theorem back_none {es : List Expr} {env : Env} {p : Pos} : (∀ e ∈ es, noStar e = true) → (backTo p (starEach es env)).any (·.1) = false := by
  induction es with
  | nil => intro _; rfl
  | cons e es ih =>
    intro h
    rw [star_cons (h e List.mem_cons_self)]
    have := ih fun x hx => h x (List.mem_cons_of_mem _ hx)
    unfold backTo at *
    simp only [List.map_cons, List.any_cons] at *
    exact this
theorem z_nil : PA X [] (zA X cls W fun _ S => .ok [] S) := PAw pa_nil fun σ H Q ⟨ρ, S, m, s, o⟩ => o.fin s.sto .nil
theorem z_cons {e : Expr} {es : List Expr} {za : Rho → Sto → R D} {zs : Rho → Sto → R (List D)} (hn : noStar e = true) (ha : PE X e (zE X cls W za)) (hs : PA X es (zA X cls W zs)) :
    PA X (e :: es) (zA X cls W fun ρ S => (za ρ S).bind fun x S => (zs ρ S).bind fun xs S => .ok (x :: xs) S) := by
  refine PAw (pa_cons ha hs (star_cons hn)) fun σ H Q ⟨ρ, S, m, s, o⟩ => ?_
  refine (tZ_bind s o).mono fun x H1 ⟨a, S1, m1, p1⟩ => (tZ_bind p1.sta p1.out).mono fun y H2 ⟨b, S2, m2, p2⟩ => ?_
  exact p2.out.fin p2.sta.sto (.cons (p1.rel.ext p1.sta.sto.tr p2.ext) p2.rel)
theorem z_tup {es : List Expr} {k : Nat} {zs : Rho → Sto → R (List D)} (hs : PA X es (zA X cls W zs)) : PE X (.Tuple es k pos) (zE X cls W fun ρ S => (zs ρ S).bind fun xs S => newT xs S) := by
  refine PEw (pe_tup hs) fun σ H Q ⟨ρ, S, m, s, o⟩ => ?_
  exact (tZ_bind s o).mono fun x H1 ⟨a, S1, m1, p1⟩ => newT_out p1.out p1.sta.sto p1.rel
theorem z_lst {es : List Expr} {zs : Rho → Sto → R (List D)} (hs : PA X es (zA X cls W zs)) : PE X (.List es pos) (zE X cls W fun ρ S => (zs ρ S).bind fun xs S => newL xs S) := by
  refine PEw (pe_lst hs) fun σ H Q ⟨ρ, S, m, s, o⟩ => ?_
  exact (tZ_bind s o).mono fun x H1 ⟨a, S1, m1, p1⟩ => newL_out p1.out p1.sta.sto p1.rel
def noSlice : Expr → Bool
  | .Slice _ _ _ _ => false
  | .Tuple _ _ _ => false
  | .List _ _ => false
  | _ => true
theorem z_ix {a b : Expr} {za zb : Rho → Sto → R D} (hp : PlainIx b) (ha : PE X a (zE X cls W za)) (hb : PE X b (zE X cls W zb)) :
    PE X (.Subscript a b pos) (zE X cls W fun ρ S => (za ρ S).bind fun x S => (zb ρ S).bind fun y S => ixR x y S) := by
  refine PEw (pe_ix (ix_Z (cls := cls) (W := W)) ha hb hp) fun σ H Q ⟨ρ, S, m, s, o⟩ => ?_
  exact (tZ_bind s o).mono fun x H1 ⟨a, S1, m1, p1⟩ => (tZ_bind p1.sta p1.out).mono fun y H2 ⟨b, S2, m2, p2⟩ => ⟨a, b, S2, m2, p2.sta.sto, p1.rel.ext p1.sta.sto.tr p2.ext, p2.rel, p2.out⟩
/-- a slice's part -/
abbrev relO : RelT (Option Int) (Option Int) := fun _ _ _ a b => a = b
abbrev zO (X : Cx) (cls : Str → Value) (W : XK) (z : Rho → Sto → R (Option Int)) : TO := tZ X.K cls W relO z
theorem POw {e : Option Expr} {t t' : TO} (h : PO X e t) (hw : ∀ σ H Q, t' σ H Q → t σ H Q) : PO X e t' := ⟨fun pins s σ H Q I q => h.run pins s σ H Q I (hw _ _ _ q)⟩
theorem z_oN : PO X none (zO X cls W fun _ S => .ok none S) := POw po_none fun σ H Q ⟨ρ, S, m, s, o⟩ => o.fin s.sto rfl
theorem z_oS {e : Expr} {ze : Rho → Sto → R D} (he : PE X e (zE X cls W ze)) : PO X (some e) (zO X cls W fun ρ S => (ze ρ S).bind fun x S => match x with
    | .int i => .ok (some i) S
    | _ => .bad) := by
  refine POw (po_some he) fun σ H Q ⟨ρ, S, m, s, o⟩ => ?_
  refine (tZ_bind s o).mono fun x H1 ⟨a, S1, m1, p1⟩ => ?_
  have o2 := p1.out
  have r := p1.rel
  cases r with
  | int i => exact ⟨i, rfl, o2.fin p1.sta.sto rfl⟩
  | _ => exact o2.elim
theorem z_sl {a : Expr} {lo hi : Option Expr} {p2 : Pos} {za : Rho → Sto → R D} {zl zh : Rho → Sto → R (Option Int)} (ha : PE X a (zE X cls W za)) (hl : PO X lo (zO X cls W zl)) (hh : PO X hi (zO X cls W zh)) :
    PE X (.Subscript a (.Slice lo hi none p2) pos) (zE X cls W fun ρ S => (za ρ S).bind fun x S => (zl ρ S).bind fun l S => (zh ρ S).bind fun h S => slR x l h S) := by
  refine PEw (pe_slice (sl_Z (cls := cls) (W := W)) ha hl hh) fun σ H Q ⟨ρ, S, m, s, o⟩ => ?_
  refine (tZ_bind s o).mono fun x H1 ⟨a, S1, m1, p1⟩ => (tZ_bind p1.sta p1.out).mono fun l H2 ⟨b, S2, m2, p2⟩ => (tZ_bind p2.sta p2.out).mono fun h H3 ⟨c, S3, m3, p3⟩ => ?_
  have e1 : b = l := p2.rel
  have e2 : c = h := p3.rel
  subst e1 e2
  exact ⟨a, S3, m3, p3.sta.sto, (p1.rel.ext p1.sta.sto.tr p2.ext).ext p2.sta.sto.tr p3.ext, p3.out⟩
theorem z_rev {a : Expr} {k : Nat} {p1 p2 p3 : Pos} {za : Rho → Sto → R D} (ha : PE X a (zE X cls W za)) :
    PE X (.Subscript a (.Slice none none (some (.UnaryOp .USub (.Constant (.int 1) k p1) p2)) p3) pos) (zE X cls W fun ρ S => (za ρ S).bind fun x S => revR x S) := by
  refine PEw (pe_revA ha) fun σ H Q ⟨ρ, S, m, s, o⟩ => ?_
  refine (tZ_bind s o).mono fun x H1 ⟨a, S1, m1, p1⟩ => ?_
  have o2 := p1.out
  have r := p1.rel
  cases r with
  | tup ht hr => exact ⟨_, _, rfl, .inr ⟨ht, fun p hp => o2 _ _ m1 (ext_new hp) (p1.sta.sto.new hp) (.tup (SqT.of upd_same) (hr.reverse.ext p1.sta.sto.tr (ext_new hp)))⟩⟩
  | lst hn =>
    simp only [revR] at o2
    split at o2
    · rename_i xs e
      obtain ⟨vs, q1, q2⟩ := p1.sta.sto.cell _ _ e
      exact ⟨_, vs, rfl, .inl ⟨SqL.of q1, (newL_out o2 p1.sta.sto q2.reverse).2⟩⟩
    · exact o2.elim
  | ro ht hr => exact ⟨_, _, rfl, .inl ⟨ht.sq, (newL_out o2 p1.sta.sto hr.reverse).2⟩⟩
  | _ => exact o2.elim
end
end Z
end
section
set_option Elab.async false
set_option linter.all false
set_option autoImplicit false
set_option maxRecDepth 100000
set_option maxHeartbeats 4000000
/-! Z5a: tests, calls, what is walked, targets, comprehensions. -/
namespace Z
open PySem PySem.Spec PyProof.Rows L2
section
variable {X : Cx} {cls : Str → Value} {W : XK} {Γ : Calls} {Co : Consts} {pos p : Pos}

/-! ### tests -/
def plainT : Expr → Bool
  | .UnaryOp .Not _ _ => false
  | .BoolOp _ _ _ => false
  | .IfExp _ _ _ _ => false
  | .Compare _ _ _ _ => false
  | _ => true
theorem plainT_eq {e : Expr} {env : Env} (h : plainT e = true) (whole : Sem Value) : isTrue e env whole = (do let v ← whole; standAt e.pos; holding [v] (truthy v)) := by
  cases e with
  | UnaryOp op a q => cases op <;> first | rfl | (cases h; done)
  | BoolOp _ _ _ => cases h
  | IfExp _ _ _ _ => cases h
  | Compare _ _ _ _ => cases h
  | _ => rfl
theorem z_truth {e : Expr} {ze : Rho → Sto → R D} (hp : plainT e = true) (he : PE X e (zE X cls W ze)) : PT X e (zT X cls W fun ρ S => (ze ρ S).bind fun x S => optR (truthR x S) S) := by
  refine PTw' (pt_truth he (plainT_eq hp)) fun σ H Q ⟨ρ, S, m, s, o⟩ => ?_
  refine (tZ_bind s o).mono fun x H1 ⟨a, S1, m1, p1⟩ => ?_
  have o2 := p1.out
  cases e2 : truthR a S1 with
  | none => rw [e2] at o2; exact o2.elim
  | some t => rw [e2] at o2; exact ⟨t, truth_of p1.sta.sto p1.rel e2, o2.fin p1.sta.sto rfl⟩
theorem z_notT {a : Expr} {za : Rho → Sto → R Bool} (ha : PT X a (zT X cls W za)) : PT X (.UnaryOp .Not a pos) (zT X cls W fun ρ S => (za ρ S).bind fun t S => .ok (!t) S) := by
  refine PTw' (pt_not ha) fun σ H Q ⟨ρ, S, m, s, o⟩ => ?_
  refine (tZ_bind s o).mono fun x H1 ⟨a, S1, m1, p1⟩ => ?_
  have e : a = x := p1.rel
  subst e
  exact p1.out.fin p1.sta.sto rfl
theorem z_and1 {a : Expr} {za : Rho → Sto → R Bool} (ha : PT X a (zT X cls W za)) : PW X (.BoolOp .And [a] pos) (zT X cls W za) := pw_and1 ha
theorem z_or1 {a : Expr} {za : Rho → Sto → R Bool} (ha : PT X a (zT X cls W za)) : PW X (.BoolOp .Or [a] pos) (zT X cls W za) := pw_or1 ha
theorem z_andT {a b : Expr} {rest : List Expr} {za zb : Rho → Sto → R Bool} (ha : PT X a (zT X cls W za)) (hb : PW X (.BoolOp .And (b :: rest) pos) (zT X cls W zb)) :
    PW X (.BoolOp .And (a :: b :: rest) pos) (zT X cls W fun ρ S => (za ρ S).bind fun t S => if t = true then zb ρ S else .ok false S) := by
  refine PWw (pw_and ha hb) fun σ H Q ⟨ρ, S, m, s, o⟩ => ?_
  refine (tZ_bind s o).mono fun x H1 ⟨a, S1, m1, p1⟩ => ?_
  have e : a = x := p1.rel
  subst e
  have o2 := p1.out
  cases a with
  | true => exact tZ_run p1.sta o2
  | false => exact o2.fin p1.sta.sto rfl
theorem z_orT {a b : Expr} {rest : List Expr} {za zb : Rho → Sto → R Bool} (ha : PT X a (zT X cls W za)) (hb : PW X (.BoolOp .Or (b :: rest) pos) (zT X cls W zb)) :
    PW X (.BoolOp .Or (a :: b :: rest) pos) (zT X cls W fun ρ S => (za ρ S).bind fun t S => if t = true then .ok true S else zb ρ S) := by
  refine PWw (pw_or ha hb) fun σ H Q ⟨ρ, S, m, s, o⟩ => ?_
  refine (tZ_bind s o).mono fun x H1 ⟨a, S1, m1, p1⟩ => ?_
  have e : a = x := p1.rel
  subst e
  have o2 := p1.out
  cases a with
  | true => exact o2.fin p1.sta.sto rfl
  | false => exact tZ_run p1.sta o2

/-! ### calls -/
mutual
theorem RepD.widen {K : PySem.W.Frag} {H : Hp} {m m' : Nat → Addr} {N N' : Nat} (hm : ∀ n, n < N → m' n = m n) (hN : N ≤ N') : ∀ {d : D} {v : V}, RepD K H m N d v → RepD K H m' N' d v
  | _, _, .non => .non
  | _, _, .bl b => .bl b
  | _, _, .int i => .int i
  | _, _, .str y h => .str y h
  | _, _, .tup h r => .tup h (RepDs.widen hm hN r)
  | _, _, .lst (n := n) h => by
    rw [← hm n h]
    exact .lst (Nat.lt_of_lt_of_le h hN)
  | _, _, .ro h r => .ro h (RepDs.widen hm hN r)
theorem RepDs.widen {K : PySem.W.Frag} {H : Hp} {m m' : Nat → Addr} {N N' : Nat} (hm : ∀ n, n < N → m' n = m n) (hN : N ≤ N') : ∀ {d : List D} {v : List V}, RepDs K H m N d v → RepDs K H m' N' d v
  | _, _, .nil => .nil
  | _, _, .cons a b => .cons (RepD.widen hm hN a) (RepDs.widen hm hN b)
end
mutual
theorem RepD.moves {K : PySem.W.Frag} {H : Hp} {m m' : Nat → Addr} {N N' : Nat} : ∀ {d : D} {v : V}, RepD K H m N d v → d.pure = true → RepD K H m' N' d v
  | _, _, .non, _ => .non
  | _, _, .bl b, _ => .bl b
  | _, _, .int i, _ => .int i
  | _, _, .str y h, _ => .str y h
  | _, _, .tup h r, q => .tup h (RepDs.moves r (by simpa only [D.pure] using q))
  | _, _, .lst _, q => by simp [D.pure] at q
  | _, _, .ro h r, q => .ro h (RepDs.moves r (by simpa only [D.pure] using q))
theorem RepDs.moves {K : PySem.W.Frag} {H : Hp} {m m' : Nat → Addr} {N N' : Nat} : ∀ {d : List D} {v : List V}, RepDs K H m N d v → pures d = true → RepDs K H m' N' d v
  | _, _, .nil, _ => .nil
  | _, _, .cons a b, q => by
    simp only [pures, Bool.and_eq_true] at q
    exact .cons (RepD.moves a q.1) (RepDs.moves b q.2)
end
/-- two stores one behind the other -/
def glue (m m1 : Nat → Addr) (k : Nat) : Nat → Addr := fun n => if n < k then m n else m1 (n - k)
theorem glue_lt {m m1 : Nat → Addr} {k n : Nat} (h : n < k) : glue m m1 k n = m n := by unfold glue; rw [if_pos h]
theorem glue_ge {m m1 : Nat → Addr} {k n : Nat} : glue m m1 k (n + k) = m1 n := by
  unfold glue
  rw [if_neg (by omega)]
  congr 1
  omega
mutual
theorem RepD.shifted {K : PySem.W.Frag} {H : Hp} {m m1 : Nat → Addr} {k N : Nat} : ∀ {d : D} {v : V}, RepD K H m1 N d v → RepD K H (glue m m1 k) (k + N) (d.shift k) v
  | _, _, .non => .non
  | _, _, .bl b => .bl b
  | _, _, .int i => .int i
  | _, _, .str y h => .str y h
  | _, _, .tup h r => by simp only [D.shift]; exact .tup h (RepDs.shifted r)
  | _, _, .lst (n := n) h => by
    simp only [D.shift]
    have := RepD.lst (K := K) (H := H) (m := glue m m1 k) (N := k + N) (n := n + k) (by omega)
    rwa [glue_ge] at this
  | _, _, .ro h r => by simp only [D.shift]; exact .ro h (RepDs.shifted r)
theorem RepDs.shifted {K : PySem.W.Frag} {H : Hp} {m m1 : Nat → Addr} {k N : Nat} : ∀ {d : List D} {v : List V}, RepDs K H m1 N d v → RepDs K H (glue m m1 k) (k + N) (shifts k d) v
  | _, _, .nil => .nil
  | _, _, .cons a b => by simp only [shifts]; exact .cons (RepD.shifted a) (RepDs.shifted b)
end
theorem repS_nil {K : PySem.W.Frag} {H : Hp} {m : Nat → Addr} : RepS K H m [] := ⟨fun n xs h => by simp at h, fun i j h => absurd h (Nat.not_lt_zero _)⟩
/-- behind a call of its own store all stands -/
theorem keeps_all {K : PySem.W.Frag} {H H' : Hp} {m m0 m1 : Nat → Addr} {S : Sto} {N1 : Nat} (r : RepS K H m S) (x : Ext H m0 0 H' m1 N1) : Ext H m S.length H' m S.length ∧ RepS K H' m S := by
  have all : ∀ a o, H a = some o → H' a = some o := fun a o e => x.frame a o e fun n hn => absurd hn (Nat.not_lt_zero _)
  have x1 : Ext H m S.length H' m S.length := ⟨Nat.le_refl _, fun _ _ => rfl, fun a o e _ => all a o e, fun n h1 h2 => absurd (Nat.lt_of_lt_of_le h2 h1) (Nat.lt_irrefl _)⟩
  exact ⟨x1, r.ext x1 fun n hn => by
    obtain ⟨vs, e⟩ := r.tr n hn
    rw [e, all _ _ e]⟩
theorem keeps_glue {K : PySem.W.Frag} {H H' : Hp} {m m0 m1 : Nat → Addr} {S S1 : Sto} (r : RepS K H m S) (x : Ext H m0 0 H' m1 S1.length) (r1 : RepS K H' m1 S1) :
    Ext H m S.length H' (glue m m1 S.length) (S ++ S1.map (shifts S.length)).length ∧ RepS K H' (glue m m1 S.length) (S ++ S1.map (shifts S.length)) := by
  have all : ∀ a o, H a = some o → H' a = some o := fun a o e => x.frame a o e fun n hn => absurd hn (Nat.not_lt_zero _)
  have hl : (S ++ S1.map (shifts S.length)).length = S.length + S1.length := by simp
  obtain ⟨x0, r0⟩ := keeps_all r x
  rw [hl]
  refine ⟨⟨Nat.le_add_right _ _, fun n hn => glue_lt hn, fun a o e _ => all a o e, fun n h1 h2 => ?_⟩, fun n xs e => ?_, fun i j hi hj e => ?_⟩
  · obtain ⟨k, rfl⟩ : ∃ k, n = k + S.length := ⟨n - S.length, by omega⟩
    rw [glue_ge]
    exact x.fresh k (Nat.zero_le _) (by omega)
  · rw [hl]
    by_cases hn : n < S.length
    · rw [List.getElem?_append_left hn] at e
      obtain ⟨vs, h1, h2⟩ := r.cell n xs e
      refine ⟨vs, by rw [glue_lt hn]; exact all _ _ h1, ?_⟩
      have h3 := h2.ext r.tr x0
      exact h3.widen (fun n hn => glue_lt hn) (Nat.le_add_right _ _)
    · obtain ⟨k, rfl⟩ : ∃ k, n = k + S.length := ⟨n - S.length, by omega⟩
      rw [List.getElem?_append_right (by omega), List.getElem?_map] at e
      have e0 : k + S.length - S.length = k := by omega
      rw [e0] at e
      cases e1 : S1[k]? with
      | none => rw [e1] at e; cases e
      | some ys =>
        rw [e1] at e
        simp only [Option.map_some, Option.some.injEq] at e
        subst e
        obtain ⟨vs, h1, h2⟩ := r1.cell k ys e1
        exact ⟨vs, by rw [glue_ge]; exact h1, h2.shifted⟩
  · rw [hl] at hi hj
    have low : ∀ a b, a < S.length → b < S1.length → m a ≠ m1 b := fun a b ha hb q => by
      obtain ⟨vs, z⟩ := r.tr a ha
      have := x.fresh b (Nat.zero_le _) hb
      rw [q, this] at z; cases z
    by_cases h1 : i < S.length
    · by_cases h2 : j < S.length
      · rw [glue_lt h1, glue_lt h2] at e
        exact r.inj i j h1 h2 e
      · obtain ⟨k, rfl⟩ : ∃ k, j = k + S.length := ⟨j - S.length, by omega⟩
        rw [glue_lt h1, glue_ge] at e
        exact absurd e (low i k h1 (by omega))
    · obtain ⟨k, rfl⟩ : ∃ k, i = k + S.length := ⟨i - S.length, by omega⟩
      by_cases h2 : j < S.length
      · rw [glue_lt h2, glue_ge] at e
        exact absurd e.symm (low j k h2 (by omega))
      · obtain ⟨l, rfl⟩ : ∃ l, j = l + S.length := ⟨j - S.length, by omega⟩
        rw [glue_ge, glue_ge] at e
        have := r1.inj k l (by omega) (by omega) e
        omega

/-- what is asked of a known def's call -/
def spC (K : PySem.W.Frag) (cls : Str → Value) (Γ : Calls) (f : Str) : Sp := fun vs H Q E => ∃ ds S m, RepS K H m S ∧ RepDs K H m S.length ds vs ∧ Out K cls E (relD K) H m S.length (Γ f ds S) Q
theorem pures_all : ∀ {xs : List D} {x : D}, pures xs = true → x ∈ xs → x.pure = true
  | _ :: _, _, h, hm => by
    simp only [pures, Bool.and_eq_true] at h
    rcases List.mem_cons.mp hm with e | hm
    · rw [e]; exact h.1
    · exact pures_all h.2 hm
theorem repF_moves {K : PySem.W.Frag} {H : Hp} {m m' : Nat → Addr} {N N' : Nat} {fs : List (Str × D)} {fvs : List (Str × V)} (h : RepF K H m N fs fvs) (p : pures (fs.map (·.2)) = true) : RepF K H m' N' fs fvs := fun x => by
  have q := h x
  cases e1 : fs.lookup x with
  | none =>
    cases e2 : fvs.lookup x with
    | none => trivial
    | some v => rw [e1, e2] at q; exact q.elim
  | some d =>
    cases e2 : fvs.lookup x with
    | none => rw [e1, e2] at q; exact q.elim
    | some v =>
      rw [e1, e2] at q
      exact q.moves (pures_all p (List.mem_map.mpr ⟨(x, d), PySem.mem_of_lookup e1, rfl⟩))
theorem callR_out {K : PySem.W.Frag} {H : Hp} {m : Nat → Addr} {S : Sto} {f : Str} {ds : List D} {vs : List V} {Q : VK} (rs : RepS K H m S) (r : RepDs K H m S.length ds vs) (o : Out K cls W (relD K) H m S.length (callR Γ f ds S) Q) : spC K cls Γ f vs H Q W := by
  unfold callR at o
  by_cases hp : pures ds = true
  · rw [if_pos hp] at o
    refine ⟨ds, [], m, repS_nil, r.moves hp, ?_⟩
    cases e : Γ f ds [] with
    | bad => rw [e] at o; exact o
    | exc c fs S1 =>
      rw [e] at o
      dsimp only at o
      split at o
      · rename_i hf
        intro d H' m' fvs x r1 q1 q2
        obtain ⟨x0, r0⟩ := keeps_all rs x
        exact o d H' m fvs x0 r0 q1 (repF_moves q2 hf)
      · exact o.elim
    | ok d S1 =>
      rw [e] at o
      dsimp only at o
      intro v H' m1 x r1 rv
      split at o
      · rename_i hd
        obtain ⟨x0, r0⟩ := keeps_all rs x
        exact o v H' m x0 r0 (rv.moves hd)
      · obtain ⟨x0, r0⟩ := keeps_glue rs x r1
        refine o v H' _ x0 r0 ?_
        have hl : (S ++ S1.map (shifts S.length)).length = S.length + S1.length := by simp
        show RepD _ _ _ _ _ _
        rw [hl]
        exact rv.shifted
  · rw [if_neg hp] at o
    exact ⟨ds, S, m, rs, r, o⟩
/-- a known def, as the walk stands -/
structure FnAt (X : Cx) (cls : Str → Value) (Γ : Calls) (f : Str) (ps : List Str) (kw : Bool) : Prop where
  ex : ∃ (a : Addr) (fd : FuncData) (k : Nat), X.mg f = some (.ref a) ∧ PySem.W.keepIn X.K (.ref a) = true ∧ Binds X.K fd ps [] ∧ Room k X.A ∧ FnOk X.prog X.w X.K X.mg X.base (L2.CX X.prog X.w) k a fd ps (spC X.K cls Γ f) ∧
    (kw = true → ∀ (s : Shared) (ws : List Value), X.K.In s.heap → ws.length = ps.length → BindsTo s fd ⟨[], ps.zip ws⟩ (ps.zip ws))
theorem z_call {kw : Bool} {f : Str} {ps : List Str} {e : Expr} {es : List Expr} {zs : Rho → Sto → R (List D)} (F : FnAt X cls Γ f ps kw) (hx : Passes (L2.CX X.prog X.w) X W) (hg : Gl X f) (hd : (f == ("__debug__" : Str)) = false)
    (hn : ∀ x ∈ e :: es, noStar x = true) (hs : PA X (e :: es) (zA X cls W zs)) : PE X (.Call (.Name f p) (e :: es) [] pos) (zE X cls W fun ρ S => (zs ρ S).bind fun xs S => callR Γ f xs S) := by
  obtain ⟨a, fd, k, hm, hk, hb, hr, ok, _⟩ := F.ex
  refine PEw (pe_call ok hr hg hm hk hb .nil hx hs hd (star_cons (hn e List.mem_cons_self)) (back_none fun x hx => hn x (List.mem_cons_of_mem _ hx))) fun σ H Q ⟨ρ, S, m, s, o⟩ => ?_
  refine (tZ_bind s o).mono fun x H1 ⟨a, S1, m1, p1⟩ => ?_
  rw [List.append_nil]
  exact callR_out p1.sta.sto p1.rel p1.out
theorem z_call0 {kw : Bool} {f : Str} {ps : List Str} (F : FnAt X cls Γ f ps kw) (hx : Passes (L2.CX X.prog X.w) X W) (hg : Gl X f) (hd : (f == ("__debug__" : Str)) = false) :
    PE X (.Call (.Name f p) [] [] pos) (zE X cls W fun ρ S => (R.ok [] S : R (List D)).bind fun xs S => callR Γ f xs S) := by
  obtain ⟨a, fd, k, hm, hk, hb, hr, ok, _⟩ := F.ex
  refine PEw (pe_call0 ok hr hg hm hk hb .nil hx hd) fun σ H Q ⟨ρ, S, m, s, o⟩ => ?_
  exact callR_out s.sto .nil o
/-- f(k = e, ..), every parameter in its order -/
theorem z_callK {f : Str} {ps : List Str} {kws : List Keyword} {zs : Rho → Sto → R (List D)} (F : FnAt X cls Γ f ps true) (hx : Passes (L2.CX X.prog X.w) X W) (hg : Gl X f) (hd : (f == ("__debug__" : Str)) = false)
    (hall : (backToKw pos (keywordEach kws X.env)).all (·.1.isSome) = true) (hks : (backToKw pos (keywordEach kws X.env)).filterMap (·.1) = ps) (hpl : (backToKw pos (keywordEach kws X.env)).any (·.1.isNone) = false)
    (hs : PK X kws (zA X cls W zs)) : PE X (.Call (.Name f p) [] kws pos) (zE X cls W fun ρ S => (zs ρ S).bind fun xs S => callR Γ f xs S) := by
  obtain ⟨a, fd, k, hm, hk, hb, hr, ok, kw⟩ := F.ex
  refine ⟨fun pins s σ H Q I ⟨ρ, S, m, st, o⟩ => ?_⟩
  refine wpAny_Call_Name_kw (ld_glob I hg hm ?_ hd)
  refine PySem.W.callWith_KW0 (h₀ := X.base) I.ok.mod.kin hk hall ?_ (by rw [hpl]; rfl)
  refine thn (hs.run pos pins s σ H _ I (tZ_bind st o)) fun ws s2 ⟨zs', H2, I2, rz, a2, S2, m2, p2⟩ => ⟨I2.kIn, ?_⟩
  rw [hks]
  have h := callR_out p2.sta.sto p2.rel p2.out
  have hl : ws.length = ps.length := by rw [← rz.length]; exact ok.len _ _ _ _ h
  refine wpAny_call (codeAny_mono (ok.run X.A X.stack s2 H2 ⟨[], ps.zip ws⟩ ws zs' Q W hr I2.env0 (kw rfl s2 ws I2.kIn hl) rz h) fun r s' hq => ?_)
  cases r with
  | error e => exact hx pins σ H2 s2 e s' I2 hq
  | ok fl =>
    cases fl with
    | ret u => exact I2.after hq
    | next => exact False.elim hq
    | brk => exact False.elim hq
    | cont => exact False.elim hq
theorem z_kN : PK X [] (zA X cls W fun _ S => .ok [] S) := ⟨fun q pins s σ H Q I ⟨ρ, S, m, st, o⟩ => pk_nil.run q pins s σ H Q I (o.fin st.sto .nil)⟩
theorem z_kC {nm : Option Str} {kpos : Pos} {e : Expr} {kws : List Keyword} {za : Rho → Sto → R D} {zs : Rho → Sto → R (List D)} (ha : PE X e (zE X cls W za)) (hs : PK X kws (zA X cls W zs)) :
    PK X (⟨nm, e, kpos⟩ :: kws) (zA X cls W fun ρ S => (za ρ S).bind fun x S => (zs ρ S).bind fun xs S => .ok (x :: xs) S) := by
  refine ⟨fun q pins s σ H Q I ⟨ρ, S, m, st, o⟩ => (pk_cons ha hs).run q pins s σ H Q I ?_⟩
  refine (tZ_bind st o).mono fun x H1 ⟨a, S1, m1, p1⟩ => (tZ_bind p1.sta p1.out).mono fun y H2 ⟨b, S2, m2, p2⟩ => ?_
  exact p2.out.fin p2.sta.sto (.cons (p1.rel.ext p1.sta.sto.tr p2.ext) p2.rel)

/-! ### built-ins -/
def biVal : Bi → Option Value
  | .len => some (.builtin "len") | .tuple => some (.type "tuple") | .list => some (.type "list") | .abs => some (.builtin "abs") | .min => some (.builtin "min") | .max => some (.builtin "max")
  | .int => some (.type "int") | .sum => some (.builtin "sum") | .all => some (.builtin "all") | .any => some (.builtin "any") | .gcd => some (.builtin "math.gcd") | _ => none
theorem bi_Z (hc : X.calm = true) {b : Bi} {v : Value} (hv : biVal b = some v) : CallR X v (rBi X.K cls W b) := by
  cases b <;> simp only [biVal, reduceCtorEq, Option.some.injEq] at hv <;> subst hv
  · exact bi_len
  · exact bi_tuple
  · exact bi_list
  · exact bi_abs
  · exact bi_min hc
  · exact bi_max hc
  · exact bi_int
  · exact bi_sum hc
  · exact bi_gcd
  · exact bi_all hc
  · exact bi_any hc
theorem tCB_out {b : Bi} {es : List Expr} {zs : Rho → Sto → R (List D)} {σ : L2.St} {H : Hp} {Q : VK} (h : zE X cls W (fun ρ S => (zs ρ S).bind fun xs S => biR b xs S) σ H Q) : tCB (rBi X.K cls W b) (zA X cls W zs) σ H Q := by
  obtain ⟨ρ, S, m, s, o⟩ := h
  exact (tZ_bind s o).mono fun x H1 ⟨a, S1, m1, p1⟩ => ⟨a, S1, m1, p1.sta.sto, p1.rel, p1.out⟩
theorem z_biB {b : Bi} {id : String} {x : Str} {e : Expr} {es : List Expr} {zs : Rho → Sto → R (List D)} (hc : X.calm = true) (hv : biVal b = some (.builtin id)) (hg : Gl X x) (hm : X.mg x = none) (hb : bootBuiltins x = some (.builtin id))
    (hn : x ≠ "__name__") (hd : (x == ("__debug__" : Str)) = false) (hs' : ∀ y ∈ e :: es, noStar y = true) (hs : PA X (e :: es) (zA X cls W zs)) : PE X (.Call (.Name x p) (e :: es) [] pos) (zE X cls W fun ρ S => (zs ρ S).bind fun xs S => biR b xs S) :=
  PEw (pe_callB (bi_Z hc hv) hg hm hb hs hn hd (star_cons (hs' e List.mem_cons_self)) (back_none fun x hx => hs' x (List.mem_cons_of_mem _ hx))) fun σ H Q h => tCB_out (es := []) h
theorem z_biT {b : Bi} {id : String} {x : Str} {e : Expr} {es : List Expr} {zs : Rho → Sto → R (List D)} (hc : X.calm = true) (hv : biVal b = some (.type id)) (hg : Gl X x) (hm : X.mg x = none) (hb : bootBuiltins x = some (.type id))
    (hn : x ≠ "__name__") (hd : (x == ("__debug__" : Str)) = false) (hs' : ∀ y ∈ e :: es, noStar y = true) (hs : PA X (e :: es) (zA X cls W zs)) : PE X (.Call (.Name x p) (e :: es) [] pos) (zE X cls W fun ρ S => (zs ρ S).bind fun xs S => biR b xs S) :=
  PEw (pe_callTy (bi_Z hc hv) hg hm hb hs hn hd (star_cons (hs' e List.mem_cons_self)) (back_none fun x hx => hs' x (List.mem_cons_of_mem _ hx))) fun σ H Q h => tCB_out (es := []) h
/-- a built-in function that the module has by name (gcd) -/
theorem z_biG {b : Bi} {id : String} {x : Str} {e : Expr} {es : List Expr} {zs : Rho → Sto → R (List D)} (hc : X.calm = true) (hv : biVal b = some (.builtin id)) (hg : Gl X x) (hm : X.mg x = some (.builtin id))
    (hd : (x == ("__debug__" : Str)) = false) (hs' : ∀ y ∈ e :: es, noStar y = true) (hs : PA X (e :: es) (zA X cls W zs)) : PE X (.Call (.Name x p) (e :: es) [] pos) (zE X cls W fun ρ S => (zs ρ S).bind fun xs S => biR b xs S) :=
  PEw (pe_callBfun (bi_Z hc hv) hg hm hs hd (star_cons (hs' e List.mem_cons_self)) (back_none fun x hx => hs' x (List.mem_cons_of_mem _ hx))) fun σ H Q h => tCB_out (es := []) h
theorem z_is {b : Bi} {n : String} {t : Str} {p2 p3 : Pos} {e : Expr} {ze : Rho → Sto → R D} (hb : isTy b = some n) (hg : Gl X "isinstance") (hm : X.mg "isinstance" = none) (hg2 : Gl X t) (hm2 : X.mg t = none) (hv2 : bootBuiltins t = some (.type n))
    (hn2 : t ≠ "__name__") (hd2 : (t == ("__debug__" : Str)) = false) (hs : noStar e = true) (he : PE X e (zE X cls W ze)) :
    PE X (.Call (.Name "isinstance" p2) [e, .Name t p3] [] pos) (zE X cls W fun ρ S => (ze ρ S).bind fun x S => biR b [x] S) := by
  refine PEw (pe_callB (bi_is (cls := cls) (W := W) hb) hg hm (by decide +kernel) (pa_cons he (pa_cons (pe_bltn hg2 hm2 hv2 (v := .ty n) rfl hn2 hd2) pa_nil) (star_cons hs)) (by decide) (by decide) (star_cons hs) (by rfl)) fun σ H Q ⟨ρ, S, m, s, o⟩ => ?_
  exact (tZ_bind s o).mono fun x H1 ⟨a, S1, m1, p1⟩ => ⟨a, x, S1, m1, rfl, p1.sta.sto, p1.rel, p1.out⟩

/-! ### methods of lists -/
theorem tyV_list {K : PySem.W.Frag} {H : Hp} {m : Nat → Addr} {S : Sto} {n : Nat} (r : RepS K H m S) (hn : n < S.length) : tyV K "list" (.ref (m n)) H := by
  obtain ⟨vs, h⟩ := r.tr n hn
  exact .inl ⟨rfl, vs, SqL.of h⟩
def simpleO : Expr → Bool
  | .Name _ _ => true
  | .Subscript _ _ _ => true
  | _ => false
theorem simpleO_base {o : Expr} {nm : Str} {env : Env} (h : simpleO o = true) : attributeBase o nm env (eval o env) = eval o env := by
  cases o <;> first | rfl | (cases h; done)
theorem z_mt0 {o : Expr} {mt : Mt} {nm : Str} {apos cpos : Pos} {id : String} {zo : Rho → Sto → R D} (hid : (match mt with | .append => "list.append" | .pop => "list.pop" | .popAt => "list.pop" | .extend => "list.extend") = id)
    (slot : Slot "list" nm id) (hty : typeOf (.builtin id) = pure (.type "method_descriptor")) (ho' : simpleO o = true) (hl : (apos.endLine == cpos.line) = true) (ho : PE X o (zE X cls W zo)) :
    PE X (.Call (.Attribute o nm apos) [] [] cpos) (zE X cls W fun ρ S => (zo ρ S).bind fun x S => match x with
      | .lst n => (R.ok [] S : R (List D)).bind fun xs S => mtR mt (.lst n) xs S
      | _ => .bad) := by
  refine PEw (pe_bm0 PySem.F.plainAttrs_list slot hty (mt_Z (cls := cls) (W := W) mt id hid) ho (simpleO_base ho') hl) fun σ H Q ⟨ρ, S, m, s, o⟩ => ?_
  refine (tZ_bind s o).mono fun x H1 ⟨a, S1, m1, p1⟩ => ?_
  have o1 := p1.out
  have r := p1.rel
  cases r with
  | lst hn => exact ⟨tyV_list p1.sta.sto hn, _, [], S1, m1, p1.sta.sto, .lst hn, .nil, o1⟩
  | _ => exact o1.elim
theorem z_mt1 {o e : Expr} {mt : Mt} {nm : Str} {apos cpos : Pos} {id : String} {zo : Rho → Sto → R D} {zs : Rho → Sto → R (List D)} (hid : (match mt with | .append => "list.append" | .pop => "list.pop" | .popAt => "list.pop" | .extend => "list.extend") = id)
    (slot : Slot "list" nm id) (hty : typeOf (.builtin id) = pure (.type "method_descriptor")) (ho' : simpleO o = true) (hl : (apos.endLine == cpos.line) = true) (hn : noStar e = true) (ho : PE X o (zE X cls W zo)) (hs : PA X [e] (zA X cls W zs)) :
    PE X (.Call (.Attribute o nm apos) [e] [] cpos) (zE X cls W fun ρ S => (zo ρ S).bind fun x S => match x with
      | .lst n => (zs ρ S).bind fun xs S => mtR mt (.lst n) xs S
      | _ => .bad) := by
  refine PEw (pe_bm PySem.F.plainAttrs_list slot hty (mt_Z (cls := cls) (W := W) mt id hid) ho hs (simpleO_base ho') (by rw [star_cons hn]; rfl) hl (star_cons hn) (back_none fun x hx => nomatch hx)) fun σ H Q ⟨ρ, S, m, s, o⟩ => ?_
  refine (tZ_bind s o).mono fun x H1 ⟨a, S1, m1, p1⟩ => ?_
  have o1 := p1.out
  have r := p1.rel
  cases r with
  | @lst n hn =>
    refine ⟨tyV_list p1.sta.sto hn, (tZ_bind p1.sta o1).mono fun ys H2 ⟨b, S2, m2, p2⟩ => ⟨.lst n, b, S2, m2, p2.sta.sto, ?_, p2.rel, p2.out⟩⟩
    exact (RepD.lst hn).ext p1.sta.sto.tr p2.ext
  | _ => exact o1.elim

/-! ### targets -/
mutual
def gSlots : G → List Nat
  | .nm i => [i]
  | .tup gs => gsSlots gs
def gsSlots : Gs → List Nat
  | .nil => []
  | .cons g gs => gSlots g ++ gsSlots gs
end
/-- a target's reading -/
def zG (X : Cx) (g : G) : TG := fun v σ H Q => ∃ d ρ S m ρ', Sta X.K σ H ρ S m ∧ RepD X.K H m S.length d v ∧ asg g d ρ = some ρ' ∧ ∀ σ', Sta X.K σ' H ρ' S m → (∀ vs : List Nat, (∀ i ∈ gSlots g, i ∈ vs) → wipe σ' vs = wipe σ vs) → Q σ' H
def zGs (X : Cx) (g : Gs) : TGs := fun v σ H Q => ∃ d ρ S m ρ', Sta X.K σ H ρ S m ∧ RepDs X.K H m S.length d v ∧ asgs g d ρ = some ρ' ∧ ∀ σ', Sta X.K σ' H ρ' S m → (∀ vs : List Nat, (∀ i ∈ gsSlots g, i ∈ vs) → wipe σ' vs = wipe σ vs) → Q σ' H
theorem PGw {tg : Expr} {t t' : TG} (h : PG X tg t) (hw : ∀ v σ H Q, t' v σ H Q → t v σ H Q) : PG X tg t' := ⟨fun pins s σ H v u Q I r q => h.run pins s σ H v u Q I r (hw _ _ _ _ q)⟩
theorem PGsw {tg : List Expr} {t t' : TGs} (h : PGs X tg t) (hw : ∀ v σ H Q, t' v σ H Q → t v σ H Q) : PGs X tg t' := ⟨fun pins s σ H v u Q I r q => h.run pins s σ H v u Q I r (hw _ _ _ _ q)⟩
theorem wipe_get {σ : L2.St} {i : Nat} : ∀ {vs : List Nat}, (wipe σ vs)[i]? = if i ∈ vs then (σ[i]?).map fun _ => none else σ[i]?
  | [] => by simp [wipe]
  | v :: vs => by
    unfold wipe
    rw [List.getElem?_set]
    by_cases h : v = i
    · subst h
      simp only [List.mem_cons, true_or, if_true, wipe_length]
      by_cases hl : v < σ.length
      · simp [hl]
      · simp [hl]
    · rw [if_neg h, wipe_get]
      have : i ∈ v :: vs ↔ i ∈ vs := by simp [Ne.symm h]
      simp only [this]
theorem wipe_set {σ : L2.St} {i : Nat} {x : Option V} {vs : List Nat} (h : i ∈ vs) : wipe (σ.set i x) vs = wipe σ vs := by
  refine List.ext_getElem? fun j => ?_
  rw [wipe_get, wipe_get]
  by_cases hj : j ∈ vs
  · rw [if_pos hj, if_pos hj, List.getElem?_set]
    by_cases hij : i = j
    · subst hij
      simp only [if_true]
      by_cases hl : i < σ.length
      · simp [hl]
      · simp [hl]
    · rw [if_neg hij]
  · rw [if_neg hj, if_neg hj, List.getElem?_set_ne]
    rintro rfl
    exact hj h
theorem z_gn {i : Nat} {x : Str} (hN : X.N.Nodup) (hi : X.N[i]? = some x) (hx : Loc X.env.scope x) (hf : X.fn x = true ∨ X.env.scope.names.lookup x = some .local) : PG X (.Name x pos) (zG X (.nm i)) := by
  refine PGw (pg_name hN hi hx hf) fun v σ H Q ⟨d, ρ, S, m, ρ', s, r, e, q⟩ => ?_
  simp only [asg, Option.some.injEq] at e
  subst e
  exact q _ (s.set r) fun vs hv => wipe_set (hv i (by simp [gSlots]))
theorem z_gsN : PGs X [] (zGs X .nil) := PGsw pgs_nil fun v σ H Q ⟨d, ρ, S, m, ρ', s, r, e, q⟩ => by
  cases r with
  | nil =>
    simp only [asgs, Option.some.injEq] at e
    subst e
    exact ⟨rfl, q σ s fun _ _ => rfl⟩
  | cons _ _ => simp [asgs] at e
theorem z_gsC {e : Expr} {es : List Expr} {g : G} {gs : Gs} (h1 : PG X e (zG X g)) (h2 : PGs X es (zGs X gs)) (hs : noStar e = true) : PGs X (e :: es) (zGs X (.cons g gs)) := by
  refine PGsw (pgs_cons h1 h2 (by cases e <;> first | rfl | (cases hs; done))) fun v σ H Q ⟨d, ρ, S, m, ρ', s, r, e, q⟩ => ?_
  cases r with
  | nil => simp [asgs] at e
  | cons a b =>
    simp only [asgs, Option.bind_eq_some_iff] at e
    obtain ⟨ρ1, e1, e2⟩ := e
    refine ⟨_, _, rfl, _, ρ, S, m, ρ1, s, a, e1, fun σ1 s1 w1 => ⟨_, ρ1, S, m, ρ', s1, b, e2, fun σ2 s2 w2 => q σ2 s2 fun vs hv => ?_⟩⟩
    simp only [gsSlots, List.mem_append] at hv
    rw [w2 vs fun i hi => hv i (.inr hi), w1 vs fun i hi => hv i (.inl hi)]
theorem z_gt {es : List Expr} {k : Nat} {gs : Gs} (hc : X.calm = true) (h : PGs X es (zGs X gs)) (hs : ∀ e ∈ es, noStar e = true) (hl : ∀ xs ρ ρ', asgs gs xs ρ = some ρ' → xs.length = es.length) : PG X (.Tuple es k pos) (zG X (.tup gs)) := by
  have e1 : ∀ {l : List Expr}, (∀ e ∈ l, noStar e = true) → assignEach l X.env = l.map fun e => (false, assign e X.env) := by
    intro l
    induction l with
    | nil => intro _; rfl
    | cons a l ih =>
      intro hl
      have h1 := hl a List.mem_cons_self
      have h2 := ih fun x hx => hl x (List.mem_cons_of_mem _ hx)
      have : assignEach (a :: l) X.env = (false, assign a X.env) :: assignEach l X.env := by cases a <;> first | rfl | (cases h1; done)
      rw [this, h2]; rfl
  refine PGw (pg_tup (n := es.length) hc h (by rw [e1 hs]; simp) (by rw [e1 hs]; simp [List.findIdx?_eq_none_iff])) fun v σ H Q ⟨d, ρ, S, m, ρ', s, r, e, q⟩ => ?_
  cases r with
  | tup ht hr => exact ⟨_, _, rfl, ht, by rw [← hr.length]; exact hl _ _ _ (by simpa only [asg] using e), _, ρ, S, m, ρ', s, hr, by simpa only [asg] using e, fun σ' s' w => q σ' s' fun vs hv => w vs (by simpa only [gSlots] using hv)⟩
  | _ => simp [asg] at e
end
end Z
end
section
set_option Elab.async false
set_option linter.all false
set_option autoImplicit false
set_option maxRecDepth 100000
set_option maxHeartbeats 4000000
/-! Z5b: what is walked; list comprehensions. -/
namespace Z
open PySem PySem.Spec PyProof.Rows L2
abbrev relI (K : PySem.W.Frag) : RelT (Gd × List D) It := fun H m N p J => WZ K J p.1 p.2 H m N
abbrev zI (X : Cx) (cls : Str → Value) (W : XK) (z : Rho → Sto → R (Gd × List D)) : TI := tZ X.K cls W (relI X.K) z
section
variable {X : Cx} {cls : Str → Value} {W : XK} {Γ : Calls} {Co : Consts} {pos p : Pos} {tg : Expr}
theorem z_iE {l : Expr} {ze : Rho → Sto → R D} (hl : PE X l (zE X cls W ze)) : PI X tg l (zI X cls W fun ρ S => (ze ρ S).bind fun x S => match x with
    | .tup xs => .ok ([], xs) S
    | .ro xs => .ok ([], xs) S
    | .lst n => match S[n]? with
      | some xs => .ok ([(n, xs)], xs) S
      | none => .bad
    | .str z => .ok ([], z.cps.toList.map fun c => .str ⟨#[c]⟩) S
    | _ => .bad) := by
  refine ⟨fun pins s σ H R I ⟨ρ, S, m, st, o⟩ => ?_⟩
  refine thn (hl.run pins s σ H _ I (tZ_bind st o)) fun v s1 ⟨x, H1, I1, r1, a, S1, m1, p1⟩ => ?_
  have o1 := p1.out
  have rl := p1.rel
  cases rl with
  | @tup t ds vs ht hr =>
    cases r1
    obtain ⟨its, rv, pt, hz⟩ := I1.tuple ht
    refine wpAny_pyIter_tuple (show s1.heap.IsTuple t its.toArray from pt) ?_
    refine ⟨s1.heap.objs.size, [s1.heap.objs.size], _, _, H1, rfl, I1.kept (t' := s1.toks) fun b o e => Heap.get?_push_of_some _ e, turn_tuple t _, ⟨_, Heap.get?_push_size _ rfl, rfl, rfl⟩, fun b hb => ?_, o1.fin p1.sta.sto (wz_tup p1.sta.sto.tr ht hr)⟩
    have e : b = s1.heap.objs.size := by simpa using hb
    subst e
    exact I1.fpOk (Nat.le_refl _) (I1.hok.fresh (Nat.le_refl _))
  | @ro t ds vs ht hr =>
    cases r1
    obtain ⟨its, rv, pt, hz⟩ := I1.list ht.sq
    refine wpAny_pyIter_list pt.isList ?_
    refine ⟨s1.heap.objs.size, [s1.heap.objs.size], _, _, H1, rfl, I1.kept (t' := s1.toks) fun b o e => Heap.get?_push_of_some _ e, turn_list t _, ⟨_, Heap.get?_push_size _ rfl, rfl, rfl⟩, fun b hb => ?_, o1.fin p1.sta.sto (wz_ro p1.sta.sto.tr ht hr)⟩
    have e : b = s1.heap.objs.size := by simpa using hb
    subst e
    exact I1.fpOk (Nat.le_refl _) (I1.hok.fresh (Nat.le_refl _))
  | @lst n hn =>
    cases r1
    dsimp only at o1
    split at o1
    · rename_i xs e1
      obtain ⟨vs, q1, q2⟩ := p1.sta.sto.cell _ _ e1
      obtain ⟨its, rv, pt, hz⟩ := I1.list (SqL.of q1)
      refine wpAny_pyIter_list pt.isList ?_
      refine ⟨s1.heap.objs.size, [s1.heap.objs.size], _, _, H1, rfl, I1.kept (t' := s1.toks) fun b o e => Heap.get?_push_of_some _ e, turn_list (m1 n) _, ⟨_, Heap.get?_push_size _ rfl, rfl, rfl⟩, fun b hb => ?_, o1.fin p1.sta.sto (wz_list hn)⟩
      have e : b = s1.heap.objs.size := by simpa using hb
      subst e
      exact I1.fpOk (Nat.le_refl _) (I1.hok.fresh (Nat.le_refl _))
    · exact o1.elim
  | str z hz =>
    obtain ⟨t, rfl⟩ := r1
    have q := o1.fin p1.sta.sto (wz_str hz)
    cases ha : z.cps.all (· < 128)
    · exact wpAny_pyIter_wide ha (pi_one (tk := s1.toks) I1 _ (turn_str _ z t "str_iterator" (.inr rfl)) ⟨_, Heap.get?_push_size _ rfl, rfl, rfl⟩ q)
    · exact wpAny_pyIter_ascii ha (pi_one (tk := s1.toks) I1 _ (turn_str _ z t "str_ascii_iterator" (.inl rfl)) ⟨_, Heap.get?_push_size _ rfl, rfl, rfl⟩ q)
  | _ => exact o1.elim
theorem z_iR1 {a : Expr} {za : Rho → Sto → R D} (hg : Gl X "range") (hm : X.mg "range" = none) (hn : noStar a = true) (ha : PE X a (zE X cls W za)) :
    PI X tg (.Call (.Name "range" p) [a] [] pos) (zI X cls W fun ρ S => (za ρ S).bind fun x S => match x with
      | .int j => if bndOk j then .ok ([], rangeD 0 j.toNat) S else .bad
      | _ => .bad) := by
  refine PIw (pi_range1 hg hm (pa_cons ha pa_nil (star_cons hn)) (star_cons hn)) fun σ H R ⟨ρ, S, m, s, o⟩ => ?_
  refine (tZ_bind s o).mono fun x H1 ⟨a, S1, m1, p1⟩ => ?_
  have o1 := p1.out
  have r := p1.rel
  cases r with
  | int j =>
    dsimp only at o1
    split at o1
    · rename_i hb
      exact ⟨j, rfl, hb.1, hb.2, o1.fin p1.sta.sto wz_range⟩
    · exact o1.elim
  | _ => exact o1.elim
theorem z_iR2 {a b : Expr} {za zb : Rho → Sto → R D} (hg : Gl X "range") (hm : X.mg "range" = none) (hn : noStar a = true) (hn' : noStar b = true) (ha : PE X a (zE X cls W za)) (hb : PE X b (zE X cls W zb)) :
    PI X tg (.Call (.Name "range" p) [a, b] [] pos) (zI X cls W fun ρ S => (za ρ S).bind fun x S => (zb ρ S).bind fun y S => match x, y with
      | .int i, .int j => if bndOk i ∧ bndOk j then .ok ([], rangeD i (j - i).toNat) S else .bad
      | _, _ => .bad) := by
  have e2 : starEach [b] X.env = [(false, eval b X.env)] := star_cons hn'
  have e1 : starEach [a, b] X.env = [(false, eval a X.env), (false, eval b X.env)] := by rw [star_cons hn, e2]
  refine PIw (pi_range2 hg hm (pa_cons ha (pa_cons hb pa_nil (star_cons hn')) (star_cons hn)) e1 e2) fun σ H R ⟨ρ, S, m, s, o⟩ => ?_
  refine (tZ_bind s o).mono fun x H1 ⟨a, S1, m1, p1⟩ => (tZ_bind p1.sta p1.out).mono fun y H2 ⟨b, S2, m2, p2⟩ => ?_
  have o1 := p2.out
  have r := p1.rel
  have q := p2.rel
  cases r with
  | int i =>
    cases q with
    | int j =>
      dsimp only at o1
      split at o1
      · rename_i hb
        exact ⟨i, j, rfl, ⟨hb.1.1, hb.1.2, hb.2.1, hb.2.2⟩, o1.fin p2.sta.sto wz_range⟩
      · exact o1.elim
    | _ => exact o1.elim
  | _ => cases q <;> exact o1.elim
theorem z_iEn {e : Expr} {elts : List Expr} {kk : Nat} {tpos : Pos} {ze : Rho → Sto → R D} (hg : Gl X "enumerate") (hm : X.mg "enumerate" = none) (hn : noStar e = true) (he : PE X e (zE X cls W ze)) :
    PI X (.Tuple elts kk tpos) (.Call (.Name "enumerate" p) [e] [] pos) (zI X cls W fun ρ S => (ze ρ S).bind fun x S => match x with
      | .tup xs => .ok ([], enumD 0 xs) S
      | .ro xs => .ok ([], enumD 0 xs) S
      | .lst n => match S[n]? with
        | some xs => .ok ([(n, xs)], enumD 0 xs) S
        | none => .bad
      | _ => .bad) := by
  refine PIw (pi_enumA hg hm (pa_cons he pa_nil (star_cons hn)) (star_cons hn)) fun σ H R ⟨ρ, S, m, s, o⟩ => ?_
  refine (tZ_bind s o).mono fun x H1 ⟨a, S1, m1, p1⟩ => ?_
  have o1 := p1.out
  have r := p1.rel
  cases r with
  | tup ht hr => exact ⟨_, _, rfl, .inr ⟨ht, o1.fin p1.sta.sto (wz_enumT p1.sta.sto.tr ht hr)⟩⟩
  | ro ht hr => exact ⟨_, _, rfl, .inl ⟨ht.sq, o1.fin p1.sta.sto (wz_enumR p1.sta.sto.tr ht hr)⟩⟩
  | lst hn =>
    dsimp only at o1
    split at o1
    · rename_i xs e1
      obtain ⟨vs, q1, q2⟩ := p1.sta.sto.cell _ _ e1
      exact ⟨_, vs, rfl, .inl ⟨SqL.of q1, o1.fin p1.sta.sto (wz_enumL hn)⟩⟩
    · exact o1.elim
  | _ => exact o1.elim
theorem z_iZ {e e2 : Expr} {elts : List Expr} {kk : Nat} {tpos : Pos} {za zb : Rho → Sto → R D} (hg : Gl X "zip") (hm : X.mg "zip" = none) (hn : noStar e = true) (hn' : noStar e2 = true) (ha : PE X e (zE X cls W za)) (hb : PE X e2 (zE X cls W zb)) :
    PI X (.Tuple elts kk tpos) (.Call (.Name "zip" p) [e, e2] [] pos) (zI X cls W fun ρ S => (za ρ S).bind fun x S => (zb ρ S).bind fun y S => match x, y with
      | .tup xs, .tup ys => .ok ([], zipD xs ys) S
      | .lst m, .lst n => match S[m]?, S[n]? with
        | some xs, some ys => .ok ([(m, xs), (n, ys)], zipD xs ys) S
        | _, _ => .bad
      | _, _ => .bad) := by
  refine PIw (RZ.pi_zipA hg hm (pa_cons ha (pa_cons hb pa_nil (star_cons hn')) (star_cons hn)) (star_cons hn) (back_none fun x hx => by
    rcases List.mem_cons.mp hx with e | hx
    · rw [e]; exact hn'
    · exact nomatch hx)) fun σ H R ⟨ρ, S, m, s, o⟩ => ?_
  refine (tZ_bind s o).mono fun x H1 ⟨a, S1, m1, p1⟩ => (tZ_bind p1.sta p1.out).mono fun y H2 ⟨b, S2, m2, p2⟩ => ?_
  have o1 := p2.out
  have r := p1.rel.ext p1.sta.sto.tr p2.ext
  have q := p2.rel
  cases r with
  | tup ht hr =>
    cases q with
    | tup ht2 hr2 => exact ⟨_, _, _, _, rfl, .inr ⟨ht, ht2, o1.fin p2.sta.sto (wz_zipT p2.sta.sto.tr ht hr ht2 hr2)⟩⟩
    | _ => exact o1.elim
  | lst hn =>
    cases q with
    | lst hk =>
      dsimp only at o1
      split at o1
      · rename_i xs ys e1 e2
        obtain ⟨vs, q1, q2⟩ := p2.sta.sto.cell _ _ e1
        obtain ⟨ws, q3, q4⟩ := p2.sta.sto.cell _ _ e2
        exact ⟨_, _, vs, ws, rfl, .inl ⟨SqL.of q1, SqL.of q3, o1.fin p2.sta.sto (wz_zipL hn hk)⟩⟩
      · exact o1.elim
    | _ => exact o1.elim
  | _ => cases q <;> exact o1.elim
theorem z_iRev {e : Expr} {ze : Rho → Sto → R D} (hg : Gl X "reversed") (hm : X.mg "reversed" = none) (hn : noStar e = true) (he : PE X e (zE X cls W ze)) :
    PI X tg (.Call (.Name "reversed" p) [e] [] pos) (zI X cls W fun ρ S => (ze ρ S).bind fun x S => match x with
      | .tup xs => .ok ([], xs.reverse) S
      | .lst n => match S[n]? with
        | some xs => .ok ([(n, xs)], xs.reverse) S
        | none => .bad
      | _ => .bad) := by
  refine PIw (RT.pi_revA hg hm he (star_cons hn)) fun σ H R ⟨ρ, S, m, s, o⟩ => ?_
  refine (tZ_bind s o).mono fun x H1 ⟨a, S1, m1, p1⟩ => ?_
  have o1 := p1.out
  have r := p1.rel
  cases r with
  | tup ht hr =>
    refine ⟨_, _, rfl, .inr ⟨ht, ?_⟩⟩
    rw [← hr.length]
    exact o1.fin p1.sta.sto (wz_revT p1.sta.sto.tr ht hr)
  | lst hn =>
    dsimp only at o1
    split at o1
    · rename_i xs e1
      obtain ⟨vs, q1, q2⟩ := p1.sta.sto.cell _ _ e1
      refine ⟨_, vs, rfl, .inl ⟨SqL.of q1, ?_⟩⟩
      rw [← q2.length]
      exact o1.fin p1.sta.sto (wz_revL hn)
    · exact o1.elim
  | _ => exact o1.elim
theorem z_iR3 {a b c : Expr} {za zb zc : Rho → Sto → R D} (hg : Gl X "range") (hm : X.mg "range" = none) (hn : noStar a = true) (hn' : noStar b = true) (hn2 : noStar c = true) (ha : PE X a (zE X cls W za)) (hb : PE X b (zE X cls W zb)) (hc : PE X c (zE X cls W zc)) :
    PI X tg (.Call (.Name "range" p) [a, b, c] [] pos) (zI X cls W fun ρ S => (za ρ S).bind fun x S => (zb ρ S).bind fun y S => (zc ρ S).bind fun z S => match x, y, z with
      | .int i, .int j, .int c => if bndOk i ∧ bndOk j ∧ c = -1 then .ok ([], stepD (-1) i (i - j).toNat) S
          else if c ≠ 0 ∧ c.natAbs < 1073741824 ∧ Builtin.Range.small i j c = true ∧ Builtin.Range.rangeSize i j c = ((Builtin.Range.rangeSize i j c).toNat : Int) then .ok ([], stepD c i (Builtin.Range.rangeSize i j c).toNat) S else .bad
      | _, _, _ => .bad) := by
  refine PIw (pi_range3 hg hm (pa_cons ha (pa_cons hb (pa_cons hc pa_nil (star_cons hn2)) (star_cons hn')) (star_cons hn)) (star_cons hn) (back_none fun x hx => by
    rcases List.mem_cons.mp hx with e | hx
    · rw [e]; exact hn'
    · rcases List.mem_cons.mp hx with e | hx
      · rw [e]; exact hn2
      · exact nomatch hx)) fun σ H R ⟨ρ, S, m, s, o⟩ => ?_
  refine (tZ_bind s o).mono fun x H1 ⟨a, S1, m1, p1⟩ => (tZ_bind p1.sta p1.out).mono fun y H2 ⟨b, S2, m2, p2⟩ => (tZ_bind p2.sta p2.out).mono fun z H3 ⟨c, S3, m3, p3⟩ => ?_
  have o1 := p3.out
  have r := p1.rel
  have q := p2.rel
  have t := p3.rel
  cases r with
  | int i =>
    cases q with
    | int j =>
      cases t with
      | int k =>
        dsimp only at o1
        split at o1
        · rename_i hb
          obtain ⟨hb1, hb2, hb3⟩ := hb
          subst hb3
          exact ⟨i, j, -1, _, rfl, RgC.neg hb1.1 hb1.2 hb2.1 hb2.2, o1.fin p3.sta.sto wz_rangeC⟩
        · split at o1
          · rename_i hb
            exact ⟨i, j, k, _, rfl, ⟨hb.1, hb.2.1, hb.2.2.1, hb.2.2.2⟩, o1.fin p3.sta.sto wz_rangeC⟩
          · exact o1.elim
      | _ => exact o1.elim
    | _ => cases t <;> exact o1.elim
  | _ => cases q <;> cases t <;> exact o1.elim

/-! ### comprehensions -/
theorem sta_wipe {K : PySem.W.Frag} {σ : L2.St} {H : Hp} {ρ : Rho} {S : Sto} {m : Nat → Addr} (s : Sta K σ H ρ S m) : ∀ vs : List Nat, Sta K (wipe σ vs) H (wipeR ρ vs) S m
  | [] => s
  | v :: vs => by
    have ih := sta_wipe s vs
    unfold wipe wipeR
    refine ⟨by simp [ih.len], fun i d e => ?_, ih.sto⟩
    by_cases hi : i = v
    · subst hi
      by_cases hl : i < (wipeR ρ vs).length
      · rw [List.getElem?_set_self hl] at e; cases e
      · rw [List.getElem?_eq_none (by simpa using hl)] at e; cases e
    · rw [List.getElem?_set_ne (Ne.symm hi)] at e
      obtain ⟨w, h1, h2⟩ := ih.loc i d e
      exact ⟨w, by rw [List.getElem?_set_ne (Ne.symm hi)]; exact h1, h2⟩
theorem wipe_wipe {σ : L2.St} {vs : List Nat} : wipe (wipe σ vs) vs = wipe σ vs := by
  refine List.ext_getElem? fun j => ?_
  rw [wipe_get, wipe_get]
  by_cases hj : j ∈ vs
  · rw [if_pos hj, if_pos hj]
    cases σ[j]? <;> rfl
  · rw [if_neg hj, if_neg hj]
/-- a tracked list that the store does not have is changed -/
theorem sqT_upd {K : PySem.W.Frag} {H : Hp} {D a : Addr} {acc acc' vs : List V} (hD : H D = some (.lst acc)) (h : SqT K H a vs) : SqT K (upd H D (.lst acc')) a vs := by
  rcases h with (h | ⟨o, h⟩) | h
  · exact .inl (.inl (by rw [upd_ne (ne_of h hD (fun z => nomatch z))]; exact h))
  · exact .inl (.inr ⟨o, by rw [upd_ne (ne_of h hD (fun z => nomatch z))]; exact h⟩)
  · exact .inr h
theorem fz_upd {K : PySem.W.Frag} {H : Hp} {D a : Addr} {acc acc' vs : List V} (hD : H D = some (.lst acc)) (h : Fz K H a vs) : Fz K (upd H D (.lst acc')) a vs := by
  rcases h with ⟨o, h⟩ | h
  · exact .inl ⟨o, by rw [upd_ne (ne_of h hD (fun z => nomatch z))]; exact h⟩
  · exact .inr h
mutual
theorem RepD.updL {K : PySem.W.Frag} {H : Hp} {m : Nat → Addr} {N : Nat} {D : Addr} {acc acc' : List V} (hD : H D = some (.lst acc)) : ∀ {d : Z.D} {v : V}, RepD K H m N d v → RepD K (upd H D (.lst acc')) m N d v
  | _, _, .non => .non
  | _, _, .bl b => .bl b
  | _, _, .int i => .int i
  | _, _, .str y h => .str y h
  | _, _, .tup h r => .tup (sqT_upd hD h) (RepDs.updL hD r)
  | _, _, .lst h => .lst h
  | _, _, .ro h r => .ro (fz_upd hD h) (RepDs.updL hD r)
theorem RepDs.updL {K : PySem.W.Frag} {H : Hp} {m : Nat → Addr} {N : Nat} {D : Addr} {acc acc' : List V} (hD : H D = some (.lst acc)) : ∀ {d : List Z.D} {v : List V}, RepDs K H m N d v → RepDs K (upd H D (.lst acc')) m N d v
  | _, _, .nil => .nil
  | _, _, .cons a b => .cons (RepD.updL hD a) (RepDs.updL hD b)
end
theorem repS_updL {K : PySem.W.Frag} {H : Hp} {m : Nat → Addr} {S : Sto} {D : Addr} {acc acc' : List V} (hD : H D = some (.lst acc)) (hne : ∀ n, n < S.length → m n ≠ D) (r : RepS K H m S) : RepS K (upd H D (.lst acc')) m S :=
  ⟨fun n xs e => by
    obtain ⟨vs, h1, h2⟩ := r.cell n xs e
    exact ⟨vs, by rw [upd_ne (hne n (List.getElem?_eq_some_iff.mp e).1)]; exact h1, h2.updL hD⟩, r.inj⟩
theorem ext_updL {H H' : Hp} {m m' : Nat → Addr} {N N' : Nat} {D : Addr} {o : HO} (x : Ext H m N H' m' N') (h0 : H D = none) : Ext H m N (upd H' D o) m' N' :=
  ⟨x.le, x.same, fun a u e hn => by rw [upd_ne (ne_of_none e h0)]; exact x.frame a u e hn, x.fresh⟩
theorem lc_out {own : List (Str × Nat)} {zi : Rho → Sto → R (Gd × List D)} {g : G} {zt : Rho → Sto → R Bool} {ze : Rho → Sto → R D} (hgo : ∀ i ∈ gSlots g, i ∈ own.map (·.2)) {σ : L2.St} {H : Hp} {Q : VK}
    (h : zE X cls W (fun ρ S => (zi ρ S).bind fun p S => ((lcF p.1 (fun x S => match asg g x (wipeR ρ (own.map (·.2))) with
      | none => .bad
      | some ρ => (zt ρ S).bind fun b S => if b = true then (ze ρ S).bind fun v S => .ok (some v) S else .ok none S) p.2 S).bind fun vs S => newL vs S).calm) σ H Q) :
    tLc (zI X cls W zi) (zG X g) (zT X cls (fun _ _ _ => False) zt) (zE X cls (fun _ _ _ => False) ze) (own.map (·.2)) σ H Q := by
  obtain ⟨ρ, S, m, st, o⟩ := h
  refine (tZ_bind st o).mono fun J H1 ⟨⟨gd, xs⟩, S1, m1, p1⟩ D hD => ?_
  have o1 := p1.out
  have wz : WZ X.K J gd xs H1 m1 S1.length := p1.rel
  have st1 := p1.sta
  clear o p1 st
  generalize hB : (fun (x : Z.D) (S : Sto) => match asg g x (wipeR ρ (own.map (·.2))) with
      | none => (R.bad : R (Option Z.D))
      | some ρ => (zt ρ S).bind fun b S => if b = true then (ze ρ S).bind fun v S => .ok (some v) S else .ok none S) = B at o1
  dsimp only at o1
  cases el : lcF gd B xs S1 with
  | bad => rw [el] at o1; exact o1.elim
  | exc c fs S' => rw [el] at o1; exact o1.elim
  | ok tot Sf =>
    rw [el] at o1
    simp only [R.bind_ok] at o1
    have hlen : tot.length ≤ sizeLine := by
      unfold newL at o1
      by_cases h : tot.length ≤ sizeLine
      · exact h
      · rw [if_neg h] at o1; exact o1.elim
    have hQ : ∀ (b : V) (H' : Hp) (m' : Nat → Addr), Ext H1 m1 S1.length H' m' (Sf ++ [tot]).length → RepS X.K H' m' (Sf ++ [tot]) → RepD X.K H' m' (Sf ++ [tot]).length (.lst Sf.length) b → Q b H' := by
      unfold newL at o1
      rw [if_pos hlen] at o1
      exact o1
    clear o1
    have ht1 := st1.sto.tr
    refine ⟨fun i k H => k = xs.length - i ∧ i ≤ xs.length ∧ ∃ S m acc ra rest, Ext H1 m1 S1.length H m S.length ∧ RepS X.K H m S ∧ H D = some (.lst acc) ∧ (∀ n, n < S.length → m n ≠ D) ∧ RepDs X.K H m S.length ra acc ∧
        lcF gd B (xs.drop i) S = .ok rest Sf ∧ ra ++ rest = tot, ⟨xs.length, by simp, Nat.zero_le _, S1, m1, [], [], tot, ?_, ?_, upd_same, ?_, .nil, ?_, rfl⟩, ?_⟩
    · exact ext_new hD
    · exact st1.sto.new hD
    · intro n hn
      obtain ⟨vs, e⟩ := ht1 n hn
      exact ne_of_none e hD
    · rw [List.drop_zero]; exact el
    · rintro i k H ⟨rfl, hin, S, m, acc, ra, rest, x, rs, hDa, hne, rra, el2, etot⟩
      -- the guarded lists stand
      have hchk : chk gd S = true := by
        cases hx : xs.drop i with
        | nil =>
          rw [hx] at el2
          unfold lcF at el2
          split at el2
          · assumption
          · cases el2
        | cons y ys =>
          rw [hx] at el2
          unfold lcF at el2
          split at el2
          · assumption
          · cases el2
      by_cases hlt : i < xs.length
      · refine .inr ⟨wz.go i H m S hlt x rs hchk, fun H' => ∃ S m acc ra rest, Ext H1 m1 S1.length H' m S.length ∧ RepS X.K H' m S ∧ H' D = some (.lst acc) ∧ (∀ n, n < S.length → m n ≠ D) ∧ RepDs X.K H' m S.length ra acc ∧
            lcF gd B (xs.drop (i + 1)) S = .ok rest Sf ∧ ra ++ rest = tot, fun H' h => ⟨xs.length - (i + 1), by omega, rfl, hlt, h⟩, fun v H' y => ?_⟩
        obtain ⟨d, hd, x2, rs2, rd⟩ := wz.yld i H m S v H' hlt x rs hchk y
        have ed : xs.drop i = d :: xs.drop (i + 1) := by
          rw [List.drop_eq_getElem_cons hlt]
          rw [List.getElem?_eq_getElem hlt] at hd
          rw [Option.some.inj hd]
        rw [ed] at el2
        unfold lcF at el2
        rw [if_pos hchk] at el2
        -- the state at the turn
        have x3 := x.trans rs.tr x2
        have stw : Sta X.K (wipe σ (own.map (·.2))) H' (wipeR ρ (own.map (·.2))) S m := sta_wipe (st1.ext x3 rs2) _
        have hDa' : H' D = some (.lst acc) := x2.frame D _ hDa hne
        have rra' := rra.ext rs.tr x2
        cases ea : asg g d (wipeR ρ (own.map (·.2))) with
        | none =>
          have : B d S = .bad := by rw [← hB]; dsimp only; rw [ea]
          rw [this] at el2
          cases el2
        | some ρ' =>
          have eb : B d S = (zt ρ' S).bind fun b S => if b = true then (ze ρ' S).bind fun v S => .ok (some v) S else .ok none S := by rw [← hB]; dsimp only; rw [ea]
          rw [eb] at el2
          refine ⟨d, _, S, m, ρ', stw, rd, ea, fun σ' s' w => ⟨?_, ?_⟩⟩
          · rw [w _ hgo, wipe_wipe]
          · refine ⟨ρ', S, m, s', ?_⟩
            cases et : zt ρ' S with
            | bad => rw [et] at el2; cases el2
            | exc c fs S' => rw [et] at el2; cases el2
            | ok b S2 =>
              rw [et] at el2
              simp only [R.bind_ok] at el2
              rintro b' H2 m2 x4 rs3 rfl
              have hne2 : ∀ n, n < S2.length → m2 n ≠ D := fun n hn z => by
                by_cases hn1 : n < S.length
                · rw [x4.same n hn1] at z; exact hne n hn1 z
                · have := x4.fresh n (Nat.le_of_not_lt hn1) hn
                  rw [z, hDa'] at this; cases this
              have hDa2 : H2 D = some (.lst acc) := x4.frame D _ hDa' hne
              have rra2 := rra'.ext rs2.tr x4
              have x5 := x3.trans rs2.tr x4
              cases b with
              | false =>
                simp only [Bool.false_eq_true, if_false, R.bind_ok] at el2 ⊢
                cases er : lcF gd B (xs.drop (i + 1)) S2 with
                | bad => rw [er] at el2; cases el2
                | exc c fs S' => rw [er] at el2; cases el2
                | ok vs S3 =>
                  rw [er] at el2
                  simp only [R.bind_ok, R.ok.injEq] at el2
                  obtain ⟨e1, e2⟩ := el2
                  subst e1 e2
                  exact ⟨S2, m2, acc, ra, vs, x5, rs3, hDa2, hne2, rra2, er, etot⟩
              | true =>
                simp only [if_true] at el2 ⊢
                have s2 := s'.ext x4 rs3
                refine ⟨ρ', S2, m2, s2, ?_⟩
                cases ev : ze ρ' S2 with
                | bad => rw [ev] at el2; cases el2
                | exc c fs S' => rw [ev] at el2; cases el2
                | ok y S3 =>
                  rw [ev] at el2
                  simp only [R.bind_ok] at el2
                  intro yv H3 m3 x6 rs4 ry
                  have hne3 : ∀ n, n < S3.length → m3 n ≠ D := fun n hn z => by
                    by_cases hn1 : n < S2.length
                    · rw [x6.same n hn1] at z; exact hne2 n hn1 z
                    · have := x6.fresh n (Nat.le_of_not_lt hn1) hn
                      rw [z, hDa2] at this; cases this
                  have hDa3 : H3 D = some (.lst acc) := x6.frame D _ hDa2 hne2
                  have rra3 := rra2.ext rs3.tr x6
                  have x7 := x5.trans rs3.tr x6
                  cases er : lcF gd B (xs.drop (i + 1)) S3 with
                  | bad => rw [er] at el2; cases el2
                  | exc c fs S' => rw [er] at el2; cases el2
                  | ok vs S4 =>
                    rw [er] at el2
                    simp only [R.bind_ok, R.ok.injEq] at el2
                    obtain ⟨e1, e2⟩ := el2
                    subst e1 e2
                    refine ⟨acc, hDa3, ?_, S3, m3, acc ++ [yv], ra ++ [y], vs, ext_updL x7 hD, repS_updL hDa3 hne3 rs4, upd_same, hne3, (rra3.append (.cons ry .nil)).updL hDa3, er, ?_⟩
                    · have h1 := rra3.length
                      have h2 := congrArg List.length etot
                      simp only [List.length_append, List.length_cons] at h2
                      omega
                    · rw [List.append_assoc]; exact etot
      · have ei : i = xs.length := by omega
        subst ei
        rw [List.drop_length] at el2
        unfold lcF at el2
        rw [if_pos hchk] at el2
        simp only [R.ok.injEq] at el2
        obtain ⟨e1, e2⟩ := el2
        subst e1 e2
        rw [List.append_nil] at etot
        subst etot
        refine .inl ⟨wz.stop H m S x rs hchk, ?_⟩
        have hl : (S ++ [ra]).length = S.length + 1 := by simp
        have q := hQ (.ref (push m S.length D S.length)) H (push m S.length D) ?_ ?_ (.lst (by rw [hl]; exact Nat.lt_succ_self _))
        · rw [push_self] at q; exact q
        · rw [hl]
          exact ⟨Nat.le_succ_of_le x.le, fun n hn => by rw [push_lt (Nat.lt_of_lt_of_le hn x.le)]; exact x.same n hn, x.frame, fun n h1 h2 => by
            by_cases h3 : n < S.length
            · rw [push_lt h3]; exact x.fresh n h1 h3
            · have : n = S.length := by omega
              subst this
              rw [push_self]; exact hD⟩
        · refine ⟨fun n ys e => ?_, fun i j hi hj e => ?_⟩
          · rw [hl]
            by_cases hn : n < S.length
            · rw [List.getElem?_append_left hn] at e
              obtain ⟨vs, h1, h2⟩ := rs.cell n ys e
              exact ⟨vs, by rw [push_lt hn]; exact h1, h2.widen (fun n hn => push_lt hn) (Nat.le_succ _)⟩
            · have hn2 : n = S.length := by
                have := (List.getElem?_eq_some_iff.mp e).1
                rw [hl] at this
                omega
              subst hn2
              rw [List.getElem?_append_right (Nat.le_refl _)] at e
              simp at e
              subst e
              exact ⟨acc, by rw [push_self]; exact hDa, rra.widen (fun n hn => push_lt hn) (Nat.le_succ _)⟩
          · rw [hl] at hi hj
            by_cases h1 : i < S.length
            · by_cases h2 : j < S.length
              · rw [push_lt h1, push_lt h2] at e
                exact rs.inj i j h1 h2 e
              · have e2 : j = S.length := by omega
                subst e2
                rw [push_lt h1, push_self] at e
                exact absurd e (hne i h1)
            · have e1 : i = S.length := by omega
              by_cases h2 : j < S.length
              · subst e1
                rw [push_lt h2, push_self] at e
                exact absurd e.symm (hne j h2)
              · omega
theorem z_lc {elt iter : Expr} {ifs : List Expr} {scope : Scope} {own : List (Str × Nat)} {zi : Rho → Sto → R (Gd × List D)} {g : G} {zt : Rho → Sto → R Bool} {ze : Rho → Sto → R D}
    (hc : X.calm = true) (hN : X.N.Nodup) (hi : PI X tg iter (zI X cls W zi)) (ok : BlkOk X.N X.env.scope scope own)
    (hg : ∀ (s : Shared) (H : Hp) (C : Addr) (cl : List (Str × Addr)) (fp : List Addr), PG (X.blk s H scope (compEnvC scope cl C X.env) fp) tg (zG X g))
    (ht : ∀ (s : Shared) (H : Hp) (C : Addr) (cl : List (Str × Addr)) (fp : List Addr), PTs (X.blk s H scope (compEnvC scope cl C X.env) fp) ifs (zT X cls (fun _ _ _ => False) zt))
    (he : ∀ (s : Shared) (H : Hp) (C : Addr) (cl : List (Str × Addr)) (fp : List Addr), PE (X.blk s H scope (compEnvC scope cl C X.env) fp) elt (zE X cls (fun _ _ _ => False) ze))
    (hs : ∀ x, foldedSetIterable iter X.env x = pure x) (hgo : ∀ i ∈ gSlots g, i ∈ own.map (·.2)) :
    PE X (.ListComp elt [⟨tg, iter, ifs, 0⟩] scope pos) (zE X cls W fun ρ S => (zi ρ S).bind fun p S => ((lcF p.1 (fun x S => match asg g x (wipeR ρ (own.map (·.2))) with
      | none => .bad
      | some ρ => (zt ρ S).bind fun b S => if b = true then (ze ρ S).bind fun v S => .ok (some v) S else .ok none S) p.2 S).bind fun vs S => newL vs S).calm) := by
  exact PEw (pe_lc hc hN hi ok hg ht he hs) fun σ H Q h => lc_out hgo h
end
end Z
end
section
set_option Elab.async false
set_option linter.all false
set_option autoImplicit false
set_option maxRecDepth 100000
set_option maxHeartbeats 4000000
/-! Z5c: statements. -/
namespace Z
open PySem PySem.Spec PyProof.Rows L2
section
variable (K : PySem.W.Frag) (cls : Str → Value) (W : XK)
/-- how a statement's end is met -/
def FO (Dn : Ends) (H : Hp) (m : Nat → Addr) (N : Nat) : F → Prop
  | .nx ρ S => ∀ (σ : L2.St) (H' : Hp) (m' : Nat → Addr), Ext H m N H' m' S.length → Sta K σ H' ρ S m' → Dn.nx σ H'
  | .rt d S => ∀ (v : V) (H' : Hp) (m' : Nat → Addr), Ext H m N H' m' S.length → RepS K H' m' S → RepD K H' m' S.length d v → Dn.rt v H'
  | .bk ρ S => ∀ (σ : L2.St) (H' : Hp) (m' : Nat → Addr), Ext H m N H' m' S.length → Sta K σ H' ρ S m' → Dn.bk σ H'
  | .ct ρ S => ∀ (σ : L2.St) (H' : Hp) (m' : Nat → Addr), Ext H m N H' m' S.length → Sta K σ H' ρ S m' → Dn.ct σ H'
  | .exc c fs S => ExcW K cls W H m N c fs S
  | .bad => False
end
/-- a statement's reading by what is computed -/
def zS (X : Cx) (cls : Str → Value) (W : XK) (z : Rho → Sto → F) : TS := fun Dn σ H => ∃ ρ S m, Sta X.K σ H ρ S m ∧ FO X.K cls W Dn H m S.length (z ρ S)
section
variable {K : PySem.W.Frag} {cls : Str → Value} {W : XK} {H H1 : Hp} {m m1 : Nat → Addr} {N N1 : Nat} {S S1 : Sto} {σ : L2.St} {ρ : Rho} {α β : Type} {Rel : RelT α β} {Dn Dn' : Ends}
theorem FO.pull {f : F} (h : FO K cls W Dn H m N f) (x : Ext H m N H1 m1 N1) (t : TrL H1 m1 N1) : FO K cls W Dn H1 m1 N1 f := by
  cases f with
  | nx ρ S => exact fun σ H' m' e s => h σ H' m' (x.trans t e) s
  | bk ρ S => exact fun σ H' m' e s => h σ H' m' (x.trans t e) s
  | ct ρ S => exact fun σ H' m' e s => h σ H' m' (x.trans t e) s
  | rt d S => exact fun v H' m' e r q => h v H' m' (x.trans t e) r q
  | exc c fs S => exact fun d H' m' fvs e r q1 q2 => h d H' m' fvs (x.trans t e) r q1 q2
  | bad => exact h
/-- the parts of a statement: an expression, then the rest -/
structure BehF (K : PySem.W.Frag) (cls : Str → Value) (W : XK) (Rel : RelT α β) (Dn : Ends) (σ : L2.St) (ρ : Rho) (H : Hp) (m : Nat → Addr) (N : Nat) (k : α → Sto → F) (a : α) (S1 : Sto) (m1 : Nat → Addr) (b : β) (H1 : Hp) : Prop where
  ext : Ext H m N H1 m1 S1.length
  sta : Sta K σ H1 ρ S1 m1
  rel : Rel H1 m1 S1.length a b
  out : FO K cls W Dn H1 m1 S1.length (k a S1)
theorem tZ_toF {z : Rho → Sto → R α} {k : α → Sto → F} (s : Sta K σ H ρ S m) (h : FO K cls W Dn H m S.length ((z ρ S).toF k)) :
    tZ K cls W Rel z σ H fun b H1 => ∃ a S1 m1, BehF K cls W Rel Dn σ ρ H m S.length k a S1 m1 b H1 := by
  refine ⟨ρ, S, m, s, ?_⟩
  cases e : z ρ S with
  | ok a S' =>
    rw [e] at h
    exact fun b H' m' x r q => ⟨a, S', m', x, s.ext x r, q, h.pull x r.tr⟩
  | exc c fs S' => rw [e] at h; exact h
  | bad => rw [e] at h; exact h
theorem FO.fin (h : FO K cls W Dn H m S.length (.nx ρ S)) (s : Sta K σ H ρ S m) : Dn.nx σ H := h σ H m Ext.refl s
end
section
variable {X : Cx} {cls : Str → Value} {W : XK} {Γ : Calls} {Co : Consts} {pos p : Pos} {tg : Expr}
theorem PSw {e : Stmt} {t t' : TS} (h : PS X e t) (hw : ∀ D σ H, t' D σ H → t D σ H) : PS X e t' := ⟨fun pins s σ H D I q => h.run pins s σ H D I (hw _ _ _ q)⟩
theorem PSsw {e : List Stmt} {t t' : TS} (h : PSs X e t) (hw : ∀ D σ H, t' D σ H → t D σ H) : PSs X e t' := ⟨fun pins s σ H D I q => h.run pins s σ H D I (hw _ _ _ q)⟩
theorem s_nx {st : Stmt} (h : PS X st tNext) : PS X st (zS X cls W fun ρ S => .nx ρ S) := PSw h fun D σ H ⟨ρ, S, m, s, o⟩ => o.fin s
theorem s_brk : PS X (.Break pos) (zS X cls W fun ρ S => .bk ρ S) := PSw ps_break fun D σ H ⟨ρ, S, m, s, o⟩ => o σ H m Ext.refl s
theorem s_cont : PS X (.Continue pos) (zS X cls W fun ρ S => .ct ρ S) := PSw ps_continue fun D σ H ⟨ρ, S, m, s, o⟩ => o σ H m Ext.refl s
theorem s_retN : PS X (.Return none pos) (zS X cls W fun _ S => .rt .non S) := PSw ps_retN fun D σ H ⟨ρ, S, m, s, o⟩ => o _ H m Ext.refl s.sto .non
theorem s_ret {e : Expr} {ze : Rho → Sto → R D} (he : PE X e (zE X cls W ze)) : PS X (.Return (some e) pos) (zS X cls W fun ρ S => (ze ρ S).toF fun x S => .rt x S) :=
  PSw (ps_ret he) fun D σ H ⟨ρ, S, m, s, o⟩ => (tZ_toF s o).mono fun v H1 ⟨a, S1, m1, p1⟩ => p1.out v H1 m1 Ext.refl p1.sta.sto p1.rel
theorem s_expr {e : Expr} {ze : Rho → Sto → R D} (he : PE X e (zE X cls W ze)) (hs : swapsWith e none pos.line X.env = pure false) : PS X (.Expr e pos) (zS X cls W fun ρ S => (ze ρ S).toF fun _ S => .nx ρ S) :=
  PSw (ps_expr he hs) fun D σ H ⟨ρ, S, m, s, o⟩ => (tZ_toF s o).mono fun v H1 ⟨a, S1, m1, p1⟩ => p1.out.fin p1.sta
theorem s_if {c : Expr} {a b : List Stmt} {zc : Rho → Sto → R Bool} {za zb : Rho → Sto → F} (hc : PT X c (zT X cls W zc)) (ha : PSs X a (zS X cls W za)) (hb : PSs X b (zS X cls W zb)) :
    PS X (.If c a b pos) (zS X cls W fun ρ S => (zc ρ S).toF fun t S => if t = true then za ρ S else zb ρ S) :=
  PSw (ps_if hc ha hb) fun D σ H ⟨ρ, S, m, s, o⟩ => (tZ_toF s o).mono fun v H1 ⟨a, S1, m1, p1⟩ => by
    have o1 := p1.out
    have e : a = v := p1.rel
    subst e
    cases a with
    | true => exact ⟨ρ, S1, m1, p1.sta, o1⟩
    | false => exact ⟨ρ, S1, m1, p1.sta, o1⟩
theorem s_nil : PSs X [] (zS X cls W fun ρ S => .nx ρ S) := PSsw pss_nil fun D σ H ⟨ρ, S, m, s, o⟩ => o.fin s
theorem s_cons {st : Stmt} {sts : List Stmt} {z zs : Rho → Sto → F} (h : PS X st (zS X cls W z)) (hs : PSs X sts (zS X cls W zs)) : PSs X (st :: sts) (zS X cls W fun ρ S => (z ρ S).then zs) :=
  PSsw (pss_cons h hs) fun D σ H ⟨ρ, S, m, s, o⟩ => by
    refine ⟨ρ, S, m, s, ?_⟩
    try dsimp only at o
    cases e : z ρ S with
    | nx ρ1 S1 =>
      rw [e] at o
      exact fun σ1 H1 m1 x s1 => ⟨ρ1, S1, m1, s1, o.pull x s1.sto.tr⟩
    | _ => rw [e] at o; exact o
theorem set_pull {i : Nat} {ze : Rho → Sto → R D} {Dn : Ends} {σ : L2.St} {H : Hp} (h : zS X cls W (fun ρ S => (ze ρ S).toF fun x S => .nx (ρ.set i (some x)) S) Dn σ H) : zE X cls W ze σ H fun x H1 => Dn.nx (σ.set i (some x)) H1 := by
  obtain ⟨ρ, S, m, s, o⟩ := h
  exact (tZ_toF s o).mono fun v H1 ⟨a, S1, m1, p1⟩ => p1.out.fin (p1.sta.set p1.rel)
theorem s_set {i : Nat} {x : Str} {e : Expr} {pos' : Pos} {ze : Rho → Sto → R D} (hN : X.N.Nodup) (hi : X.N[i]? = some x) (hx : Loc X.env.scope x) (he : PE X e (zE X cls W ze)) (hs : swapsWith e (some (.Name x pos')) pos.line X.env = pure false) (hf : X.fn x = true ∨ X.env.scope.names.lookup x = some .local) :
    PS X (.Assign [.Name x pos'] e pos) (zS X cls W fun ρ S => (ze ρ S).toF fun x S => .nx (ρ.set i (some x)) S) :=
  PSw (ps_set hN hi hx he hs hf) fun D σ H h => set_pull h
theorem s_setLc {i : Nat} {y : Str} {py : Pos} {elt iter : Expr} {ifs : List Expr} {scope : Scope} {own : List (Str × Nat)} {spos : Pos} {zi : Rho → Sto → R (Gd × List D)} {g : G} {zt : Rho → Sto → R Bool} {ze : Rho → Sto → R D}
    (hc : X.calm = true) (hN : X.N.Nodup) (hy : X.N[i]? = some y) (hyl : X.env.scope.names.lookup y = some .local)
    (hsw : swapsWith (.ListComp elt [⟨tg, iter, ifs, 0⟩] scope pos) (some (.Name y py)) spos.line X.env = pure true) (hi : PI X tg iter (zI X cls W zi)) (ok : BlkOk X.N X.env.scope scope own)
    (hg : ∀ (s : Shared) (H : Hp) (C : Addr) (cl : List (Str × Addr)) (fp : List Addr), PG (X.blk s H scope (compEnvC scope cl C X.env) fp) tg (zG X g))
    (ht : ∀ (s : Shared) (H : Hp) (C : Addr) (cl : List (Str × Addr)) (fp : List Addr), PTs (X.blk s H scope (compEnvC scope cl C X.env) fp) ifs (zT X cls (fun _ _ _ => False) zt))
    (he : ∀ (s : Shared) (H : Hp) (C : Addr) (cl : List (Str × Addr)) (fp : List Addr), PE (X.blk s H scope (compEnvC scope cl C X.env) fp) elt (zE X cls (fun _ _ _ => False) ze))
    (hs : ∀ x, foldedSetIterable iter X.env x = pure x) (hgo : ∀ i ∈ gSlots g, i ∈ own.map (·.2)) :
    PS X (.Assign [.Name y py] (.ListComp elt [⟨tg, iter, ifs, 0⟩] scope pos) spos) (zS X cls W fun ρ S => ((zi ρ S).bind fun p S => ((lcF p.1 (fun x S => match asg g x (wipeR ρ (own.map (·.2))) with
      | none => .bad
      | some ρ => (zt ρ S).bind fun b S => if b = true then (ze ρ S).bind fun v S => .ok (some v) S else .ok none S) p.2 S).bind fun vs S => newL vs S).calm).toF fun x S => .nx (ρ.set i (some x)) S) :=
  PSw (ps_setLc hc hN hy hyl hsw hi ok hg ht he hs) fun D σ H h => lc_out hgo (set_pull h)
theorem s_tset {e : Expr} {ze : Rho → Sto → R D} {g : G} (he : PE X e (zE X cls W ze)) (hg : PG X tg (zG X g)) (hs : swapsWithSole [tg] e pos.line X.env = pure false) (hw : swappedStores [tg] e X.env = pure none) (h1 : noStar tg = true) :
    PS X (.Assign [tg] e pos) (zS X cls W fun ρ S => (ze ρ S).toF fun x S => match asg g x ρ with
      | some ρ => .nx ρ S
      | none => .bad) :=
  PSw (ps_asg he hg hs hw (by cases tg <;> first | rfl | (cases h1; done))) fun D σ H ⟨ρ, S, m, s, o⟩ => (tZ_toF s o).mono fun v H1 ⟨a, S1, m1, p1⟩ => by
    have o1 := p1.out
    try dsimp only at o1
    split at o1
    · rename_i ρ1 e1
      exact ⟨a, ρ, S1, m1, ρ1, p1.sta, p1.rel, e1, fun σ' s' _ => o1.fin s'⟩
    · exact o1.elim
theorem s_setix {ob i e : Expr} {zo zi ze : Rho → Sto → R D} {pos' : Pos} (hp : ∀ v, assign (.Subscript ob i pos') X.env v = (do
      let ov ← holding [v] (eval ob X.env)
      let iv ← holding [v, ov] (eval i X.env)
      standAt pos'
      holding [v, ov, iv] (setItem ov iv v)
      release [v, ov, iv] [])) (ho : PE X ob (zE X cls W zo)) (hi : PE X i (zE X cls W zi)) (he : PE X e (zE X cls W ze)) (hs : swapsWithSole [.Subscript ob i pos'] e pos.line X.env = pure false) (hw : swappedStores [.Subscript ob i pos'] e X.env = pure none) :
    PS X (.Assign [.Subscript ob i pos'] e pos) (zS X cls W fun ρ S => (ze ρ S).toF fun v S => (zo ρ S).toF fun o S => (zi ρ S).toF fun i S => match setIxR o i v S with
      | some S => .nx ρ S
      | none => .bad) :=
  PSw (ps_asg he (pg_sub ho hi set_Z hp) hs hw rfl) fun D σ H ⟨ρ, S, m, s, o⟩ => (tZ_toF s o).mono fun v H1 ⟨a, S1, m1, p1⟩ => by
    show gSub _ _ _ _ _ _ _
    exact (tZ_toF p1.sta p1.out).mono fun ov H2 ⟨b, S2, m2, p2⟩ => (tZ_toF p2.sta p2.out).mono fun iv H3 ⟨c, S3, m3, p3⟩ => by
      have o3 := p3.out
      try dsimp only at o3
      split at o3
      · rename_i S4 e4
        exact ⟨b, c, a, S3, m3, S4, p3.sta.sto, p2.rel.ext p2.sta.sto.tr p3.ext, p3.rel, (p1.rel.ext p1.sta.sto.tr p2.ext).ext p2.sta.sto.tr p3.ext, e4, fun H' x r => o3 σ H' m3 x (p3.sta.ext x r)⟩
      · exact o3.elim
theorem s_aug {i : Nat} {x : Str} {e : Expr} {pos' : Pos} {ze : Rho → Sto → R D} (op : BOp) (hN : X.N.Nodup) (hi : X.N[i]? = some x) (hx : Loc X.env.scope x) (he : PE X e (zE X cls W ze)) (hf : X.fn x = true ∨ X.env.scope.names.lookup x = some .local) :
    PS X (.AugAssign (.Name x pos') op.py e pos) (zS X cls W fun ρ S => match ρ[i]? with
      | some (some x) => (ze ρ S).toF fun y S => (augR op x y S).toF fun z S => .nx (ρ.set i (some z)) S
      | _ => .bad) :=
  PSw (ps_aug hN hi hx he (op_augZ (cls := cls) (W := W) op) hf) fun D σ H ⟨ρ, S, m, s, o⟩ => by
    try dsimp only at o
    split at o
    · rename_i d e1
      obtain ⟨v, h1, h2⟩ := s.loc i d e1
      refine ⟨v, h1, (tZ_toF s o).mono fun y H1 ⟨a, S1, m1, p1⟩ => ?_⟩
      have o1 := p1.out
      refine ⟨d, a, S1, m1, p1.sta.sto, h2.ext s.sto.tr p1.ext, p1.rel, ?_⟩
      try dsimp only at o1
      cases e2 : augR op d a S1 with
      | bad => rw [e2] at o1; exact o1
      | exc c fs S' => rw [e2] at o1; exact o1
      | ok z S2 =>
        rw [e2] at o1
        exact fun b H' m' x r q => o1 _ H' m' x ((p1.sta.ext x r).set q)
    · exact o.elim
theorem s_augix {ob i e : Expr} {zo zi ze : Rho → Sto → R D} {tpos : Pos} (op : BOp) (ha : ∀ ov iv new, augStore i ov iv new = (do holding [new, ov, iv] (setItem ov iv new); release [new, ov, iv] []; pure .next))
    (ho : PE X ob (zE X cls W zo)) (hi : PE X i (zE X cls W zi)) (he : PE X e (zE X cls W ze)) :
    PS X (.AugAssign (.Subscript ob i tpos) op.py e pos) (zS X cls W fun ρ S => (zo ρ S).toF fun o S => (zi ρ S).toF fun i S => (ixL o i S).toF fun x S => (ze ρ S).toF fun y S => (augR op x y S).toF fun z S => match setIxR o i z S with
      | some S => .nx ρ S
      | none => .bad) :=
  PSw (ps_augS ho hi (get_Z (cls := cls) (W := W)) he (op_augZ (cls := cls) (W := W) op) set_Z ha) fun D σ H ⟨ρ, S, m, s, o⟩ => by
    refine (tZ_toF s o).mono fun ov H1 ⟨a, S1, m1, p1⟩ => (tZ_toF p1.sta p1.out).mono fun iv H2 ⟨b, S2, m2, p2⟩ => ?_
    have ra := p1.rel.ext p1.sta.sto.tr p2.ext
    refine ⟨a, b, S2, m2, p2.sta.sto, ra, p2.rel, ?_⟩
    have o2 := p2.out
    try dsimp only at o2
    cases e2 : ixL a b S2 with
    | bad => rw [e2] at o2; exact o2
    | exc c fs S' => rw [e2] at o2; exact o2
    | ok x S3 =>
      rw [e2] at o2
      simp only [R.toF_ok] at o2
      intro xv H3 m3 x3 r3 rx
      have s3 := p2.sta.ext x3 r3
      refine (tZ_toF s3 (o2.pull x3 r3.tr)).mono fun yv H4 ⟨y, S4, m4, p4⟩ => ?_
      refine ⟨x, y, S4, m4, p4.sta.sto, rx.ext r3.tr p4.ext, p4.rel, ?_⟩
      have o4 := p4.out
      try dsimp only at o4
      cases e4 : augR op x y S4 with
      | bad => rw [e4] at o4; exact o4
      | exc c fs S' => rw [e4] at o4; exact o4
      | ok z S5 =>
        rw [e4] at o4
        simp only [R.toF_ok] at o4
        intro zv H5 m5 x5 r5 rz
        have o5 := o4.pull x5 r5.tr
        split at o5
        · rename_i S6 e6
          exact ⟨a, b, z, S5, m5, S6, r5, ((ra.ext p2.sta.sto.tr x3).ext r3.tr p4.ext).ext p4.sta.sto.tr x5, ((p2.rel.ext p2.sta.sto.tr x3).ext r3.tr p4.ext).ext p4.sta.sto.tr x5, rz, e6, fun H' x r => o5 σ H' m5 x ((p4.sta.ext x5 r5).ext x r)⟩
        · exact o5.elim
theorem s_par2 {i j : Nat} {x y : Str} {a b : Expr} {zs : Rho → Sto → R (List D)} {px py pt : Pos} {kt k2 pt2} (hc : X.calm = true) (hN : X.N.Nodup) (hi : X.N[i]? = some x) (hj : X.N[j]? = some y) (hij : i ≠ j)
    (hx : X.env.scope.names.lookup x = some .local) (hy : X.env.scope.names.lookup y = some .local) (ha : PA X [a, b] (zA X cls W zs))
    (hw : swappedStores [.Tuple [.Name x px, .Name y py] kt pt] (.Tuple [a, b] k2 pt2) X.env = pure (some [x, y])) :
    PS X (.Assign [.Tuple [.Name x px, .Name y py] kt pt] (.Tuple [a, b] k2 pt2) pos) (zS X cls W fun ρ S => (zs ρ S).toF fun xs S => match setAll [i, j] xs ρ with
      | some ρ => .nx ρ S
      | none => .bad) :=
  PSw (ps_par hc hN hi hj hij hx hy ha hw rfl) fun D σ H ⟨ρ, S, m, s, o⟩ => (tZ_toF s o).mono fun vs H1 ⟨as, S1, m1, p1⟩ => by
    have o1 := p1.out
    have r := p1.rel
    try dsimp only at o1
    split at o1
    · rename_i ρ1 e1
      cases r with
      | nil => simp [setAll] at e1
      | cons r1 rr =>
        cases rr with
        | nil => simp [setAll] at e1
        | cons r2 rr =>
          cases rr with
          | nil =>
            simp only [setAll, Option.some.injEq] at e1
            subst e1
            exact ⟨_, _, rfl, o1.fin ((p1.sta.set r1).set r2)⟩
          | cons _ _ => simp [setAll] at e1
    · exact o1.elim
theorem s_par3 {i j l : Nat} {x y z : Str} {a b c : Expr} {zs : Rho → Sto → R (List D)} {px py pz pt : Pos} {kt k2 pt2} (hc : X.calm = true) (hN : X.N.Nodup) (hi : X.N[i]? = some x) (hj : X.N[j]? = some y) (hl : X.N[l]? = some z) (hij : i ≠ j) (hil : i ≠ l) (hjl : j ≠ l)
    (hx : X.env.scope.names.lookup x = some .local) (hy : X.env.scope.names.lookup y = some .local) (hz : X.env.scope.names.lookup z = some .local) (ha : PA X [a, b, c] (zA X cls W zs))
    (hw : swappedStores [.Tuple [.Name x px, .Name y py, .Name z pz] kt pt] (.Tuple [a, b, c] k2 pt2) X.env = pure (some [x, y, z])) :
    PS X (.Assign [.Tuple [.Name x px, .Name y py, .Name z pz] kt pt] (.Tuple [a, b, c] k2 pt2) pos) (zS X cls W fun ρ S => (zs ρ S).toF fun xs S => match setAll [i, j, l] xs ρ with
      | some ρ => .nx ρ S
      | none => .bad) :=
  PSw (ps_par3 hc hN hi hj hl hij hil hjl hx hy hz ha hw rfl) fun D σ H ⟨ρ, S, m, s, o⟩ => (tZ_toF s o).mono fun vs H1 ⟨as, S1, m1, p1⟩ => by
    have o1 := p1.out
    have r := p1.rel
    try dsimp only at o1
    split at o1
    · rename_i ρ1 e1
      cases r with
      | nil => simp [setAll] at e1
      | cons r1 rr =>
        cases rr with
        | nil => simp [setAll] at e1
        | cons r2 rr =>
          cases rr with
          | nil => simp [setAll] at e1
          | cons r3 rr =>
            cases rr with
            | nil =>
              simp only [setAll, Option.some.injEq] at e1
              subst e1
              exact ⟨_, _, _, rfl, o1.fin (((p1.sta.set r1).set r2).set r3)⟩
            | cons _ _ => simp [setAll] at e1
    · exact o1.elim
theorem s_while {c : Expr} {body : List Stmt} {zc : Rho → Sto → R Bool} {zb : Rho → Sto → F} (n : Nat) (hp : PassesOwn (model X.prog X.w) X.A X.env X.xe) (hc : PT X c (zT X cls W zc)) (hb : PSs X body (zS X cls W zb)) :
    PS X (.While c body [] pos) (zS X cls W fun ρ S => whF zc zb n ρ S) :=
  PSw (ps_while hp hc hb) fun D σ H ⟨ρ, S, m, s, o⟩ => by
    refine ⟨fun k σ H => ∃ ρ S m, Sta X.K σ H ρ S m ∧ FO X.K cls W D H m S.length (whF zc zb k ρ S), ⟨n, ρ, S, m, s, o⟩, ?_⟩
    rintro k σ H ⟨ρ, S, m, s, o⟩
    cases k with
    | zero => exact o.elim
    | succ k =>
      unfold whF at o
      refine (tZ_toF s o).mono fun b H1 ⟨b', S1, m1, p1⟩ => ?_
      have e : b' = b := p1.rel
      subst e
      have o1 := p1.out
      cases b' with
      | false => exact o1.fin p1.sta
      | true =>
        rw [if_pos rfl] at o1 ⊢
        refine ⟨fun σ H => ∃ ρ S m, Sta X.K σ H ρ S m ∧ FO X.K cls W D H m S.length (whF zc zb k ρ S), fun σ' H' h => ⟨k, Nat.lt_succ_self k, h⟩, ρ, S1, m1, p1.sta, ?_⟩
        cases e1 : zb ρ S1 with
        | nx ρ2 S2 => rw [e1] at o1; exact fun σ2 H2 m2 x s2 => ⟨ρ2, S2, m2, s2, o1.pull x s2.sto.tr⟩
        | ct ρ2 S2 => rw [e1] at o1; exact fun σ2 H2 m2 x s2 => ⟨ρ2, S2, m2, s2, o1.pull x s2.sto.tr⟩
        | bk ρ2 S2 => rw [e1] at o1; exact o1
        | rt d S2 => rw [e1] at o1; exact o1
        | exc c fs S2 => rw [e1] at o1; exact o1
        | bad => rw [e1] at o1; exact o1
theorem s_for {iter : Expr} {body : List Stmt} {zi : Rho → Sto → R (Gd × List D)} {g : G} {zb : Rho → Sto → F} (hp : PassesOwn (model X.prog X.w) X.A X.env X.xe) (hc : X.calm = true) (hi : PI X tg iter (zI X cls W zi)) (hg : PG X tg (zG X g)) (hb : PSs X body (zS X cls W zb))
    (hs : ∀ x, foldedSetIterable iter X.env x = pure x) : PS X (.For tg iter body [] pos) (zS X cls W fun ρ S => (zi ρ S).toF fun p S => forF p.1 (fun x ρ S => match asg g x ρ with
      | none => .bad
      | some ρ => zb ρ S) p.2 ρ S) :=
  PSw (ps_for hp hc hi hg hb hs) fun D σ H ⟨ρ, S, m, s, o⟩ => (tZ_toF s o).mono fun J H1 ⟨⟨gd, xs⟩, S1, m1, p1⟩ => by
    have o1 := p1.out
    have wz : WZ X.K J gd xs H1 m1 S1.length := p1.rel
    have st1 := p1.sta
    clear o p1 s
    generalize hB : (fun (x : Z.D) (ρ : Rho) (S : Sto) => match asg g x ρ with
      | none => F.bad
      | some ρ => zb ρ S) = B at o1
    try dsimp only at o1
    refine ⟨fun i k σ H => k = xs.length - i ∧ i ≤ xs.length ∧ ∃ ρ S m, Ext H1 m1 S1.length H m S.length ∧ Sta X.K σ H ρ S m ∧ FO X.K cls W D H m S.length (forF gd B (xs.drop i) ρ S),
      ⟨xs.length, by simp, Nat.zero_le _, ρ, S1, m1, Ext.refl, st1, by rw [List.drop_zero]; exact o1⟩, ?_⟩
    rintro i k σ H ⟨rfl, hin, ρ, S, m, x, s, o⟩
    have hchk : chk gd S = true := by
      cases hx : xs.drop i with
      | nil =>
        rw [hx] at o
        unfold forF at o
        split at o
        · assumption
        · exact o.elim
      | cons y ys =>
        rw [hx] at o
        unfold forF at o
        split at o
        · assumption
        · exact o.elim
    by_cases hlt : i < xs.length
    · refine .inr ⟨wz.go i H m S hlt x s.sto hchk, fun σ' H' => ∃ ρ S m, Ext H1 m1 S1.length H' m S.length ∧ Sta X.K σ' H' ρ S m ∧ FO X.K cls W D H' m S.length (forF gd B (xs.drop (i + 1)) ρ S),
        fun σ' H' h => ⟨xs.length - (i + 1), by omega, rfl, hlt, h⟩, fun v H' y => ?_⟩
      obtain ⟨d, hd, x2, rs2, rd⟩ := wz.yld i H m S v H' hlt x s.sto hchk y
      have ed : xs.drop i = d :: xs.drop (i + 1) := by
        rw [List.drop_eq_getElem_cons hlt]
        rw [List.getElem?_eq_getElem hlt] at hd
        rw [Option.some.inj hd]
      rw [ed] at o
      unfold forF at o
      rw [if_pos hchk] at o
      have x3 := x.trans s.sto.tr x2
      have s2 := s.ext x2 rs2
      have o2 := o.pull x2 rs2.tr
      cases ea : asg g d ρ with
      | none =>
        have : B d ρ S = .bad := by rw [← hB]; dsimp only; rw [ea]
        rw [this] at o2
        exact o2.elim
      | some ρ' =>
        have eb : B d ρ S = zb ρ' S := by rw [← hB]; dsimp only; rw [ea]
        rw [eb] at o2
        refine ⟨d, ρ, S, m, ρ', s2, rd, ea, fun σ' s' w => ⟨ρ', S, m, s', ?_⟩⟩
        cases e1 : zb ρ' S with
        | nx ρ3 S3 => rw [e1] at o2; exact fun σ3 H3 m3 x4 s4 => ⟨ρ3, S3, m3, x3.trans rs2.tr x4, s4, o2.pull x4 s4.sto.tr⟩
        | ct ρ3 S3 => rw [e1] at o2; exact fun σ3 H3 m3 x4 s4 => ⟨ρ3, S3, m3, x3.trans rs2.tr x4, s4, o2.pull x4 s4.sto.tr⟩
        | bk ρ3 S3 => rw [e1] at o2; exact o2
        | rt d S3 => rw [e1] at o2; exact o2
        | exc c fs S3 => rw [e1] at o2; exact o2
        | bad => rw [e1] at o2; exact o2
    · have ei : i = xs.length := by omega
      subst ei
      rw [List.drop_length] at o
      unfold forF at o
      rw [if_pos hchk] at o
      exact .inl ⟨wz.stop H m S x s.sto hchk, o.fin s⟩
end
/-! ### the stores of a pair -/
def swpM (ts vs : List Expr) (sc : Scope) : Option (Option (List Str)) :=
  if (!(ts.length == 2 || ts.length == 3) || vs.length != ts.length || sc.kind != .function) = true then some none
  else if (vs.any fun | .Starred .. => true | _ => false) = true then some none
  else
    let line := (ts.head?.map (·.pos.line)).getD 0
    let names := ts.filterMap fun
      | .Name id pos => if (sc.names.lookup id == some .local && pos.line == line) = true then some id else none
      | _ => none
    if (names.length != ts.length || names.eraseDups.length != names.length) = true then some none
    else if vs.all (foldedForSure 8) = true then some none
    else if vs.all (constantsAlone 8) = true then none
    else some (some names)
theorem swpM_ok {ts vs : List Expr} {env : Env} {r : Option (List Str)} {k k2 : Nat} {p p2 : Pos} (hk : env.scope.kind = .function) (h : swpM ts vs env.scope = some r) : swappedStores [.Tuple ts k p] (.Tuple vs k2 p2) env = pure r := by
  have hb : env.blockKind = .function := by unfold Env.blockKind; rw [hk]; rfl
  unfold swpM at h
  dsimp only at h
  unfold swappedStores
  rw [hk] at h
  rw [hb]
  dsimp only
  split at h
  · rename_i c
    cases h
    exact if_pos c
  · rename_i c
    refine (if_neg c).trans ?_
    split at h
    · rename_i c1
      cases h
      exact if_pos c1
    · rename_i c1
      refine (if_neg c1).trans ?_
      split at h
      · rename_i c2
        cases h
        exact if_pos c2
      · rename_i c2
        refine (if_neg c2).trans ?_
        split at h
        · rename_i c3
          cases h
          exact if_pos c3
        · rename_i c3
          refine (if_neg c3).trans ?_
          split at h
          · cases h
          · rename_i c4
            cases h
            exact if_neg c4
end Z
end
section
set_option Elab.async false
set_option linter.all false
set_option autoImplicit false
set_option maxRecDepth 100000
set_option maxHeartbeats 4000000
/-! Z6: from the program's text to the small language. -/
namespace Z
open PySem PySem.Spec PyProof.Rows L2
/-- what is known where a text stands: the slots' names, the scope, the defs and their parameters, constants, names of gcd, built-ins that are not hidden -/
structure CC where
  N : List Str
  sc : Scope
  fns : List (Str × List Str)
  cs : List Str
  gcds : List Str
  bs : List Str
  dl : Bool
  kws : List Str
def gd {α : Type} (b : Bool) (x : Option α) : Option α := match b with
  | true => x
  | false => none
theorem gd_some {α : Type} {b : Bool} {x : Option α} {y : α} : gd b x = some y ↔ b = true ∧ x = some y := by cases b <;> simp [gd]
def ixOf : List Str → Str → Option Nat
  | [], _ => none
  | y :: r, x => if y = x then some 0 else (ixOf r x).map (· + 1)
theorem ixOf_ok : ∀ {N : List Str} {x : Str} {i : Nat}, ixOf N x = some i → N[i]? = some x
  | y :: r, x, i, h => by
    unfold ixOf at h
    split at h
    · cases h; subst_vars; rfl
    · simp only [Option.map_eq_some_iff] at h
      obtain ⟨j, h1, h2⟩ := h
      subst h2
      rw [List.getElem?_cons_succ]
      exact ixOf_ok h1
def kindIn (C : CC) (x : Str) : Option NameKind := C.sc.names.lookup x
def isVis (k : Option NameKind) : Bool := match k with
  | some .local => true | some .cell => true | some .free => true | _ => false
def isLocC (k : Option NameKind) : Bool := match k with
  | some .local => true | some .cell => true | _ => false
def isLocal (k : Option NameKind) : Bool := match k with
  | some .local => true | _ => false
def isGlob (k : Option NameKind) : Bool := match k with
  | some .globalImplicit => true | _ => false
def okName (x : Str) : Bool := !(x == ("__debug__" : Str)) && !(x == ("__classdict__" : Str)) && !(x == ("__name__" : Str))
def cK : Const → Option D
  | .int i => some (.int i)
  | .bool b => some (.bl b)
  | .none => some .non
  | .str x => gd (PyData.strOk x) (some (.str x))
  | _ => none
def cN (C : CC) (x : Str) : Option E :=
  gd (okName x) (match ixOf C.N x with
    | some i => gd (isVis (kindIn C x)) (some (.v i))
    | none => gd (isGlob (kindIn C x) && C.cs.contains x) (some (.g x)))
def cOp : Operator → Option BOp
  | .Add => some .add | .Sub => some .sub | .Mult => some .mul | .FloorDiv => some .fdiv | .Mod => some .mod | .Pow => some .pow | .LShift => some .shl | .RShift => some .shr
  | .BitAnd => some .band | .BitOr => some .bor | .BitXor => some .bxor | _ => none
def cC : CmpOp → Option COp
  | .Eq => some .eq | .NotEq => some .ne | .Lt => some .lt | .LtE => some .le | .Gt => some .gt | .GtE => some .ge | .Is => some .is | .IsNot => some .isnt | .In => some .isin | .NotIn => some .notin
theorem cOp_ok {o : Operator} {b : BOp} (h : cOp o = some b) : b.py = o := by cases o <;> simp only [cOp, Option.some.injEq, reduceCtorEq] at h <;> subst h <;> rfl
theorem cC_ok {o : CmpOp} {b : COp} (h : cC o = some b) : b.py = o := by cases o <;> simp only [cC, Option.some.injEq, reduceCtorEq] at h <;> subst h <;> rfl
/-- built-ins by their names -/
def biOf (x : Str) : Option Bi :=
  if x = ("len" : Str) then some .len else if x = ("tuple" : Str) then some .tuple else if x = ("list" : Str) then some .list else if x = ("abs" : Str) then some .abs
  else if x = ("min" : Str) then some .min else if x = ("max" : Str) then some .max else if x = ("int" : Str) then some .int else if x = ("sum" : Str) then some .sum
  else if x = ("all" : Str) then some .all else if x = ("any" : Str) then some .any else none
def tyOf (x : Str) : Option Bi :=
  if x = ("int" : Str) then some .isInt else if x = ("bool" : Str) then some .isBool else if x = ("tuple" : Str) then some .isTuple else if x = ("str" : Str) then some .isStr else if x = ("list" : Str) then some .isList else none
def mtOf (x : Str) (k : Nat) : Option Mt :=
  if x = ("append" : Str) then (if k = 1 then some .append else none) else if x = ("pop" : Str) then (if k = 0 then some .pop else if k = 1 then some .popAt else none)
  else if x = ("extend" : Str) then (if k = 1 then some .extend else none) else none
def isSet : Expr → Bool
  | .Set _ _ _ => true
  | _ => false
def isTup : Expr → Bool
  | .Tuple _ _ _ => true
  | _ => false
/-- a comprehension's own names and their slots -/
def ownOf (C : CC) (scope : Scope) : List (Str × Nat) := scope.names.filterMap fun (x, k) => if isLocC (some k) = true then (ixOf C.N x).map fun i => (x, i) else none
def blkC (C : CC) (scope : Scope) : Bool :=
  decide (scope.kind = .function) && scope.names.all (fun y => decide (scope.names.lookup y.1 = some y.2)) && scope.names.all (fun y => !decide (y.2 = .free) || decide (kindIn C y.1 = some .cell) || decide (kindIn C y.1 = some .free)) && decide (C.sc.kind = .function)
/-- the one-letter words of a keyword call -/
def kwNames : List Keyword → List (Option Str)
  | [] => []
  | ⟨nm, _, _⟩ :: r => nm :: kwNames r
/-! a target -/
mutual
def cG : Nat → CC → Expr → Option G
  | 0, _, _ => none
  | n + 1, C, e => match e with
    | .Name x _ => gd (isLocal (kindIn C x) || (C.dl && isLocC (kindIn C x))) ((ixOf C.N x).map .nm)
    | .Tuple es _ _ => gd (es.all noStar) ((cGs n C es).map .tup)
    | _ => none
def cGs : Nat → CC → List Expr → Option Gs
  | 0, _, _ => none
  | _ + 1, _, [] => some .nil
  | n + 1, C, e :: es => (cG n C e).bind fun g => (cGs n C es).bind fun gs => some (.cons g gs)
end
/-- a comparison -/
def cCmp (f : Expr → Option E) (a : Expr) (ops : List CmpOp) (bs : List Expr) : Option E := match ops, bs with
  | [op], [b] => gd (!behindInMarks op b) ((cC op).bind fun o => (f a).bind fun a' => (f b).bind fun b' => some (.cmp o a' b'))
  | [op, op'], [b, c] => gd (!lastMarks [op, op'] [b, c]) ((cC op).bind fun o => (cC op').bind fun o' => (f a).bind fun a' => (f b).bind fun b' => (f c).bind fun c' => some (.chain o o' a' b' c'))
  | _, _ => none
mutual
def cE : Nat → CC → Expr → Option E
  | 0, _, _ => none
  | n + 1, C, e => match e with
    | .Constant c _ _ => (cK c).map .c
    | .Name x _ => cN C x
    | .BinOp a op b _ => (cOp op).bind fun o => (cE n C a).bind fun a' => (cE n C b).bind fun b' => some (.bin o a' b')
    | .UnaryOp op a _ => match op with
      | .USub => (cE n C a).bind fun a' => some (.neg a')
      | .Not => (cE n C a).bind fun a' => some (.notE a')
      | _ => none
    | .IfExp t a b _ => (cT n C t).bind fun t' => (cE n C a).bind fun a' => (cE n C b).bind fun b' => some (.ite t' a' b')
    | .BoolOp op vs _ => cB n C op vs
    | .Compare a ops bs _ => cCmp (cE n C) a ops bs
    | .Tuple es _ _ => (cEs n C es).bind fun es' => some (.tup es')
    | .List es _ => (cEs n C es).bind fun es' => some (.lst es')
    | .Subscript a b _ => match b with
      | .Slice lo hi st _ => match st with
        | none => (cE n C a).bind fun a' => (cO n C lo).bind fun l' => (cO n C hi).bind fun h' => some (.sl a' l' h')
        | some (.UnaryOp .USub (.Constant (.int i) _ _) _) => match lo, hi with
          | none, none => gd (i == 1) ((cE n C a).bind fun a' => some (.rev a'))
          | _, _ => none
        | _ => none
      | b => gd (noSlice b) ((cE n C a).bind fun a' => (cE n C b).bind fun b' => some (.ix a' b'))
    | .Call f args kws cpos => match f with
      | .Name x _ => gd (okName x && isGlob (kindIn C x)) (match C.fns.lookup x with
        | some ps => match kws with
          | [] => (cEs n C args).bind fun es' => some (.call x es')
          | kws => gd (args.isEmpty && decide (kwNames kws = ps.map some) && C.kws.contains x) ((cKs n C kws).bind fun es' => some (.call x es'))
        | none => match kws, args with
          | [], a :: as =>
            if C.gcds.contains x = true then (cEs n C (a :: as)).bind fun es' => some (.bi .gcd es')
            else gd (C.bs.contains x) (if x = ("isinstance" : Str) then (match as with
                | [.Name t _] => gd (C.bs.contains t && isGlob (kindIn C t) && noStar a) ((tyOf t).bind fun b => (cE n C a).bind fun a' => some (.bi b (.cons a' .nil)))
                | _ => none)
              else (biOf x).bind fun b => (cEs n C (a :: as)).bind fun es' => some (.bi b es'))
          | _, _ => none)
      | .Attribute o nm apos => match kws, args with
        | [], [] => gd (simpleO o && (apos.endLine == cpos.line)) ((mtOf nm 0).bind fun m => (cE n C o).bind fun o' => some (.mt m o' .nil))
        | [], [e] => gd (simpleO o && (apos.endLine == cpos.line)) ((mtOf nm 1).bind fun m => (cE n C o).bind fun o' => (cEs n C [e]).bind fun es' => some (.mt m o' es'))
        | _, _ => none
      | _ => none
    | .ListComp elt gens scope _ => match gens with
      | [⟨tg, iter, ifs, 0⟩] => cL n C elt tg iter ifs scope
      | _ => none
    | _ => none
/-- a list comprehension -/
def cL : Nat → CC → Expr → Expr → Expr → List Expr → Scope → Option E
  | 0, _, _, _, _, _, _ => none
  | n + 1, C, elt, tg, iter, ifs, scope => gd (blkC C scope && !isSet iter) ((cG n { C with sc := relS scope C.sc, dl := false } tg).bind fun g => (cI n C (isTup tg) iter).bind fun i => (cTs n { C with sc := relS scope C.sc, dl := false } ifs).bind fun t =>
      (cE n { C with sc := relS scope C.sc, dl := false } elt).bind fun e => gd ((gSlots g).all fun i => ((ownOf C scope).map (·.2)).contains i) (some (.lc e g i t ((ownOf C scope).map (·.2)))))
def cB : Nat → CC → BoolOp → List Expr → Option E
  | 0, _, _, _ => none
  | n + 1, C, op, vs => match vs with
    | [] => none
    | [a] => cE n C a
    | a :: b :: r => (cE n C a).bind fun a' => (cB n C op (b :: r)).bind fun b' => some (match op with
      | .And => .andE a' b'
      | .Or => .orE a' b')
def cT : Nat → CC → Expr → Option T
  | 0, _, _ => none
  | n + 1, C, e => match e with
    | .UnaryOp .Not a _ => (cT n C a).bind fun t => some (.not t)
    | .BoolOp op vs _ => cW n C op vs
    | .Compare a ops bs _ => (cCmp (cE n C) a ops bs).bind fun a' => some (.val a')
    | e => gd (plainT e) ((cE n C e).bind fun a' => some (.val a'))
def cW : Nat → CC → BoolOp → List Expr → Option T
  | 0, _, _, _ => none
  | n + 1, C, op, vs => match vs with
    | [] => none
    | [a] => cT n C a
    | a :: b :: r => (cT n C a).bind fun a' => (cW n C op (b :: r)).bind fun b' => some (match op with
      | .And => .and a' b'
      | .Or => .or a' b')
def cTs : Nat → CC → List Expr → Option T
  | 0, _, _ => none
  | n + 1, C, ifs => match ifs with
    | [] => some .yes
    | [c] => cT n C c
    | _ => none
def cEs : Nat → CC → List Expr → Option Es
  | 0, _, _ => none
  | n + 1, C, es => match es with
    | [] => some .nil
    | e :: es => gd (noStar e) ((cE n C e).bind fun e' => (cEs n C es).bind fun es' => some (.cons e' es'))
def cKs : Nat → CC → List Keyword → Option Es
  | 0, _, _ => none
  | n + 1, C, es => match es with
    | [] => some .nil
    | ⟨_, e, _⟩ :: es => (cE n C e).bind fun e' => (cKs n C es).bind fun es' => some (.cons e' es')
def cO : Nat → CC → Option Expr → Option O
  | 0, _, _ => none
  | n + 1, C, o => match o with
    | none => some .non
    | some e => (cE n C e).bind fun e' => some (.som e')
/-- what is walked; tp: the target is a tuple's -/
def cI : Nat → CC → Bool → Expr → Option I
  | 0, _, _, _ => none
  | n + 1, C, tp, e => match e with
    | .Call (.Name x _) args [] _ =>
      if (okName x && isGlob (kindIn C x) && C.bs.contains x && args.all noStar) = true then
        if x = ("range" : Str) then (match args with
          | [a] => (cE n C a).bind fun a' => some (.range1 a')
          | [a, b] => (cE n C a).bind fun a' => (cE n C b).bind fun b' => some (.range2 a' b')
          | [a, b, c] => (cE n C a).bind fun a' => (cE n C b).bind fun b' => (cE n C c).bind fun c' => some (.range3 a' b' c')
          | _ => none)
        else if x = ("enumerate" : Str) then (match args with
          | [a] => gd tp ((cE n C a).bind fun a' => some (.enum a'))
          | _ => none)
        else if x = ("zip" : Str) then (match args with
          | [a, b] => gd tp ((cE n C a).bind fun a' => (cE n C b).bind fun b' => some (.zip a' b'))
          | _ => none)
        else if x = ("reversed" : Str) then (match args with
          | [a] => (cE n C a).bind fun a' => some (.rev a')
          | _ => none)
        else (cE n C e).bind fun e' => some (.e e')
      else (cE n C e).bind fun e' => some (.e e')
    | e => (cE n C e).bind fun e' => some (.e e')
end
/-! ### statements -/
def isComp : Expr → Bool
  | .ListComp _ _ _ _ => true
  | .SetComp _ _ _ _ => true
  | .DictComp _ _ _ _ _ => true
  | _ => false
def isStrC : Expr → Bool
  | .Constant (.str _) _ _ => true
  | _ => false
/-- is the value stored ahead of the block's end -/
def swB (C : CC) (x : Str) (p : Pos) (scope : Scope) (lp : Pos) : Bool :=
  isLocal (kindIn C x) && (p.line == lp.line) && !(scope.names.any fun (n, k) => n == x && (k == .local || k == .cell))
def parOf (C : CC) (ts vs : List Expr) : Option (List Nat) := match ts, vs with
  | [.Name x _, .Name y _], [_, _] => (ixOf C.N x).bind fun i => (ixOf C.N y).bind fun j => gd (isLocal (kindIn C x) && isLocal (kindIn C y) && i != j) (some [i, j])
  | [.Name x _, .Name y _, .Name z _], [_, _, _] => (ixOf C.N x).bind fun i => (ixOf C.N y).bind fun j => (ixOf C.N z).bind fun l => gd (isLocal (kindIn C x) && isLocal (kindIn C y) && isLocal (kindIn C z) && i != j && i != l && j != l) (some [i, j, l])
  | _, _ => none
def namesAre : List Expr → List Str → Bool
  | [], [] => true
  | .Name x _ :: r, y :: s => x == y && namesAre r s
  | _, _ => false
mutual
def cS : Nat → CC → Stmt → Option St
  | 0, _, _ => none
  | n + 1, C, s => match s with
    | .Pass _ => some .pass
    | .Break _ => some .brk
    | .Continue _ => some .cont
    | .Return none _ => some .retN
    | .Return (some e) _ => (cE n C e).bind fun e' => some (.ret e')
    | .Expr e _ => match isStrC e with
      | true => some .pass
      | false => gd (!isComp e) ((cE n C e).bind fun e' => some (.ex e'))
    | .If c a b _ => (cT n C c).bind fun c' => (cSs n C a).bind fun a' => (cSs n C b).bind fun b' => some (.ite c' a' b')
    | .While c b [] _ => (cT n C c).bind fun c' => (cSs n C b).bind fun b' => some (.wh c' b')
    | .For tg it b [] _ => gd (!isSet it) ((cG n C tg).bind fun g => (cI n C (isTup tg) it).bind fun i => (cSs n C b).bind fun b' => some (.fo g i b'))
    | .AugAssign (.Name x _) op e _ => gd (C.dl && isLocC (kindIn C x)) ((ixOf C.N x).bind fun i => (cOp op).bind fun o => (cE n C e).bind fun e' => some (.aug i o e'))
    | .AugAssign (.Subscript ob i _) op e _ => gd (noSlice i) ((cOp op).bind fun o => (cE n C ob).bind fun ob' => (cE n C i).bind fun i' => (cE n C e).bind fun e' => some (.augix ob' i' o e'))
    | .Assign [.Name x p] (.ListComp elt [⟨tg, iter, ifs, 0⟩] scope lp) _ => match swB C x p scope lp with
      | true => (ixOf C.N x).bind fun i => (cL n C elt tg iter ifs scope).bind fun e' => some (.set i e')
      | false => gd (C.dl && isLocC (kindIn C x)) ((ixOf C.N x).bind fun i => (cL n C elt tg iter ifs scope).bind fun e' => some (.set i e'))
    | .Assign [.Name x _] e _ => gd (C.dl && isLocC (kindIn C x) && !isComp e) ((ixOf C.N x).bind fun i => (cE n C e).bind fun e' => some (.set i e'))
    | .Assign [.Tuple ts k p] (.Tuple vs k2 p2) _ => match swpM ts vs C.sc with
      | some none => (cG n C (.Tuple ts k p)).bind fun g => (cE n C (.Tuple vs k2 p2)).bind fun e' => some (.tset g e')
      | some (some xs) => gd (namesAre ts xs) ((parOf C ts vs).bind fun is => (cEs n C vs).bind fun es => some (.par is es))
      | none => none
    | .Assign [.Tuple ts k p] e _ => gd (!isTup e) ((cG n C (.Tuple ts k p)).bind fun g => (cE n C e).bind fun e' => some (.tset g e'))
    | .Assign [.Subscript ob i _] e _ => gd (noSlice i) ((cE n C ob).bind fun ob' => (cE n C i).bind fun i' => (cE n C e).bind fun e' => some (.setix ob' i' e'))
    | _ => none
def cSs : Nat → CC → List Stmt → Option Sts
  | 0, _, _ => none
  | n + 1, C, ss => match ss with
    | [] => some .nil
    | s :: ss => (cS n C s).bind fun s' => (cSs n C ss).bind fun ss' => some (.cons s' ss')
end
end Z
end
section
set_option Elab.async false
set_option linter.all false
set_option autoImplicit false
set_option maxRecDepth 100000
set_option maxHeartbeats 4000000
/-! Z7: what the small language's text computes is what the program's text does. -/
namespace Z
open PySem PySem.Spec PyProof.Rows L2
structure XH (X : Cx) (cls : Str → Value) (W : XK) (Γ : Calls) (Co : Consts) (C : CC) : Prop where
  hN : X.N = C.N
  nd : X.N.Nodup
  sc : X.env.scope = C.sc
  calm : X.calm = true
  units : X.A.units + 64 < cLine
  fns : ∀ x ps, C.fns.lookup x = some ps → FnAt X cls Γ x ps (C.kws.contains x)
  pass : Passes (L2.CX X.prog X.w) X W
  cs : ∀ x, C.cs.contains x = true → ∃ d v u, Co x = some d ∧ X.mg x = some u ∧ RelV v u ∧ ∀ H m N, RepD X.K H m N d v
  gcds : ∀ x, C.gcds.contains x = true → X.mg x = some (.builtin "math.gcd")
  bs : ∀ x, C.bs.contains x = true → X.mg x = none
  dl : C.dl = true → ∀ x, X.fn x = true
section
variable {X : Cx} {cls : Str → Value} {W : XK} {Γ : Calls} {Co : Consts} {C : CC} {pos p : Pos} {tg : Expr}
theorem vis_of {sc : Scope} {x : Str} (h : isVis (sc.names.lookup x) = true) : Vis sc x := by
  unfold isVis at h
  split at h
  · rename_i e; exact .inl e
  · rename_i e; exact .inr (.inl e)
  · rename_i e; exact .inr (.inr e)
  · cases h
theorem loc_of {sc : Scope} {x : Str} (h : isLocC (sc.names.lookup x) = true) : Loc sc x := by
  unfold isLocC at h
  split at h
  · rename_i e; exact .inl e
  · rename_i e; exact .inr e
  · cases h
theorem local_of {k : Option NameKind} (h : isLocal k = true) : k = some .local := by
  unfold isLocal at h
  split at h
  · rfl
  · cases h
theorem glob_of {k : Option NameKind} (h : isGlob k = true) : k = some .globalImplicit := by
  unfold isGlob at h
  split at h
  · rfl
  · cases h
theorem XH.gl (h : XH X cls W Γ Co C) {x : Str} (hg : isGlob (kindIn C x) = true) : Gl X x := by
  have := glob_of hg
  unfold kindIn at this
  rw [← h.sc] at this
  exact this
theorem okName_of {x : Str} (h : okName x = true) : (x == ("__debug__" : Str)) = false ∧ (x == ("__classdict__" : Str)) = false ∧ x ≠ ("__name__" : Str) := by
  unfold okName at h
  simp only [Bool.and_eq_true, Bool.not_eq_true'] at h
  exact ⟨h.1.1, h.1.2, fun e => by rw [e] at h; simp at h⟩
theorem XH.storable (h : XH X cls W Γ Co C) {x : Str} (hk : (isLocal (kindIn C x) || (C.dl && isLocC (kindIn C x))) = true) : Loc X.env.scope x ∧ (X.fn x = true ∨ X.env.scope.names.lookup x = some .local) := by
  unfold kindIn at hk
  rw [← h.sc] at hk
  simp only [Bool.or_eq_true, Bool.and_eq_true] at hk
  rcases hk with hk | ⟨hd, hk⟩
  · exact ⟨.inl (local_of hk), .inr (local_of hk)⟩
  · exact ⟨loc_of hk, .inl (h.dl hd x)⟩
theorem XH.blk (h : XH X cls W Γ Co C) {scope : Scope} (hb : blkC C scope = true) (s : Shared) (H : Hp) (A : Addr) (cl : List (Str × Addr)) (fp : List Addr) :
    XH (X.blk s H scope (compEnvC scope cl A X.env) fp) cls (fun _ _ _ => False) Γ Co { C with sc := relS scope C.sc, dl := false } where
  hN := h.hN
  nd := h.nd
  sc := by
    show relabel scope X.env = relS scope C.sc
    rw [← h.sc]; rfl
  calm := h.calm
  units := h.units
  fns := fun x ps e => ⟨(h.fns x ps e).ex⟩
  pass := passL
  cs := h.cs
  gcds := h.gcds
  bs := h.bs
  dl := fun e => nomatch e
theorem ixOf_mem {x : Str} : ∀ {N : List Str}, x ∈ N → ∃ i, ixOf N x = some i
  | [], h => nomatch h
  | z :: r, h => by
    unfold ixOf
    split
    · exact ⟨_, rfl⟩
    · rename_i hne
      rcases List.mem_cons.mp h with e | e
      · exact absurd e.symm hne
      · obtain ⟨i, e⟩ := ixOf_mem e
        exact ⟨i + 1, by rw [e]; rfl⟩
theorem XH.blkOk (h : XH X cls W Γ Co C) {scope : Scope} (hb : blkC C scope = true) : BlkOk X.N X.env.scope scope (ownOf C scope) := by
  unfold blkC at hb
  simp only [Bool.and_eq_true, decide_eq_true_eq, List.all_eq_true, Bool.or_eq_true, Bool.not_eq_true', decide_eq_false_iff_not] at hb
  obtain ⟨⟨⟨h1, h2⟩, h3⟩, h4⟩ := hb
  refine ⟨h1, h2, fun p hp => ?_, fun y hy hf => ?_, fun y hy hk => ?_⟩
  · unfold ownOf at hp
    simp only [List.mem_filterMap] at hp
    obtain ⟨⟨x, k⟩, _, e⟩ := hp
    split at e
    · simp only [Option.map_eq_some_iff] at e
      obtain ⟨i, e1, e2⟩ := e
      subst e2
      rw [h.hN]
      exact ixOf_ok e1
    · cases e
  · rw [h.sc]
    rcases h3 y hy with (z | z) | z
    · exact absurd hf z
    · exact .inl z
    · exact .inr z
  · by_cases hx : ∃ i, ixOf C.N y.1 = some i
    · obtain ⟨i, e⟩ := hx
      left
      refine List.mem_map.mpr ⟨(y.1, i), ?_, rfl⟩
      unfold ownOf
      refine List.mem_filterMap.mpr ⟨y, hy, ?_⟩
      have : isLocC (some y.2) = true := by rcases hk with z | z <;> rw [z] <;> rfl
      dsimp only
      rw [if_pos this, e]; rfl
    · right
      intro hin
      rw [h.hN] at hin
      exact hx (ixOf_mem hin)
/-! ### targets -/
theorem asgs_len : ∀ {n : Nat} {es : List Expr} {gs : Gs}, cGs n C es = some gs → ∀ xs ρ ρ', asgs gs xs ρ = some ρ' → xs.length = es.length
  | 0, _, _, h, _, _, _, _ => by cases h
  | n + 1, [], _, h, xs, ρ, ρ', e => by
    simp only [cGs, Option.some.injEq] at h
    subst h
    cases xs with
    | nil => rfl
    | cons _ _ => simp [asgs] at e
  | n + 1, a :: es, _, h, xs, ρ, ρ', e => by
    simp only [cGs, Option.bind_eq_some_iff, Option.some.injEq] at h
    obtain ⟨g, h1, gs, h2, rfl⟩ := h
    cases xs with
    | nil => simp [asgs] at e
    | cons x xs =>
      simp only [asgs, Option.bind_eq_some_iff] at e
      obtain ⟨ρ1, e1, e2⟩ := e
      have := asgs_len h2 xs ρ1 ρ' e2
      simp [this]
theorem cG_both (h : XH X cls W Γ Co C) : ∀ n : Nat, (∀ e g, cG n C e = some g → PG X e (zG X g)) ∧ (∀ es gs, cGs n C es = some gs → (∀ e ∈ es, noStar e = true) → PGs X es (zGs X gs))
  | 0 => ⟨fun _ _ h => by simp [cG] at h, fun _ _ h => by simp [cGs] at h⟩
  | n + 1 => by
    obtain ⟨ih1, ih2⟩ := cG_both h n
    refine ⟨fun e g hg => ?_, fun es gs hg hs => ?_⟩
    · unfold cG at hg
      split at hg
      · rename_i x q
        simp only [gd_some, Option.map_eq_some_iff] at hg
        obtain ⟨hk, i, hi, rfl⟩ := hg
        obtain ⟨h1, h2⟩ := h.storable hk
        exact z_gn h.nd (by rw [h.hN]; exact ixOf_ok hi) h1 h2
      · rename_i es k q
        simp only [gd_some, Option.map_eq_some_iff, List.all_eq_true] at hg
        obtain ⟨hs, gs, hgs, rfl⟩ := hg
        exact z_gt h.calm (ih2 _ _ hgs hs) hs (asgs_len hgs)
      · cases hg
    · cases es with
      | nil =>
        simp only [cGs, Option.some.injEq] at hg
        subst hg
        exact z_gsN
      | cons a es =>
        simp only [cGs, Option.bind_eq_some_iff, Option.some.injEq] at hg
        obtain ⟨g, h1, gs, h2, rfl⟩ := hg
        exact z_gsC (ih1 _ _ h1) (ih2 _ _ h2 fun e he => hs e (List.mem_cons_of_mem _ he)) (hs a List.mem_cons_self)
theorem cG_ok (h : XH X cls W Γ Co C) {n : Nat} {e : Expr} {g : G} (hg : cG n C e = some g) : PG X e (zG X g) := (cG_both h n).1 e g hg
/-! ### expressions -/
theorem PEq {e : Expr} {z z' : Rho → Sto → R D} (h : PE X e (zE X cls W z)) (hz : ∀ ρ S, z' ρ S = z ρ S) : PE X e (zE X cls W z') := by
  have : z' = z := by funext ρ S; exact hz ρ S
  rw [this]; exact h
theorem PTq {e : Expr} {z z' : Rho → Sto → R Bool} (h : PT X e (zT X cls W z)) (hz : ∀ ρ S, z' ρ S = z ρ S) : PT X e (zT X cls W z') := by
  have : z' = z := by funext ρ S; exact hz ρ S
  rw [this]; exact h
theorem PWq {e : Expr} {z z' : Rho → Sto → R Bool} (h : PW X e (zT X cls W z)) (hz : ∀ ρ S, z' ρ S = z ρ S) : PW X e (zT X cls W z') := by
  have : z' = z := by funext ρ S; exact hz ρ S
  rw [this]; exact h
theorem PAq {e : List Expr} {z z' : Rho → Sto → R (List D)} (h : PA X e (zA X cls W z)) (hz : ∀ ρ S, z' ρ S = z ρ S) : PA X e (zA X cls W z') := by
  have : z' = z := by funext ρ S; exact hz ρ S
  rw [this]; exact h
theorem PKq {e : List Keyword} {z z' : Rho → Sto → R (List D)} (h : PK X e (zA X cls W z)) (hz : ∀ ρ S, z' ρ S = z ρ S) : PK X e (zA X cls W z') := by
  have : z' = z := by funext ρ S; exact hz ρ S
  rw [this]; exact h
theorem POq {e : Option Expr} {z z' : Rho → Sto → R (Option Int)} (h : PO X e (zO X cls W z)) (hz : ∀ ρ S, z' ρ S = z ρ S) : PO X e (zO X cls W z') := by
  have : z' = z := by funext ρ S; exact hz ρ S
  rw [this]; exact h
theorem PIq {e : Expr} {z z' : Rho → Sto → R (Gd × List D)} (h : PI X tg e (zI X cls W z)) (hz : ∀ ρ S, z' ρ S = z ρ S) : PI X tg e (zI X cls W z') := by
  have : z' = z := by funext ρ S; exact hz ρ S
  rw [this]; exact h
theorem plainIx_of {b : Expr} (h : noSlice b = true) : PlainIx b := by
  cases b <;> first | (intro _ _; rfl) | (cases h; done)
theorem folded_of {e : Expr} {env : Env} (h : isSet e = false) (x : Value) : foldedSetIterable e env x = pure x := by
  cases e <;> first | rfl | (cases h; done)
theorem bool1 {e : Expr} {op : BoolOp} {t : TE} (h : PE X e t) : PE X (.BoolOp op [e] pos) t := ⟨fun pins s σ H Q I q => by
  have := h.run pins s σ H Q I q
  exact this⟩
theorem isTup_of {e : Expr} (h : isTup e = true) : ∃ es k q, e = .Tuple es k q := by
  cases e <;> first | exact ⟨_, _, _, rfl⟩ | (cases h; done)
theorem kw_some {kws : List Keyword} {env : Env} {q : Pos} : (backToKw q (keywordEach kws env)).map (·.1) = kwNames kws := by
  unfold backToKw
  rw [List.map_map]
  induction kws with
  | nil => rfl
  | cons k r ih =>
    obtain ⟨nm, v, kp⟩ := k
    show nm :: _ = nm :: _
    rw [← ih]
theorem kw_all {α : Type} : ∀ {l : List (Option Str × α)} {ps : List Str}, l.map (·.1) = ps.map some → l.all (·.1.isSome) = true ∧ l.filterMap (·.1) = ps ∧ l.any (·.1.isNone) = false
  | [], ps, h => by
    cases ps with
    | nil => exact ⟨rfl, rfl, rfl⟩
    | cons _ _ => cases h
  | (o, a) :: l, ps, h => by
    cases ps with
    | nil => cases h
    | cons y ps =>
      simp only [List.map_cons, List.cons.injEq] at h
      obtain ⟨h1, h2⟩ := h
      obtain ⟨e1, e2, e3⟩ := kw_all h2
      subst h1
      refine ⟨?_, ?_, ?_⟩
      · rw [List.all_cons, e1]; rfl
      · rw [List.filterMap_cons]; simp [e2]
      · rw [List.any_cons, e3]; rfl
end
end Z
end
section
set_option Elab.async false
set_option linter.all false
set_option autoImplicit false
set_option maxRecDepth 100000
set_option maxHeartbeats 8000000
/-! Z8: the text's expressions, by induction. -/
namespace Z
open PySem PySem.Spec PyProof.Rows L2
/-- a list comprehension's parts -/
structure LcOk (X : Cx) (cls : Str → Value) (W : XK) (Γ : Calls) (Co : Consts) (C : CC) (elt tg iter : Expr) (ifs : List Expr) (scope : Scope) (g : G) (i : I) (t : T) (e : E) : Prop where
  it : PI X tg iter (zI X cls W (evI Γ Co i))
  ok : BlkOk X.N X.env.scope scope (ownOf C scope)
  hg : ∀ (s : Shared) (H : Hp) (A : Addr) (cl : List (Str × Addr)) (fp : List Addr), PG (X.blk s H scope (compEnvC scope cl A X.env) fp) tg (zG X g)
  ht : ∀ (s : Shared) (H : Hp) (A : Addr) (cl : List (Str × Addr)) (fp : List Addr), PTs (X.blk s H scope (compEnvC scope cl A X.env) fp) ifs (zT X cls (fun _ _ _ => False) (evT Γ Co t))
  he : ∀ (s : Shared) (H : Hp) (A : Addr) (cl : List (Str × Addr)) (fp : List Addr), PE (X.blk s H scope (compEnvC scope cl A X.env) fp) elt (zE X cls (fun _ _ _ => False) (evE Γ Co e))
  hs : ∀ x, foldedSetIterable iter X.env x = pure x
  hgo : ∀ i ∈ gSlots g, i ∈ (ownOf C scope).map (·.2)
structure SN (Γ : Calls) (Co : Consts) (cls : Str → Value) (n : Nat) : Prop where
  e : ∀ {X : Cx} {W : XK} {C : CC}, XH X cls W Γ Co C → ∀ {e : Expr} {a : E}, cE n C e = some a → PE X e (zE X cls W (evE Γ Co a))
  l : ∀ {X : Cx} {W : XK} {C : CC}, XH X cls W Γ Co C → ∀ {elt tg iter : Expr} {ifs : List Expr} {scope : Scope} {a : E}, cL n C elt tg iter ifs scope = some a →
    ∃ g i t e, a = .lc e g i t ((ownOf C scope).map (·.2)) ∧ LcOk X cls W Γ Co C elt tg iter ifs scope g i t e
  b : ∀ {X : Cx} {W : XK} {C : CC}, XH X cls W Γ Co C → ∀ {op : BoolOp} {vs : List Expr} {pos : Pos} {a : E}, cB n C op vs = some a → PE X (.BoolOp op vs pos) (zE X cls W (evE Γ Co a))
  t : ∀ {X : Cx} {W : XK} {C : CC}, XH X cls W Γ Co C → ∀ {e : Expr} {a : T}, cT n C e = some a → PT X e (zT X cls W (evT Γ Co a))
  w : ∀ {X : Cx} {W : XK} {C : CC}, XH X cls W Γ Co C → ∀ {op : BoolOp} {vs : List Expr} {pos : Pos} {a : T}, cW n C op vs = some a → PW X (.BoolOp op vs pos) (zT X cls W (evT Γ Co a))
  ts : ∀ {X : Cx} {W : XK} {C : CC}, XH X cls W Γ Co C → ∀ {es : List Expr} {a : T}, cTs n C es = some a → PTs X es (zT X cls W (evT Γ Co a))
  es : ∀ {X : Cx} {W : XK} {C : CC}, XH X cls W Γ Co C → ∀ {es : List Expr} {a : Es}, cEs n C es = some a → (∀ e ∈ es, noStar e = true) ∧ PA X es (zA X cls W (evEs Γ Co a))
  ks : ∀ {X : Cx} {W : XK} {C : CC}, XH X cls W Γ Co C → ∀ {es : List Keyword} {a : Es}, cKs n C es = some a → PK X es (zA X cls W (evEs Γ Co a))
  o : ∀ {X : Cx} {W : XK} {C : CC}, XH X cls W Γ Co C → ∀ {o : Option Expr} {a : O}, cO n C o = some a → PO X o (zO X cls W (evO Γ Co a))
  i : ∀ {X : Cx} {W : XK} {C : CC}, XH X cls W Γ Co C → ∀ {tg e : Expr} {a : I}, cI n C (isTup tg) e = some a → PI X tg e (zI X cls W (evI Γ Co a))
section
variable {Γ : Calls} {Co : Consts} {cls : Str → Value} {n : Nat} {X : Cx} {W : XK} {C : CC}
theorem sn_zero : SN Γ Co cls 0 := by
  constructor <;> intros <;> rename_i h <;> first | (simp [cE] at h; done) | (simp [cL] at h; done) | (simp [cB] at h; done) | (simp [cT] at h; done) | (simp [cW] at h; done) | (simp [cTs] at h; done) | (simp [cEs] at h; done) | (simp [cKs] at h; done) | (simp [cO] at h; done) | (simp [cI] at h; done)
theorem es_step (S : SN Γ Co cls n) (h : XH X cls W Γ Co C) {es : List Expr} {a : Es} (hc : cEs (n + 1) C es = some a) : (∀ e ∈ es, noStar e = true) ∧ PA X es (zA X cls W (evEs Γ Co a)) := by
  unfold cEs at hc
  cases es with
  | nil =>
    cases hc
    exact ⟨(fun _ h => nomatch h), PAq z_nil fun _ _ => by first | rfl | (simp only [evEs]; done) | (simp only [evEs] <;> rfl)⟩
  | cons e es =>
    simp only [gd_some, Option.bind_eq_some_iff, Option.some.injEq] at hc
    obtain ⟨hs, e', he, es', hes, rfl⟩ := hc
    obtain ⟨h1, h2⟩ := S.es h hes
    exact ⟨fun x hx => by
      rcases List.mem_cons.mp hx with z | z
      · rw [z]; exact hs
      · exact h1 x z, PAq (z_cons hs (S.e h he) h2) fun _ _ => by first | rfl | (simp only [evEs]; done) | (simp only [evEs] <;> rfl)⟩
theorem ks_step (S : SN Γ Co cls n) (h : XH X cls W Γ Co C) {es : List Keyword} {a : Es} (hc : cKs (n + 1) C es = some a) : PK X es (zA X cls W (evEs Γ Co a)) := by
  unfold cKs at hc
  cases es with
  | nil =>
    cases hc
    exact PKq z_kN fun _ _ => by first | rfl | (simp only [evEs]; done) | (simp only [evEs] <;> rfl)
  | cons k es =>
    obtain ⟨nm, e, kp⟩ := k
    simp only [Option.bind_eq_some_iff, Option.some.injEq] at hc
    obtain ⟨e', he, es', hes, rfl⟩ := hc
    exact PKq (z_kC (S.e h he) (S.ks h hes)) fun _ _ => by first | rfl | (simp only [evEs]; done) | (simp only [evEs] <;> rfl)
theorem o_step (S : SN Γ Co cls n) (h : XH X cls W Γ Co C) {o : Option Expr} {a : O} (hc : cO (n + 1) C o = some a) : PO X o (zO X cls W (evO Γ Co a)) := by
  unfold cO at hc
  cases o with
  | none =>
    cases hc
    exact POq z_oN fun _ _ => by first | rfl | (simp only [evO]; done) | (simp only [evO] <;> rfl)
  | some e =>
    simp only [Option.bind_eq_some_iff, Option.some.injEq] at hc
    obtain ⟨e', he, rfl⟩ := hc
    exact POq (z_oS (S.e h he)) fun _ _ => by first | rfl | (simp only [evO]; done) | (simp only [evO] <;> rfl)
theorem ts_step (S : SN Γ Co cls n) (h : XH X cls W Γ Co C) {es : List Expr} {a : T} (hc : cTs (n + 1) C es = some a) : PTs X es (zT X cls W (evT Γ Co a)) := by
  unfold cTs at hc
  split at hc
  · cases hc
    refine ⟨fun pins s σ H Q I ⟨ρ, S, m, st, o⟩ => pts_nil.run pins s σ H Q I ?_⟩
    simp only [evT] at o
    exact o.fin st.sto rfl
  · exact pts_one (S.t h hc)
  · cases hc
theorem t_step (S : SN Γ Co cls n) (h : XH X cls W Γ Co C) {e : Expr} {a : T} (hc : cT (n + 1) C e = some a) : PT X e (zT X cls W (evT Γ Co a)) := by
  unfold cT at hc
  split at hc
  · simp only [Option.bind_eq_some_iff, Option.some.injEq] at hc
    obtain ⟨t, h1, rfl⟩ := hc
    exact PTq (z_notT (S.t h h1)) fun _ _ => by first | rfl | (simp only [evT]; done) | (simp only [evT] <;> rfl)
  · exact (S.w h hc).pt
  · simp only [Option.bind_eq_some_iff, Option.some.injEq] at hc
    obtain ⟨a', h1, rfl⟩ := hc
    unfold cCmp at h1
    split at h1
    · simp only [gd_some, Option.bind_eq_some_iff, Option.some.injEq, Bool.not_eq_true'] at h1
      obtain ⟨hm, o, ho, a1, ha, b1, hb, rfl⟩ := h1
      obtain rfl := cC_ok ho
      exact PTq (z_cmpT h.units o hm (S.e h ha) (S.e h hb)) fun _ _ => by first | rfl | (simp only [evT, evE] <;> rfl)
    · simp only [gd_some, Option.bind_eq_some_iff, Option.some.injEq, Bool.not_eq_true'] at h1
      obtain ⟨hm, o, ho, o', ho', a1, ha, b1, hb, c1, hc1, rfl⟩ := h1
      obtain rfl := cC_ok ho
      obtain rfl := cC_ok ho'
      exact PTq (z_chainT h.units o o' hm (S.e h ha) (S.e h hb) (S.e h hc1)) fun _ _ => by first | rfl | (simp only [evT, evE] <;> rfl)
    · cases h1
  · simp only [gd_some, Option.bind_eq_some_iff, Option.some.injEq] at hc
    obtain ⟨hp, a', h1, rfl⟩ := hc
    exact PTq (z_truth hp (S.e h h1)) fun _ _ => by first | rfl | (simp only [evT]; done) | (simp only [evT] <;> rfl)
theorem w_step (S : SN Γ Co cls n) (h : XH X cls W Γ Co C) {op : BoolOp} {vs : List Expr} {pos : Pos} {a : T} (hc : cW (n + 1) C op vs = some a) : PW X (.BoolOp op vs pos) (zT X cls W (evT Γ Co a)) := by
  unfold cW at hc
  split at hc
  · cases hc
  · cases op with
    | And => exact z_and1 (S.t h hc)
    | Or => exact z_or1 (S.t h hc)
  · simp only [Option.bind_eq_some_iff, Option.some.injEq] at hc
    obtain ⟨a1, h1, b1, h2, rfl⟩ := hc
    cases op with
    | And => exact PWq (z_andT (S.t h h1) (S.w h h2)) fun _ _ => by first | rfl | (simp only [evT] <;> rfl)
    | Or => exact PWq (z_orT (S.t h h1) (S.w h h2)) fun _ _ => by first | rfl | (simp only [evT] <;> rfl)
theorem b_step (S : SN Γ Co cls n) (h : XH X cls W Γ Co C) {op : BoolOp} {vs : List Expr} {pos : Pos} {a : E} (hc : cB (n + 1) C op vs = some a) : PE X (.BoolOp op vs pos) (zE X cls W (evE Γ Co a)) := by
  unfold cB at hc
  split at hc
  · cases hc
  · exact bool1 (S.e h hc)
  · simp only [Option.bind_eq_some_iff, Option.some.injEq] at hc
    obtain ⟨a1, h1, b1, h2, rfl⟩ := hc
    cases op with
    | And => exact PEq (z_andE (S.e h h1) (S.b h h2)) fun _ _ => by first | rfl | (simp only [evE] <;> rfl)
    | Or => exact PEq (z_orE (S.e h h1) (S.b h h2)) fun _ _ => by first | rfl | (simp only [evE] <;> rfl)
theorem l_step (S : SN Γ Co cls n) (h : XH X cls W Γ Co C) {elt tg iter : Expr} {ifs : List Expr} {scope : Scope} {a : E} (hc : cL (n + 1) C elt tg iter ifs scope = some a) :
    ∃ g i t e, a = .lc e g i t ((ownOf C scope).map (·.2)) ∧ LcOk X cls W Γ Co C elt tg iter ifs scope g i t e := by
  unfold cL at hc
  simp only [gd_some, Option.bind_eq_some_iff, Option.some.injEq, Bool.and_eq_true, Bool.not_eq_true', List.all_eq_true, List.contains_iff_mem] at hc
  obtain ⟨⟨hb, hs⟩, g, hg, i, hi, t, ht, e, he, hgo, rfl⟩ := hc
  exact ⟨g, i, t, e, rfl, S.i h hi, h.blkOk hb, fun s H A cl fp => cG_ok (h.blk hb s H A cl fp) hg, fun s H A cl fp => S.ts (h.blk hb s H A cl fp) ht, fun s H A cl fp => S.e (h.blk hb s H A cl fp) he, folded_of hs, hgo⟩
theorem i_step (S : SN Γ Co cls n) (h : XH X cls W Γ Co C) {tg e : Expr} {a : I} (hc : cI (n + 1) C (isTup tg) e = some a) : PI X tg e (zI X cls W (evI Γ Co a)) := by
  have plain : ∀ {e : Expr} {a : I}, ((cE n C e).bind fun e' => some (I.e e')) = some a → PI X tg e (zI X cls W (evI Γ Co a)) := fun {e a} hc => by
    simp only [Option.bind_eq_some_iff, Option.some.injEq] at hc
    obtain ⟨e', he, rfl⟩ := hc
    exact PIq (z_iE (S.e h he)) fun _ _ => by first | rfl | (simp only [evI] <;> rfl)
  unfold cI at hc
  split at hc
  · rename_i x q args pos
    split at hc
    · rename_i hk
      simp only [Bool.and_eq_true, List.all_eq_true] at hk
      obtain ⟨⟨⟨ok, gl⟩, bs⟩, ns⟩ := hk
      have hg := h.gl gl
      have hm := h.bs _ bs
      split at hc
      · rename_i e; subst e
        split at hc
        · simp only [Option.bind_eq_some_iff, Option.some.injEq] at hc
          obtain ⟨a1, ha, rfl⟩ := hc
          exact PIq (z_iR1 hg hm (ns _ (by simp)) (S.e h ha)) fun _ _ => by first | rfl | (simp only [evI] <;> rfl)
        · simp only [Option.bind_eq_some_iff, Option.some.injEq] at hc
          obtain ⟨a1, ha, b1, hb, rfl⟩ := hc
          exact PIq (z_iR2 hg hm (ns _ (by simp)) (ns _ (by simp)) (S.e h ha) (S.e h hb)) fun _ _ => by first | rfl | (simp only [evI] <;> rfl)
        · simp only [Option.bind_eq_some_iff, Option.some.injEq] at hc
          obtain ⟨a1, ha, b1, hb, c1, hc1, rfl⟩ := hc
          exact PIq (z_iR3 hg hm (ns _ (by simp)) (ns _ (by simp)) (ns _ (by simp)) (S.e h ha) (S.e h hb) (S.e h hc1)) fun _ _ => by first | rfl | (simp only [evI] <;> rfl)
        · cases hc
      · split at hc
        · rename_i e; subst e
          split at hc
          · simp only [gd_some, Option.bind_eq_some_iff, Option.some.injEq] at hc
            obtain ⟨tp, a1, ha, rfl⟩ := hc
            obtain ⟨es, k, q, rfl⟩ := isTup_of tp
            exact PIq (z_iEn hg hm (ns _ (by simp)) (S.e h ha)) fun _ _ => by first | rfl | (simp only [evI] <;> rfl)
          · cases hc
        · split at hc
          · rename_i e; subst e
            split at hc
            · simp only [gd_some, Option.bind_eq_some_iff, Option.some.injEq] at hc
              obtain ⟨tp, a1, ha, b1, hb, rfl⟩ := hc
              obtain ⟨es, k, q, rfl⟩ := isTup_of tp
              exact PIq (z_iZ hg hm (ns _ (by simp)) (ns _ (by simp)) (S.e h ha) (S.e h hb)) fun _ _ => by first | rfl | (simp only [evI] <;> rfl)
            · cases hc
          · split at hc
            · rename_i e; subst e
              split at hc
              · simp only [Option.bind_eq_some_iff, Option.some.injEq] at hc
                obtain ⟨a1, ha, rfl⟩ := hc
                exact PIq (z_iRev hg hm (ns _ (by simp)) (S.e h ha)) fun _ _ => by first | rfl | (simp only [evI] <;> rfl)
              · cases hc
            · exact plain hc
    · exact plain hc
  · exact plain hc
end
end Z
end
section
set_option Elab.async false
set_option linter.all false
set_option autoImplicit false
set_option maxRecDepth 100000
set_option maxHeartbeats 8000000
/-! Z9: the text's expressions, by induction: the large case. -/
namespace Z
open PySem PySem.Spec PyProof.Rows L2
section
variable {Γ : Calls} {Co : Consts} {cls : Str → Value} {n : Nat} {X : Cx} {W : XK} {C : CC}
theorem name_step (h : XH X cls W Γ Co C) {x : Str} {pos : Pos} {a : E} (hc : cN C x = some a) : PE X (.Name x pos) (zE X cls W (evE Γ Co a)) := by
  unfold cN at hc
  rw [gd_some] at hc
  obtain ⟨ok, hc⟩ := hc
  obtain ⟨k1, k2, k3⟩ := okName_of ok
  split at hc
  · rename_i i hi
    rw [gd_some] at hc
    obtain ⟨hv, hc⟩ := hc
    cases hc
    refine PEq (z_var (by rw [h.hN]; exact ixOf_ok hi) (vis_of (by rw [h.sc]; exact hv)) k1 k2) fun _ _ => by first | rfl | (simp only [evE] <;> rfl)
  · rw [gd_some, Bool.and_eq_true] at hc
    obtain ⟨⟨hg, hk⟩, hc⟩ := hc
    cases hc
    obtain ⟨d, v, u, e1, e2, e3, e4⟩ := h.cs x hk
    refine PEq (z_const (pe_glob (h.gl hg) e2 e3 k1) e4) fun _ _ => ?_
    simp only [evE, e1, optR_some]
theorem const_step {c : Const} {k : Nat} {pos : Pos} {d : D} (hc : cK c = some d) : PE X (.Constant c k pos) (zE X cls W (evE Γ Co (.c d))) := by
  cases c <;> simp only [cK, gd_some, Option.some.injEq, reduceCtorEq] at hc
  · subst hc; exact PEq (z_const pe_non fun _ _ _ => .non) fun _ _ => by first | rfl | (simp only [evE] <;> rfl)
  · subst hc; exact PEq (z_const pe_bl fun _ _ _ => .bl _) fun _ _ => by first | rfl | (simp only [evE] <;> rfl)
  · subst hc; exact PEq (z_const pe_int fun _ _ _ => .int _) fun _ _ => by first | rfl | (simp only [evE] <;> rfl)
  · obtain ⟨hs, rfl⟩ := hc
    exact PEq (z_const pe_str fun _ _ _ => .str _ hs) fun _ _ => by first | rfl | (simp only [evE] <;> rfl)
theorem sub_step (S : SN Γ Co cls n) (h : XH X cls W Γ Co C) {e a b : Expr} {pos : Pos} {r : E} (hc : cE (n + 1) C (.Subscript a b pos) = some r) : PE X (.Subscript a b pos) (zE X cls W (evE Γ Co r)) := by
  unfold cE at hc
  dsimp only at hc
  split at hc
  · rename_i lo hi st p2
    split at hc
    · simp only [Option.bind_eq_some_iff, Option.some.injEq] at hc
      obtain ⟨a1, ha, l1, hl, h1, hh, rfl⟩ := hc
      exact PEq (z_sl (S.e h ha) (S.o h hl) (S.o h hh)) fun _ _ => by first | rfl | (simp only [evE] <;> rfl)
    · split at hc
      · simp only [gd_some, Option.bind_eq_some_iff, Option.some.injEq] at hc
        obtain ⟨e1, a1, ha, rfl⟩ := hc
        have e2 := eq_of_beq e1
        subst e2
        exact PEq (z_rev (S.e h ha)) fun _ _ => by first | rfl | (simp only [evE] <;> rfl)
      · cases hc
    · cases hc
  · simp only [gd_some, Option.bind_eq_some_iff, Option.some.injEq] at hc
    obtain ⟨hb, a1, ha, b1, hb1, rfl⟩ := hc
    exact PEq (z_ix (plainIx_of hb) (S.e h ha) (S.e h hb1)) fun _ _ => by first | rfl | (simp only [evE] <;> rfl)
theorem mt_facts {nm : Str} {k : Nat} (m : Mt) : mtOf nm k = some m → ∃ id : String, (match m with | .append => "list.append" | .pop => "list.pop" | .popAt => "list.pop" | .extend => "list.extend") = id ∧ Slot "list" nm id ∧ typeOf (.builtin id) = pure (.type "method_descriptor") := by
  intro h
  unfold mtOf at h
  by_cases e1 : nm = ("append" : Str)
  · rw [if_pos e1] at h
    by_cases k1 : k = 1
    · rw [if_pos k1] at h
      cases h; subst e1; exact ⟨_, rfl, PySem.F.slot_list_append, PySem.F.type_list_append⟩
    · rw [if_neg k1] at h; cases h
  · rw [if_neg e1] at h
    by_cases e2 : nm = ("pop" : Str)
    · rw [if_pos e2] at h
      by_cases k0 : k = 0
      · rw [if_pos k0] at h
        cases h; subst e2; exact ⟨_, rfl, PySem.F.slot_list_pop, PySem.F.type_list_pop⟩
      · rw [if_neg k0] at h
        by_cases k1 : k = 1
        · rw [if_pos k1] at h
          cases h; subst e2; exact ⟨_, rfl, PySem.F.slot_list_pop, PySem.F.type_list_pop⟩
        · rw [if_neg k1] at h; cases h
    · rw [if_neg e2] at h
      by_cases e3 : nm = ("extend" : Str)
      · rw [if_pos e3] at h
        by_cases k1 : k = 1
        · rw [if_pos k1] at h
          cases h; subst e3; exact ⟨_, rfl, PySem.F.slot_list_extend, PySem.F.type_list_extend⟩
        · rw [if_neg k1] at h; cases h
      · rw [if_neg e3] at h; cases h
theorem bi_facts {x : Str} {b : Bi} (h : biOf x = some b) : (∃ id : String, biVal b = some (.builtin id) ∧ bootBuiltins x = some (.builtin id)) ∨ (∃ id : String, biVal b = some (.type id) ∧ bootBuiltins x = some (.type id)) := by
  unfold biOf at h
  repeat' split at h
  all_goals first
    | (cases h; done)
    | (rename_i e; subst e; cases h; first
        | exact .inl ⟨_, rfl, by decide +kernel⟩
        | exact .inr ⟨_, rfl, by decide +kernel⟩)
theorem ty_facts {t : Str} {b : Bi} (h : tyOf t = some b) : ∃ nn : String, isTy b = some nn ∧ bootBuiltins t = some (.type nn) ∧ t ≠ ("__name__" : Str) ∧ (t == ("__debug__" : Str)) = false := by
  unfold tyOf at h
  repeat' split at h
  all_goals first
    | (cases h; done)
    | (rename_i e; subst e; cases h; exact ⟨_, rfl, by decide +kernel, by decide, by decide⟩)
theorem call_step (S : SN Γ Co cls n) (h : XH X cls W Γ Co C) {f : Expr} {args : List Expr} {kws : List Keyword} {cpos : Pos} {r : E} (hc : cE (n + 1) C (.Call f args kws cpos) = some r) : PE X (.Call f args kws cpos) (zE X cls W (evE Γ Co r)) := by
  unfold cE at hc
  dsimp only at hc
  split at hc
  · rename_i x p2
    rw [gd_some, Bool.and_eq_true] at hc
    obtain ⟨⟨ok, gl⟩, hc⟩ := hc
    obtain ⟨k1, k2, k3⟩ := okName_of ok
    have hg := h.gl gl
    split at hc
    · rename_i ps hf
      have F := h.fns _ _ hf
      split at hc
      · simp only [Option.bind_eq_some_iff, Option.some.injEq] at hc
        obtain ⟨es, hes, rfl⟩ := hc
        obtain ⟨ns, pa⟩ := S.es h hes
        cases args with
        | nil =>
          have e0 : es = .nil := by
            cases n with
            | zero => simp [cEs] at hes
            | succ n => simp only [cEs, Option.some.injEq] at hes; exact hes.symm
          subst e0
          exact PEq (z_call0 F h.pass hg k1) fun _ _ => by simp only [evE, evEs]
        | cons e es' => exact PEq (z_call F h.pass hg k1 ns pa) fun _ _ => by first | rfl | (simp only [evE] <;> rfl)
      · simp only [gd_some, Bool.and_eq_true, decide_eq_true_eq, List.isEmpty_iff, Option.bind_eq_some_iff, Option.some.injEq] at hc
        obtain ⟨⟨⟨ea, hk⟩, kwx⟩, es, hes, rfl⟩ := hc
        rw [kwx] at F
        subst ea
        obtain ⟨q1, q2, q3⟩ := kw_all ((kw_some (env := X.env) (q := cpos)).trans hk)
        exact PEq (z_callK F h.pass hg k1 q1 q2 q3 (S.ks h hes)) fun _ _ => by first | rfl | (simp only [evE] <;> rfl)
    · split at hc
      · rename_i e as
        split at hc
        · rename_i hgc
          simp only [Option.bind_eq_some_iff, Option.some.injEq] at hc
          obtain ⟨es, hes, rfl⟩ := hc
          obtain ⟨ns, pa⟩ := S.es h hes
          exact PEq (z_biG h.calm rfl hg (h.gcds _ hgc) k1 ns pa) fun _ _ => by first | rfl | (simp only [evE] <;> rfl)
        · rw [gd_some] at hc
          obtain ⟨hb, hc⟩ := hc
          have hm := h.bs _ hb
          split at hc
          · rename_i e1
            subst e1
            split at hc
            · rename_i t p3
              simp only [gd_some, Bool.and_eq_true, Option.bind_eq_some_iff, Option.some.injEq] at hc
              obtain ⟨⟨⟨ht, hgt⟩, hs⟩, b, hb1, a1, ha, rfl⟩ := hc
              obtain ⟨nn, t1, t2, t3, t4⟩ := ty_facts hb1
              refine PEq (z_is t1 hg hm (h.gl hgt) (h.bs _ ht) t2 t3 t4 hs (S.e h ha)) fun ρ Sx => ?_
              simp only [evE, evEs]
              cases evE Γ Co a1 ρ Sx <;> rfl
            · cases hc
          · simp only [Option.bind_eq_some_iff, Option.some.injEq] at hc
            obtain ⟨b, hb1, es, hes, rfl⟩ := hc
            obtain ⟨ns, pa⟩ := S.es h hes
            rcases bi_facts hb1 with ⟨id, b1, b2⟩ | ⟨id, b1, b2⟩
            · exact PEq (z_biB h.calm b1 hg hm b2 k3 k1 ns pa) fun _ _ => by first | rfl | (simp only [evE] <;> rfl)
            · exact PEq (z_biT h.calm b1 hg hm b2 k3 k1 ns pa) fun _ _ => by first | rfl | (simp only [evE] <;> rfl)
      · cases hc
  · rename_i o nm apos
    split at hc
    · simp only [gd_some, Bool.and_eq_true, Option.bind_eq_some_iff, Option.some.injEq] at hc
      obtain ⟨⟨so, hl⟩, m, hm, o1, ho, rfl⟩ := hc
      obtain ⟨id, m1, m2, m3⟩ := mt_facts m hm
      exact PEq (z_mt0 m1 m2 m3 so hl (S.e h ho)) fun _ _ => by first | rfl | (simp only [evE, evEs] <;> rfl)
    · simp only [gd_some, Bool.and_eq_true, Option.bind_eq_some_iff, Option.some.injEq] at hc
      obtain ⟨⟨so, hl⟩, m, hm, o1, ho, es, hes, rfl⟩ := hc
      obtain ⟨id, m1, m2, m3⟩ := mt_facts m hm
      obtain ⟨ns, pa⟩ := S.es h hes
      exact PEq (z_mt1 m1 m2 m3 so hl (ns _ (by simp)) (S.e h ho) pa) fun _ _ => by first | rfl | (simp only [evE] <;> rfl)
    · cases hc
  · cases hc
theorem e_step (S : SN Γ Co cls n) (h : XH X cls W Γ Co C) {e : Expr} {r : E} (hc : cE (n + 1) C e = some r) : PE X e (zE X cls W (evE Γ Co r)) := by
  cases e with
  | Subscript a b pos => exact sub_step (e := a) S h hc
  | Call f args kws cpos => exact call_step S h hc
  | Constant c k pos =>
    unfold cE at hc
    simp only [Option.map_eq_some_iff] at hc
    obtain ⟨d, h1, rfl⟩ := hc
    exact const_step h1
  | Name x pos =>
    unfold cE at hc
    exact name_step h hc
  | BinOp a op b pos =>
    unfold cE at hc
    simp only [Option.bind_eq_some_iff, Option.some.injEq] at hc
    obtain ⟨o, ho, a1, ha, b1, hb, rfl⟩ := hc
    obtain rfl := cOp_ok ho
    exact PEq (z_bin o (S.e h ha) (S.e h hb)) fun _ _ => by first | rfl | (simp only [evE] <;> rfl)
  | UnaryOp op a pos =>
    unfold cE at hc
    cases op with
    | USub =>
      simp only [Option.bind_eq_some_iff, Option.some.injEq] at hc
      obtain ⟨a1, ha, rfl⟩ := hc
      exact PEq (z_neg (S.e h ha)) fun _ _ => by first | rfl | (simp only [evE] <;> rfl)
    | Not =>
      simp only [Option.bind_eq_some_iff, Option.some.injEq] at hc
      obtain ⟨a1, ha, rfl⟩ := hc
      exact PEq (z_notE (S.e h ha)) fun _ _ => by first | rfl | (simp only [evE] <;> rfl)
    | _ => cases hc
  | IfExp t a b pos =>
    unfold cE at hc
    simp only [Option.bind_eq_some_iff, Option.some.injEq] at hc
    obtain ⟨t1, ht, a1, ha, b1, hb, rfl⟩ := hc
    exact PEq (z_ite (S.t h ht) (S.e h ha) (S.e h hb)) fun _ _ => by first | rfl | (simp only [evE] <;> rfl)
  | BoolOp op vs pos =>
    unfold cE at hc
    exact S.b h hc
  | Compare a ops bs pos =>
    unfold cE at hc
    dsimp only at hc
    unfold cCmp at hc
    split at hc
    · simp only [gd_some, Option.bind_eq_some_iff, Option.some.injEq, Bool.not_eq_true'] at hc
      obtain ⟨hm, o, ho, a1, ha, b1, hb, rfl⟩ := hc
      obtain rfl := cC_ok ho
      exact PEq (z_cmp h.units o hm (S.e h ha) (S.e h hb)) fun _ _ => by first | rfl | (simp only [evE] <;> rfl)
    · simp only [gd_some, Option.bind_eq_some_iff, Option.some.injEq, Bool.not_eq_true'] at hc
      obtain ⟨hm, o, ho, o', ho', a1, ha, b1, hb, c1, hc1, rfl⟩ := hc
      obtain rfl := cC_ok ho
      obtain rfl := cC_ok ho'
      exact PEq (z_chain h.units o o' hm (S.e h ha) (S.e h hb) (S.e h hc1)) fun _ _ => by first | rfl | (simp only [evE] <;> rfl)
    · cases hc
  | Tuple es k pos =>
    unfold cE at hc
    simp only [Option.bind_eq_some_iff, Option.some.injEq] at hc
    obtain ⟨es1, hes, rfl⟩ := hc
    exact PEq (z_tup (S.es h hes).2) fun _ _ => by first | rfl | (simp only [evE] <;> rfl)
  | List es pos =>
    unfold cE at hc
    simp only [Option.bind_eq_some_iff, Option.some.injEq] at hc
    obtain ⟨es1, hes, rfl⟩ := hc
    exact PEq (z_lst (S.es h hes).2) fun _ _ => by first | rfl | (simp only [evE] <;> rfl)
  | ListComp elt gens scope pos =>
    unfold cE at hc
    dsimp only at hc
    split at hc
    · obtain ⟨g, i, t, e, rfl, k⟩ := S.l h hc
      exact PEq (z_lc h.calm h.nd k.it k.ok k.hg k.ht k.he k.hs k.hgo) fun _ _ => by first | rfl | (simp only [evE] <;> rfl)
    · cases hc
  | _ => unfold cE at hc; cases hc
theorem sn_all : ∀ n : Nat, SN Γ Co cls n
  | 0 => sn_zero
  | n + 1 =>
    have S := sn_all n
    { e := fun h _ _ hc => e_step S h hc
      l := fun h _ _ _ _ _ _ hc => l_step S h hc
      b := fun h _ _ _ _ hc => b_step S h hc
      t := fun h _ _ hc => t_step S h hc
      w := fun h _ _ _ _ hc => w_step S h hc
      ts := fun h _ _ hc => ts_step S h hc
      es := fun h _ _ hc => es_step S h hc
      ks := fun h _ _ hc => ks_step S h hc
      o := fun h _ _ hc => o_step S h hc
      i := fun h _ _ _ hc => i_step S h hc }
end
end Z
end
section
set_option Elab.async false
set_option linter.all false
set_option autoImplicit false
set_option maxRecDepth 100000
set_option maxHeartbeats 8000000
/-! Z10: the text's statements, by induction; a def; all defs by the depth of their calls. -/
namespace Z
open PySem PySem.Spec PyProof.Rows L2
section
variable {Γ : Calls} {Co : Consts} {cls : Str → Value} {n : Nat} {X : Cx} {W : XK} {C : CC} {pos : Pos}
theorem PSq {e : Stmt} {z z' : Rho → Sto → F} (h : PS X e (zS X cls W z)) (hz : ∀ ρ S, z' ρ S = z ρ S) : PS X e (zS X cls W z') := by
  have : z' = z := by funext ρ S; exact hz ρ S
  rw [this]; exact h
theorem PSsq {e : List Stmt} {z z' : Rho → Sto → F} (h : PSs X e (zS X cls W z)) (hz : ∀ ρ S, z' ρ S = z ρ S) : PSs X e (zS X cls W z') := by
  have : z' = z := by funext ρ S; exact hz ρ S
  rw [this]; exact h
theorem sw_no {e : Expr} {o : Option Expr} {l : Nat} {env : Env} (h : isComp e = false) : swapsWith e o l env = pure false := by
  cases e <;> first | (cases h; done) | rfl
theorem sw_tup {e : Expr} {ts : List Expr} {k : Nat} {p : Pos} {l : Nat} {env : Env} : swapsWithSole [.Tuple ts k p] e l env = pure false := by cases e <;> rfl
theorem sw_sub {e a b : Expr} {p : Pos} {l : Nat} {env : Env} : swapsWithSole [.Subscript a b p] e l env = pure false := by cases e <;> rfl
theorem ss_sub {e a b : Expr} {p : Pos} {env : Env} : swappedStores [.Subscript a b p] e env = pure none := by cases e <;> rfl
theorem ss_tup {e : Expr} {ts : List Expr} {k : Nat} {p : Pos} {env : Env} (h : isTup e = false) : swappedStores [.Tuple ts k p] e env = pure none := by
  cases e <;> first | (cases h; done) | rfl
theorem sw_lc {C : CC} {x : Str} {p lp : Pos} {elt : Expr} {gs : List Comprehension} {scope : Scope} {l : Nat} {env : Env} (hk : env.scope.kind = .function) (hs : env.scope = C.sc) :
    swapsWith (.ListComp elt gs scope lp) (some (.Name x p)) l env = pure (swB C x p scope lp) := by
  have hb : env.blockKind = .function := by unfold Env.blockKind; rw [hk]; rfl
  unfold swapsWith swB
  have e1 : (env.kindOf x == some NameKind.local) = isLocal (kindIn C x) := by
    unfold kindIn; rw [← hs]
    show (env.scope.names.lookup x == some NameKind.local) = _
    unfold isLocal
    cases env.scope.names.lookup x with
    | none => rfl
    | some k => cases k <;> rfl
  simp only [hb, e1, Expr.pos]
  rfl
theorem hp_sub {ob i : Expr} {p : Pos} {env : Env} (h : noSlice i = true) (v : Value) : assign (.Subscript ob i p) env v = (do
      let ov ← holding [v] (eval ob env)
      let iv ← holding [v, ov] (eval i env)
      standAt p
      holding [v, ov, iv] (setItem ov iv v)
      release [v, ov, iv] []) := by
  cases i <;> first | (cases h; done) | rfl
theorem aug_sub {i : Expr} (h : noSlice i = true) (ov iv new : Value) : augStore i ov iv new = (do holding [new, ov, iv] (setItem ov iv new); release [new, ov, iv] []; pure .next) := by
  cases i <;> first | (cases h; done) | rfl
theorem strC_of {e : Expr} (h : isStrC e = true) : ∃ x k p, e = .Constant (.str x) k p := by
  cases e with
  | Constant c k p => cases c <;> first | exact ⟨_, _, _, rfl⟩ | (cases h; done)
  | _ => cases h
theorem names2 {x y : Str} {p q : Pos} {xs : List Str} (h : namesAre [.Name x p, .Name y q] xs = true) : xs = [x, y] := by
  match xs, h with
  | [a, b], h =>
    simp only [namesAre, Bool.and_eq_true, beq_iff_eq] at h
    rw [h.1, h.2.1]
  | [], h => simp [namesAre] at h
  | [_], h => simp [namesAre] at h
  | _ :: _ :: _ :: _, h => simp [namesAre] at h
theorem names3 {x y z : Str} {p q r : Pos} {xs : List Str} (h : namesAre [.Name x p, .Name y q, .Name z r] xs = true) : xs = [x, y, z] := by
  match xs, h with
  | [a, b, c], h =>
    simp only [namesAre, Bool.and_eq_true, beq_iff_eq] at h
    rw [h.1, h.2.1, h.2.2.1]
  | [], h => simp [namesAre] at h
  | [_], h => simp [namesAre] at h
  | [_, _], h => simp [namesAre] at h
  | _ :: _ :: _ :: _ :: _, h => simp [namesAre] at h
theorem s_all (h : XH X cls W Γ Co C) (hk : X.env.scope.kind = .function) (hp : PassesOwn (model X.prog X.w) X.A X.env X.xe) : ∀ n : Nat, (∀ {s : Stmt} {a : St}, cS n C s = some a → PS X s (zS X cls W (evS Γ Co a))) ∧ (∀ {s : List Stmt} {a : Sts}, cSs n C s = some a → PSs X s (zS X cls W (evSs Γ Co a)))
  | 0 => ⟨fun {s a} h => by simp [cS] at h, fun {s a} h => by simp [cSs] at h⟩
  | n + 1 => by
    obtain ⟨ih1, ih2⟩ := s_all h hk hp n
    have S := sn_all (Γ := Γ) (Co := Co) (cls := cls) n
    refine ⟨fun {s a} hc => ?_, fun {s a} hc => ?_⟩
    · unfold cS at hc
      split at hc
      · cases hc; exact PSq (s_nx ps_pass) fun _ _ => by first | rfl | (simp only [evS] <;> rfl)
      · cases hc; exact PSq s_brk fun _ _ => by first | rfl | (simp only [evS] <;> rfl)
      · cases hc; exact PSq s_cont fun _ _ => by first | rfl | (simp only [evS] <;> rfl)
      · cases hc; exact PSq s_retN fun _ _ => by first | rfl | (simp only [evS] <;> rfl)
      · simp only [Option.bind_eq_some_iff, Option.some.injEq] at hc
        obtain ⟨e1, he, rfl⟩ := hc
        exact PSq (s_ret (S.e h he)) fun _ _ => by first | rfl | (simp only [evS] <;> rfl)
      · rename_i e p
        split at hc
        · rename_i hs
          cases hc
          obtain ⟨x, k, q, rfl⟩ := strC_of hs
          exact PSq (s_nx ps_doc) fun _ _ => by first | rfl | (simp only [evS] <;> rfl)
        · simp only [gd_some, Option.bind_eq_some_iff, Option.some.injEq, Bool.not_eq_true'] at hc
          obtain ⟨hi, e1, he, rfl⟩ := hc
          exact PSq (s_expr (S.e h he) (sw_no hi)) fun _ _ => by first | rfl | (simp only [evS] <;> rfl)
      · simp only [Option.bind_eq_some_iff, Option.some.injEq] at hc
        obtain ⟨t1, ht, a1, ha, b1, hb, rfl⟩ := hc
        exact PSq (s_if (S.t h ht) (ih2 ha) (ih2 hb)) fun _ _ => by first | rfl | (simp only [evS] <;> rfl)
      · simp only [Option.bind_eq_some_iff, Option.some.injEq] at hc
        obtain ⟨t1, ht, b1, hb, rfl⟩ := hc
        exact PSq (s_while turns hp (S.t h ht) (ih2 hb)) fun _ _ => by first | rfl | (simp only [evS] <;> rfl)
      · simp only [gd_some, Option.bind_eq_some_iff, Option.some.injEq, Bool.not_eq_true'] at hc
        obtain ⟨hs, g, hg, i, hi, b1, hb, rfl⟩ := hc
        exact PSq (s_for hp h.calm (S.i h hi) (cG_ok h hg) (ih2 hb) (folded_of hs)) fun _ _ => by first | rfl | (simp only [evS] <;> rfl)
      · simp only [gd_some, Option.bind_eq_some_iff, Option.some.injEq, Bool.and_eq_true] at hc
        obtain ⟨hl, i, hi, o, ho, e1, he, rfl⟩ := hc
        obtain rfl := cOp_ok ho
        obtain ⟨q1, q2⟩ := h.storable (by simp only [Bool.or_eq_true, Bool.and_eq_true]; exact .inr hl)
        exact PSq (s_aug o h.nd (by rw [h.hN]; exact ixOf_ok hi) q1 (S.e h he) q2) fun _ _ => by first | rfl | (simp only [evS] <;> rfl)
      · simp only [gd_some, Option.bind_eq_some_iff, Option.some.injEq] at hc
        obtain ⟨hn, o, ho, ob, hob, i, hi, e1, he, rfl⟩ := hc
        obtain rfl := cOp_ok ho
        exact PSq (s_augix o (aug_sub hn) (S.e h hob) (S.e h hi) (S.e h he)) fun _ _ => by first | rfl | (simp only [evS] <;> rfl)
      · rename_i x p elt tg iter ifs scope lp sp
        have hsw := fun l => sw_lc (C := C) (x := x) (p := p) (lp := lp) (elt := elt) (gs := [⟨tg, iter, ifs, 0⟩]) (scope := scope) (l := l) hk h.sc
        split at hc
        · rename_i hb
          simp only [Option.bind_eq_some_iff, Option.some.injEq] at hc
          obtain ⟨i, hi, e1, he, rfl⟩ := hc
          obtain ⟨g, i2, t, e, rfl, k⟩ := S.l h he
          have hl : isLocal (kindIn C x) = true := by
            unfold swB at hb
            simp only [Bool.and_eq_true] at hb
            exact hb.1.1
          exact PSq (s_setLc h.calm h.nd (by rw [h.hN]; exact ixOf_ok hi) (by have := local_of hl; unfold kindIn at this; rw [← h.sc] at this; exact this) (by rw [hsw, hb]) k.it k.ok k.hg k.ht k.he k.hs k.hgo) fun _ _ => by first | rfl | (simp only [evS] <;> rfl)
        · rename_i hb
          simp only [gd_some, Option.bind_eq_some_iff, Option.some.injEq, Bool.and_eq_true] at hc
          obtain ⟨hl, i, hi, e1, he, rfl⟩ := hc
          obtain ⟨g, i2, t, e, rfl, k⟩ := S.l h he
          obtain ⟨q1, q2⟩ := h.storable (x := x) (by simp only [Bool.or_eq_true, Bool.and_eq_true]; exact .inr hl)
          exact PSq (s_set h.nd (by rw [h.hN]; exact ixOf_ok hi) q1 (PEq (z_lc h.calm h.nd k.it k.ok k.hg k.ht k.he k.hs k.hgo) fun _ _ => by first | rfl | (simp only [evE] <;> rfl)) (by rw [hsw, hb]) q2) fun _ _ => by first | rfl | (simp only [evS] <;> rfl)
      · simp only [gd_some, Option.bind_eq_some_iff, Option.some.injEq, Bool.and_eq_true, Bool.not_eq_true'] at hc
        obtain ⟨⟨hl, hi0⟩, i, hi, e1, he, rfl⟩ := hc
        obtain ⟨q1, q2⟩ := h.storable (by simp only [Bool.or_eq_true, Bool.and_eq_true]; exact .inr hl)
        exact PSq (s_set h.nd (by rw [h.hN]; exact ixOf_ok hi) q1 (S.e h he) (sw_no hi0) q2) fun _ _ => by first | rfl | (simp only [evS] <;> rfl)
      · rename_i ts k p vs k2 p2 sp
        split at hc
        · rename_i hsw
          simp only [Option.bind_eq_some_iff, Option.some.injEq] at hc
          obtain ⟨g, hg, e1, he, rfl⟩ := hc
          rw [← h.sc] at hsw
          exact PSq (s_tset (S.e h he) (cG_ok h hg) sw_tup (swpM_ok hk hsw) rfl) fun _ _ => by first | rfl | (simp only [evS] <;> rfl)
        · rename_i xs hsw
          simp only [gd_some, Option.bind_eq_some_iff, Option.some.injEq] at hc
          obtain ⟨hn, is, his, es, hes, rfl⟩ := hc
          rw [← h.sc] at hsw
          have hw := swpM_ok (k := k) (p := p) (k2 := k2) (p2 := p2) hk hsw
          obtain ⟨ns, pa⟩ := S.es h hes
          unfold parOf at his
          split at his
          · simp only [gd_some, Option.bind_eq_some_iff, Option.some.injEq, Bool.and_eq_true, bne_iff_ne] at his
            obtain ⟨i, hi, j, hj, ⟨⟨l1, l2⟩, hij⟩, rfl⟩ := his
            obtain rfl := names2 hn
            have q1 := local_of l1
            have q2 := local_of l2
            unfold kindIn at q1 q2
            rw [← h.sc] at q1 q2
            exact PSq (s_par2 h.calm h.nd (by rw [h.hN]; exact ixOf_ok hi) (by rw [h.hN]; exact ixOf_ok hj) hij q1 q2 pa hw) fun _ _ => by first | rfl | (simp only [evS] <;> rfl)
          · simp only [gd_some, Option.bind_eq_some_iff, Option.some.injEq, Bool.and_eq_true, bne_iff_ne] at his
            obtain ⟨i, hi, j, hj, l, hl, ⟨⟨⟨⟨⟨l1, l2⟩, l3⟩, hij⟩, hil⟩, hjl⟩, rfl⟩ := his
            obtain rfl := names3 hn
            have q1 := local_of l1
            have q2 := local_of l2
            have q3 := local_of l3
            unfold kindIn at q1 q2 q3
            rw [← h.sc] at q1 q2 q3
            exact PSq (s_par3 h.calm h.nd (by rw [h.hN]; exact ixOf_ok hi) (by rw [h.hN]; exact ixOf_ok hj) (by rw [h.hN]; exact ixOf_ok hl) hij hil hjl q1 q2 q3 pa hw) fun _ _ => by first | rfl | (simp only [evS] <;> rfl)
          · cases his
        · cases hc
      · simp only [gd_some, Option.bind_eq_some_iff, Option.some.injEq, Bool.not_eq_true'] at hc
        obtain ⟨ht, g, hg, e1, he, rfl⟩ := hc
        exact PSq (s_tset (S.e h he) (cG_ok h hg) sw_tup (ss_tup ht) rfl) fun _ _ => by first | rfl | (simp only [evS] <;> rfl)
      · simp only [gd_some, Option.bind_eq_some_iff, Option.some.injEq] at hc
        obtain ⟨hn, ob, hob, i, hi, e1, he, rfl⟩ := hc
        exact PSq (s_setix (hp_sub hn) (S.e h hob) (S.e h hi) (S.e h he) sw_sub ss_sub) fun _ _ => by first | rfl | (simp only [evS] <;> rfl)
      · cases hc
    · unfold cSs at hc
      split at hc
      · cases hc; exact PSsq s_nil fun _ _ => by first | rfl | (simp only [evSs] <;> rfl)
      · simp only [Option.bind_eq_some_iff, Option.some.injEq] at hc
        obtain ⟨s1, h1, ss, h2, rfl⟩ := hc
        exact PSsq (s_cons (ih1 h1) (ih2 h2)) fun _ _ => by first | rfl | (simp only [evSs] <;> rfl)
end
end Z
end
section
set_option Elab.async false
set_option linter.all false
set_option autoImplicit false
set_option maxRecDepth 100000
set_option maxHeartbeats 8000000
/-! Z11: defs; all defs by the depth of their calls; the law. -/
namespace Z
open PySem PySem.Spec PyProof.Rows L2
section
variable {P : Program} {w : World} {K : PySem.W.Frag} {mg : Str → Option Value} {base : Heap} {cls : Str → Value} {Co : Consts}
/-- what a def's run gives, by its flow -/
def flowR (f : F) : R D := match f with
  | .rt d S => .ok d S
  | .nx _ S => .ok .non S
  | .exc c fs S => .exc c fs S
  | _ => .bad
theorem runFn_eq {Γ : Calls} {fn : Fn} {ds : List D} {S : Sto} : runFn Γ Co fn ds S = if ds.length = fn.np then flowR (evSs Γ Co fn.body (ds.map some ++ List.replicate (fn.nv - fn.np) none) S) else .bad := by
  unfold runFn flowR
  split
  · cases evSs Γ Co fn.body (ds.map some ++ List.replicate (fn.nv - fn.np) none) S <;> rfl
  · rfl
theorem repDs_loc {H : Hp} {m : Nat → Addr} {N k : Nat} {ds : List D} {vs : List V} (r : RepDs K H m N ds vs) (i : Nat) (d : D) (h : (ds.map some ++ List.replicate k (none : Option D))[i]? = some (some d)) :
    ∃ v, (vs.map some ++ List.replicate k (none : Option V))[i]? = some (some v) ∧ RepD K H m N d v := by
  have hl := r.length
  by_cases hi : i < ds.length
  · rw [List.getElem?_append_left (by simpa using hi)] at h
    simp only [List.getElem?_map, Option.map_eq_some_iff, Option.some.injEq] at h
    obtain ⟨d', h1, rfl⟩ := h
    obtain ⟨v, h2, h3⟩ := r.get h1
    refine ⟨v, ?_, h3⟩
    rw [List.getElem?_append_left (by simpa [← hl] using hi)]
    simp [h2]
  · rw [List.getElem?_append_right (by simpa using Nat.le_of_not_lt hi)] at h
    rw [List.getElem?_replicate] at h
    split at h <;> cases h
/-- a def of the module, by its body -/
structure DefOk (K : PySem.W.Frag) (mg : Str → Option Value) (fns : List (Str × List Str)) (cs gcds bs kws : List Str) (x : Str) (ps : List Str) (fn : Fn) : Prop where
  ex : ∃ (name qual : Str) (params : Arguments) (body : List Stmt) (scope : Scope) (f : Addr) (fd : FuncData) (N : List Str) (m : Nat), FunD K name qual params body scope [] [] f fd ∧ mg x = some (.ref f) ∧ (∀ (s : Shared) (us : List Value), us.length = ps.length → BindsTo s fd ⟨us, []⟩ (ps.zip us)) ∧
    (kws.contains x = true → ∀ (s : Shared) (ws : List Value), K.In s.heap → ws.length = ps.length → BindsTo s fd ⟨[], ps.zip ws⟩ (ps.zip ws)) ∧ FnScope N ps scope ∧
    cSs m ⟨N, scope, fns, cs, gcds, bs, true, kws⟩ body = some fn.body ∧ fn.np = ps.length ∧ fn.nv = N.length
variable {fns : List (Str × List Str)} {cs gcds bs kws : List Str}
/-- what the module knows -/
structure ModOk (K : PySem.W.Frag) (mg : Str → Option Value) (Co : Consts) (cs gcds bs : List Str) : Prop where
  cs : ∀ x, cs.contains x = true → ∃ d v u, Co x = some d ∧ mg x = some u ∧ RelV v u ∧ ∀ H m N, RepD K H m N d v
  gcds : ∀ x, gcds.contains x = true → mg x = some (.builtin "math.gcd")
  bs : ∀ x, bs.contains x = true → mg x = none
/-- the promise of a name at a depth -/
def NameOk (P : Program) (w : World) (K : PySem.W.Frag) (mg : Str → Option Value) (base : Heap) (cls : Str → Value) (kws : List Str) (n : Nat) (Γ : Calls) (x : Str) (ps : List Str) : Prop :=
  ∃ (f : Addr) (fd : FuncData), mg x = some (.ref f) ∧ (∃ oc od osl, K.lookup f = some ⟨oc, od, .func fd, osl⟩) ∧ PySem.W.keepIn K (.ref f) = true ∧ (∀ (s : Shared) (us : List Value), us.length = ps.length → BindsTo s fd ⟨us, []⟩ (ps.zip us)) ∧ FnOk P w K mg base (L2.CX P w) n f fd ps (spC K cls Γ x) ∧
    (kws.contains x = true → ∀ (s : Shared) (ws : List Value), K.In s.heap → ws.length = ps.length → BindsTo s fd ⟨[], ps.zip ws⟩ (ps.zip ws))
theorem lk_of {name qual : Str} {params : Arguments} {body : List Stmt} {scope : Scope} {f : Addr} {fd : FuncData} (F : FunD K name qual params body scope [] [] f fd) : ∃ oc od osl, K.lookup f = some ⟨oc, od, .func fd, osl⟩ := by
  obtain ⟨oc, od, dV, kV, doc, pm, an, cdv, ct, osl, rfl, lk, _⟩ := F.ex
  exact ⟨oc, od, osl, lk⟩
theorem binds_of {fd : FuncData} {ps : List Str} (h : ∀ (s : Shared) (us : List Value), us.length = ps.length → BindsTo s fd ⟨us, []⟩ (ps.zip us)) : Binds K fd ps [] := fun s us _ hl => by
  rw [List.append_nil] at hl ⊢
  exact h s us hl
theorem fn_step {Γ Γ' : Calls} {n : Nat} {x : Str} {ps : List Str} {fn : Fn} (M : ModOk K mg Co cs gcds bs) (hΓ : ∀ y qs, fns.lookup y = some qs → NameOk P w K mg base cls kws n Γ y qs)
    (d : DefOk K mg fns cs gcds bs kws x ps fn) (e : ∀ ds S, Γ' x ds S = runFn Γ Co fn ds S) : NameOk P w K mg base cls kws (n + 1) Γ' x ps := by
  obtain ⟨name, qual, params, body, scope, f, fd, N, m, F, hm, hb, hkw, hS, hc, hnp, hnv⟩ := d.ex
  have hlen : ∀ vs H Q E, spC K cls Γ' x vs H Q E → vs.length = ps.length := fun vs H Q E ⟨ds, S, mm, rs, rd, o⟩ => by
    rw [e, runFn_eq] at o
    split at o
    · rename_i hl
      rw [← rd.length, hl, hnp]
    · exact o.elim
  refine ⟨f, fd, hm, lk_of F, F.kp, hb, F.ok hS hlen fun cdv A outer s H vs Q E hr h => ?_, hkw⟩
  obtain ⟨ds, S, mm, rs, rd, o⟩ := h
  have tk := L2.takes_of (X := cxOf (L2.CX P w) P w K mg base N qual scope f cdv A outer s H E) rfl rfl rfl rfl
  have XHH : XH (cxOf (L2.CX P w) P w K mg base N qual scope f cdv A outer s H E) cls E Γ Co ⟨N, scope, fns, cs, gcds, bs, true, kws⟩ :=
    { hN := rfl
      nd := hS.nd
      sc := rfl
      calm := rfl
      units := hr.units
      fns := fun y qs hy => by
        obtain ⟨a, fd', h1, _, h2, h3, h4, h5⟩ := hΓ y qs hy
        exact ⟨a, fd', n, h1, h2, binds_of h3, hr, h4, h5⟩
      pass := L2.passes_call tk fun _ _ _ _ h => h
      cs := M.cs
      gcds := M.gcds
      bs := M.bs
      dl := fun _ _ => rfl }
  refine ⟨zS _ cls E (evSs Γ Co fn.body), (s_all XHH hS.kind (L2.passes_of rfl) m).2 hc, ?_⟩
  rw [e, runFn_eq] at o
  split at o
  · rename_i hl
    refine ⟨ds.map some ++ List.replicate (fn.nv - fn.np) none, S, mm, ⟨?_, ?_, rs⟩, ?_⟩
    · have := rd.length
      unfold L2.start
      simp only [List.length_append, List.length_map, List.length_replicate]
      rw [hnv, ← hl, this]
    · intro i d hd
      have hv := rd.length
      unfold L2.start
      have e1 : N.length - vs.length = fn.nv - fn.np := by rw [hnv, ← hl, hv]
      rw [e1]
      exact repDs_loc rd i d hd
    · revert o
      cases evSs Γ Co fn.body (ds.map some ++ List.replicate (fn.nv - fn.np) none) S with
      | nx ρ S' => exact fun o σ H' m' x s => o .non H' m' x s.sto .non
      | rt d S' => exact fun o v H' m' x r q => o v H' m' x r q
      | exc c fs S' => exact fun o => o
      | bk ρ S' => exact fun o => o.elim
      | ct ρ S' => exact fun o => o.elim
      | bad => exact fun o => o.elim
  · exact o.elim
/-- all defs, by the depth of their calls -/
theorem all_ok {Pf : Str → Option Fn} (M : ModOk K mg Co cs gcds bs) (hD : ∀ x ps, fns.lookup x = some ps → ∃ fn, Pf x = some fn ∧ DefOk K mg fns cs gcds bs kws x ps fn) :
    ∀ (n : Nat) (x : Str) (ps : List Str), fns.lookup x = some ps → NameOk P w K mg base cls kws n (run Co Pf n) x ps
  | 0, x, ps, h => by
    obtain ⟨fn, e, d⟩ := hD x ps h
    obtain ⟨name, qual, params, body, scope, f, fd, N, m, F, hm, hb, hkw, hS, hc, hnp, hnv⟩ := d.ex
    refine ⟨f, fd, hm, lk_of F, F.kp, hb, ⟨fun vs H Q E ⟨ds, S, mm, rs, rd, o⟩ => ?_, fun A outer s H args us vs Q E hr he hbt hv ⟨ds, S, mm, rs, rd, o⟩ => ?_⟩, hkw⟩
    · exact o.elim
    · exact o.elim
  | n + 1, x, ps, h => by
    obtain ⟨fn, e, d⟩ := hD x ps h
    refine fn_step M (fun y qs hy => all_ok M hD n y qs hy) d fun ds S => ?_
    show (match Pf x with
      | some fn => runFn (run Co Pf n) Co fn ds S
      | none => .bad) = _
    rw [e]
theorem repDs_ints {H : Hp} {m : Nat → Addr} {N : Nat} : ∀ ns : List Int, RepDs K H m N (ns.map D.int) (ns.map V.int)
  | [] => .nil
  | n :: r => .cons (.int n) (repDs_ints r)
/-- what the law is to give -/
theorem law_sp {Γ : Calls} {H : Hp} {a : Addr} {ns : List Int} {f : Str} (hO : Only H) (hS : SqL K H a (ns.map V.int)) (h : ∃ S, Γ f [.ro (ns.map D.int)] [] = .ok (.bl true) S) :
    spC K cls Γ f [.ref a] H (fun v _ => v = .bl true) fun _ _ _ => False := by
  have fz : Fz K H a (ns.map V.int) := by
    rcases hS with (h | ⟨o, h⟩) | h
    · rcases hO a with z | ⟨o, xs, z⟩
      · rw [z] at h; cases h
      · rw [z] at h; cases h
    · exact .inl ⟨o, h⟩
    · exact .inr h
  have ri := repDs_ints (K := K) (H := H) (m := fun _ => 0) (N := 0) ns
  obtain ⟨S, h⟩ := h
  refine ⟨[.ro (ns.map D.int)], [], fun _ => 0, repS_nil, .cons (.ro fz ri) .nil, ?_⟩
  rw [h]
  intro b H' m' x r q
  cases q
  rfl
end
end Z
end
section
set_option Elab.async false
set_option linter.all false
set_option autoImplicit false
set_option maxRecDepth 100000
set_option maxHeartbeats 8000000
/-! Z12: from the module behind its top to the law. -/
namespace Z
open PySem PySem.Spec PyProof.Rows L2
/-! ### constants -/
mutual
def conB (K : PySem.W.Frag) : D → Value → Bool
  | .non, .none => true
  | .bl b, .bool c => b == c
  | .int i, .int j _ => decide (i = j)
  | .str x, .str y _ => decide (x = y) && PyData.strOk x
  | .tup ds, .ref a => (match K.lookup a with
    | some ⟨c, _, .seq its _, _⟩ => decide (c = .type "tuple") && (decide (its.size ≤ sizeLine) && conBs K ds its.toList)
    | _ => false)
  | .ro ds, .ref a => (match K.lookup a with
    | some ⟨c, none, .seq its _, _⟩ => decide (c = .type "list") && (decide (its.size ≤ sizeLine) && conBs K ds its.toList)
    | _ => false)
  | _, _ => false
def conBs (K : PySem.W.Frag) : List D → List Value → Bool
  | [], [] => true
  | d :: ds, u :: us => conB K d u && conBs K ds us
  | _, _ => false
end
mutual
theorem conB_ok {K : PySem.W.Frag} : ∀ {d : D} {u : Value}, conB K d u = true → ∃ v, RelV v u ∧ ∀ H m N, RepD K H m N d v
  | .non, u, h => by
    cases u <;> simp only [conB, reduceCtorEq] at h
    exact ⟨.non, rfl, fun _ _ _ => .non⟩
  | .bl b, u, h => by
    cases u <;> simp only [conB, reduceCtorEq] at h
    have := eq_of_beq h
    subst this
    exact ⟨.bl b, rfl, fun _ _ _ => .bl b⟩
  | .int i, u, h => by
    cases u <;> simp only [conB, reduceCtorEq, decide_eq_true_eq] at h
    subst h
    exact ⟨.int i, ⟨_, rfl⟩, fun _ _ _ => .int i⟩
  | .str x, u, h => by
    cases u <;> simp only [conB, reduceCtorEq, Bool.and_eq_true, decide_eq_true_eq] at h
    obtain ⟨rfl, h2⟩ := h
    exact ⟨.str _, ⟨_, rfl⟩, fun _ _ _ => .str _ h2⟩
  | .lst n, u, h => by cases u <;> simp [conB] at h
  | .tup ds, u, h => by
    cases u with
    | ref a =>
      simp only [conB] at h
      split at h
      · rename_i c od its n osl q
        simp only [Bool.and_eq_true, decide_eq_true_eq] at h
        obtain ⟨rfl, hs, hd⟩ := h
        obtain ⟨vs, r, rd⟩ := conBs_ok hd
        exact ⟨.ref a, rfl, fun H m N => .tup (.inr ⟨_, its, n, q, rfl, rfl, hs, r⟩) (rd H m N)⟩
      · cases h
    | _ => simp [conB] at h
  | .ro ds, u, h => by
    cases u with
    | ref a =>
      simp only [conB] at h
      split at h
      · rename_i c its n osl q
        simp only [Bool.and_eq_true, decide_eq_true_eq] at h
        obtain ⟨rfl, hs, hd⟩ := h
        obtain ⟨vs, r, rd⟩ := conBs_ok hd
        exact ⟨.ref a, rfl, fun H m N => .ro (.inr ⟨_, its, n, q, rfl, rfl, rfl, hs, r⟩) (rd H m N)⟩
      · cases h
    | _ => simp [conB] at h
theorem conBs_ok {K : PySem.W.Frag} : ∀ {ds : List D} {us : List Value}, conBs K ds us = true → ∃ vs, Vals vs us ∧ ∀ H m N, RepDs K H m N ds vs
  | [], us, h => by
    cases us with
    | nil => exact ⟨[], .nil, fun _ _ _ => .nil⟩
    | cons _ _ => simp [conBs] at h
  | d :: ds, us, h => by
    cases us with
    | nil => simp [conBs] at h
    | cons u us =>
      simp only [conBs, Bool.and_eq_true] at h
      obtain ⟨v, r1, r2⟩ := conB_ok h.1
      obtain ⟨vs, r3, r4⟩ := conBs_ok h.2
      exact ⟨v :: vs, .cons r1 r3, fun H m N => .cons (r2 H m N) (r4 H m N)⟩
end
def gloB (K : PySem.W.Frag) (x : Str) (d : D) : Bool := match PySem.W.nsIn K mainGlobals x with
  | some (some u) => conB K d u
  | _ => false
def gcdB (K : PySem.W.Frag) (x : Str) : Bool := He.eqO (PySem.W.nsIn K mainGlobals x) (some (some (.builtin "math.gcd")))

/-! ### the tables of a law -/
def scB (N P : List Str) (sc : Scope) : Bool :=
  decide (sc.kind = .function) && !sc.isCoroutine && !sc.isGenerator && decide N.Nodup && decide (N.take P.length = P) && P.all (fun x => decide (sc.names.lookup x = some .local) || decide (sc.names.lookup x = some .cell)) && sc.names.all (fun y => !decide (y.2 = .free))
theorem scB_ok {N P : List Str} {sc : Scope} (h : scB N P sc = true) : FnScope N P sc := by
  unfold scB at h
  simp only [Bool.and_eq_true, Bool.not_eq_true', decide_eq_true_eq, List.all_eq_true, Bool.or_eq_true, decide_eq_false_iff_not] at h
  obtain ⟨⟨⟨⟨⟨⟨h1, h2⟩, h3⟩, h4⟩, h5⟩, h6⟩, h7⟩ := h
  exact ⟨h1, h2, h3, h4, h5, h6, h7⟩
/-- a name that is called: where its def stands, the slots' names, the parameters, the small text -/
structure Ent where
  x : Str
  i : Nat
  N : List Str
  ps : List Str
  fn : Fn
structure Tab where
  b : List Stmt
  es : List Ent
  ks : List (Str × D)
  gs : List Str
  bs : List Str
  kws : List Str
def stN : Stmt → Str
  | .FunctionDef x _ _ _ _ _ _ _ _ _ => x
  | _ => Str.empty
namespace Tab
variable (T : Tab)
def st (e : Ent) : Stmt := T.b.getD e.i (.Pass ⟨0, 0, 0, 0⟩)
def d (e : Ent) : He.DefD := ⟨(e.x, none), stN (T.st e), stN (T.st e), defArgs (T.st e), defBody (T.st e), defScope (T.st e), [], []⟩
def fns : List (Str × List Str) := T.es.map fun e => (e.x, e.ps)
def cs : List Str := T.ks.map (·.1)
def Pf (x : Str) : Option Fn := (T.es.find? fun e => e.x == x).map (·.fn)
def Co (x : Str) : Option D := T.ks.lookup x
def cc (e : Ent) : CC := ⟨e.N, defScope (T.st e), T.fns, T.cs, T.gs, T.bs, true, T.kws⟩
def entB (e : Ent) : Bool := scB e.N e.ps (defScope (T.st e)) && (e.fn.np == e.ps.length && e.fn.nv == e.N.length)
def fa : List He.Fa := T.es.map (fun e => .glo e.x) ++ T.bs.map .free
def fn : List He.DefD := T.es.map T.d
def ex (K : PySem.W.Frag) : Bool := T.ks.all (fun p => gloB K p.1 p.2) && T.gs.all (gcdB K)
/-! the Hook -/
def obsK (K : PySem.W.Frag) : Bool × List He.FnW := ((T.fa.all fun f => f.ok K) && ((T.fn.all fun d => d.ok K) && T.ex K), T.fn.map fun d => He.fnW K d.at_)
def val : Bool × List He.FnW := (true, T.fn.map He.DefD.val)
def obsG (n : Nat) (g : Addr → Option Obj) : Bool × List He.FnW := T.obsK (He.frG g (He.asD g n))
def hook (n : Nat) : PySem.W.Hook where
  α := Bool × List He.FnW
  obs := fun s => T.obsG n s.heap.get?
  val := fun _ => T.val
  says := fun _ h => ∃ K : PySem.W.Frag, K.In h ∧ T.obsK K = T.val
  of := fun _ _ e => ⟨_, He.frG_in, e⟩
  keeps := fun _ _ _ ⟨K, hK, c⟩ k => ⟨K, PySem.W.Frag.In.keeps hK k, c⟩
theorem obsG_eq {n : Nat} {g : Addr → Option Obj} {s : Shared} (h : ∀ a, g a = s.heap.get? a) : T.obsG n g = (T.hook n).obs s := by
  have e : g = s.heap.get? := funext h
  rw [e] <;> rfl
/-- what is looked at in the text -/
structure Ok (T : Tab) : Prop where
  ent : T.es.all T.entB = true
  txt : T.es.map (fun e => cSs 99 (T.cc e) (defBody (T.st e))) = T.es.map fun e => some e.fn.body
  bind : ∀ e ∈ T.es, ∀ (x q : Str) (kV doc pm : Value) (an : Option Addr) (cdv ct : Value) (us : List Value), us.length = e.ps.length → bindArgs (PySem.W.fnOf x q (defArgs (T.st e)) (defBody (T.st e)) (defScope (T.st e)) .none kV doc pm an cdv ct) ⟨us, []⟩ = pure (e.ps.zip us)
  kwb : ∀ e ∈ T.es, T.kws.contains e.x = true → ∀ (x q : Str) (kV doc pm : Value) (an : Option Addr) (cdv ct : Value) (us : List Value), us.length = e.ps.length → bindArgs (PySem.W.fnOf x q (defArgs (T.st e)) (defBody (T.st e)) (defScope (T.st e)) .none kV doc pm an cdv ct) ⟨[], e.ps.zip us⟩ = pure (e.ps.zip us)
variable {T}
theorem find_of : ∀ {es : List Ent} {x : Str} {ps : List Str}, (es.map fun e => (e.x, e.ps)).lookup x = some ps → ∃ e ∈ es, e.x = x ∧ e.ps = ps ∧ es.find? (fun e => e.x == x) = some e
  | e :: es, x, ps, h => by
    rw [List.map_cons, List.lookup_cons] at h
    cases q : x == e.x with
    | true =>
      rw [q] at h
      have e1 := eq_of_beq q
      exact ⟨e, List.mem_cons_self, e1.symm, Option.some.inj h, by rw [List.find?_cons, show (e.x == x) = true by rw [e1]; exact beq_self_eq_true _]⟩
    | false =>
      rw [q] at h
      obtain ⟨e', h1, h2, h3, h4⟩ := find_of h
      have q2 : (e.x == x) = false := by
        cases z : e.x == x with
        | false => rfl
        | true =>
          have := eq_of_beq z
          rw [this, beq_self_eq_true] at q; cases q
      exact ⟨e', List.mem_cons_of_mem _ h1, h2, h3, by rw [List.find?_cons, q2]; exact h4⟩
theorem map_at {α β : Type} {f g : α → β} : ∀ {l : List α}, l.map f = l.map g → ∀ x ∈ l, f x = g x
  | a :: l, h, x, hx => by
    simp only [List.map_cons, List.cons.injEq] at h
    rcases List.mem_cons.mp hx with e | hx
    · rw [e]; exact h.1
    · exact map_at h.2 x hx
theorem lookup_of {α : Type} {x : Str} : ∀ {l : List (Str × α)}, x ∈ l.map (·.1) → ∃ d, l.lookup x = some d ∧ (x, d) ∈ l
  | (y, d) :: r, h => by
    rw [List.lookup_cons]
    cases q : x == y with
    | true => exact ⟨d, rfl, by rw [eq_of_beq q]; exact List.mem_cons_self⟩
    | false =>
      rw [List.map_cons] at h
      rcases List.mem_cons.mp h with e | e
      · have e : x = y := e
        rw [e, beq_self_eq_true] at q; cases q
      · obtain ⟨d', h1, h2⟩ := lookup_of e
        exact ⟨d', h1, List.mem_cons_of_mem _ h2⟩
theorem defs_ok (O : T.Ok) {K : PySem.W.Frag} {h : Heap} {mg : Str → Option Value} (X : K.In h) (G : h.Ns mainGlobals mg) (c : T.obsK K = T.val) :
    (∀ x ps, T.fns.lookup x = some ps → ∃ fn, T.Pf x = some fn ∧ DefOk K mg T.fns T.cs T.gs T.bs T.kws x ps fn) ∧ ModOk K mg T.Co T.cs T.gs T.bs := by
  have c1 : ((T.fa.all fun f => f.ok K) && ((T.fn.all fun d => d.ok K) && T.ex K)) = true := congrArg (·.1) c
  simp only [Bool.and_eq_true, List.all_eq_true] at c1
  obtain ⟨f1, f2, f3⟩ := c1
  have c2 : T.fn.map (fun d => He.fnW K d.at_) = T.fn.map He.DefD.val := congrArg (·.2) c
  refine ⟨fun x ps hx => ?_, ?_, ?_, ?_⟩
  · obtain ⟨e, hm, rfl, rfl, hf⟩ := find_of hx
    refine ⟨e.fn, by unfold Pf; rw [hf]; rfl, ?_⟩
    have hd : T.d e ∈ T.fn := List.mem_map.mpr ⟨e, hm, rfl⟩
    obtain ⟨fd, F⟩ := He.DefD.funD (map_at c2 _ hd) (f2 _ hd)
    have hg : mg e.x = some (.ref (He.ga K e.x)) := He.glo_ok X G (f1 _ (List.mem_append_left _ (List.mem_map.mpr ⟨e, hm, rfl⟩)))
    have eb := List.all_eq_true.mp O.ent e hm
    unfold entB at eb
    simp only [Bool.and_eq_true, beq_iff_eq] at eb
    refine ⟨_, _, _, _, _, _, fd, e.N, 99, F, hg, F.bindsA fun kV doc pm an cdv ct us hl => O.bind e hm _ _ kV doc pm an cdv ct us hl, fun hk s ws _ hl => ?_, scB_ok eb.1, map_at O.txt e hm, eb.2.1, eb.2.2⟩
    obtain ⟨oc, od, dV, kV, doc, pm, an, cdv, ct, osl, rfl, lk, hcd, hD, hK⟩ := F.ex
    rcases hD with ⟨_, rfl⟩ | ⟨z, _⟩
    · exact .of_eq (O.kwb e hm hk _ _ kV doc pm an cdv ct ws hl)
    · exact absurd rfl z
  · intro x hx
    unfold ex at f3
    simp only [Bool.and_eq_true, List.all_eq_true] at f3
    have hx' : x ∈ T.ks.map (·.1) := List.contains_iff_mem.mp hx
    obtain ⟨d, hd, hm⟩ := lookup_of hx'
    have := f3.1 _ hm
    unfold gloB at this
    split at this
    · rename_i u hu
      obtain ⟨v, r1, r2⟩ := conB_ok this
      exact ⟨d, v, u, hd, PySem.W.mg_of X G hu, r1, r2⟩
    · cases this
  · intro x hx
    unfold ex at f3
    simp only [Bool.and_eq_true, List.all_eq_true] at f3
    have := f3.2 x (List.contains_iff_mem.mp hx)
    exact PySem.W.mg_of X G (He.eqO_ok this)
  · intro x hx
    exact He.free_ok X G (f1 _ (List.mem_append_right _ (List.mem_map.mpr ⟨x, List.contains_iff_mem.mp hx, rfl⟩)))
end Tab
/-- the law -/
theorem z_law {l : PySem.W.OpenLaw} {q : Program} {loose : List Str} {XP : (Str → Option Value) → Heap → Prop} {d : DefRec} (T : Tab) (O : T.Ok) (m k : Nat) (hn : l.most = some 63) (hdf : d.params.defaults = []) (hnm : d.name = ("law" : Str)) (hr : Room k callerA)
    (hL : T.fns.lookup ("law" : Str) = some [("script" : Str)]) (h : ∀ ns : List Int, ns.length ≤ 63 → ∃ S, run T.Co T.Pf k ("law" : Str) [.ro (ns.map D.int)] [] = .ok (.bl true) S) :
    PySem.W.WalkO q loose XP (T.hook m).says l.row.toRowW d [] (fun f vs => PySem.call f vs) := by
  refine Att.attach_call hn hdf fun w s₀ s₁ mg mb fa o pm cd doc a vs ns G Y ho hd hcd hmg hobj hints hlen hg => ?_
  obtain ⟨K, KX, c⟩ := Y
  obtain ⟨h1, h2⟩ := Tab.defs_ok O KX G.T.g c
  have key : ∀ base : Heap, K.In base → base.Ns mainGlobals mg → NameOk l.prog w K mg base (fun _ => .none) T.kws k (run T.Co T.Pf k) ("law" : Str) [("script" : Str)] := fun base _ _ => all_ok h2 h1 k _ _ hL
  obtain ⟨f, fd, e1, ⟨oc, od, osl, lk⟩, _, hb, _, _⟩ := key s₁.heap KX G.T.g
  rw [hnm] at hmg
  have e2 := hmg.symm.trans e1
  cases e2
  refine law_call (CX := L2.CX l.prog w) (k := k) (sp := spC K (fun _ => .none) (run T.Co T.Pf k) ("law" : Str)) KX G.T.g G.T.b G.T.builtins G.T.nolimit hg hobj hints (Nat.le_trans hlen (by decide)) hr (fun base B1 B2 => ?_) (fun s u => hb s [u] rfl) (fun H hO hS => law_sp hO hS (h ns hlen)) fun H e s' hC => ?_
  · obtain ⟨f', fd', e3, ⟨oc', od', osl', lk'⟩, _, _, ok, _⟩ := key base B1 B2
    have e4 := e1.symm.trans e3
    cases e4
    rw [lk] at lk'
    cases lk'
    exact ok
  · obtain ⟨_, _, _, _, _, _, _, _, _, _, _, _, z⟩ := hC
    exact z
/-! the binding of the parameters -/
def BindAll (T : Tab) (e : Ent) : Prop := ∀ (x q : Str) (kV doc pm : Value) (an : Option Addr) (cdv ct : Value) (us : List Value), us.length = e.ps.length → bindArgs (PySem.W.fnOf x q (defArgs (T.st e)) (defBody (T.st e)) (defScope (T.st e)) .none kV doc pm an cdv ct) ⟨us, []⟩ = pure (e.ps.zip us)
theorem b_nil {T : Tab} : ∀ e ∈ ([] : List Ent), BindAll T e := fun _ h => nomatch h
theorem b_cons {T : Tab} {a : Ent} {l : List Ent} (h : BindAll T a) (hl : ∀ e ∈ l, BindAll T e) : ∀ e ∈ a :: l, BindAll T e := fun e he => by
  rcases List.mem_cons.mp he with z | z
  · rw [z]; exact h
  · exact hl e z
end Z
end
section
set_option Elab.async false
set_option linter.all false
set_option autoImplicit false
set_option maxRecDepth 100000
set_option maxHeartbeats 8000000
namespace Z.K01
open PySem PySem.Spec PyProof.Rows L2 Z
def b_law : Sts := (.cons (.set 1 (.call "_law_deal" (.cons (.v 0) (.cons (.c (.int 1)) .nil)))) (.cons (.set 2 (.bin .add (.call "_law_case" (.cons (.v 1) (.cons (.call "_law_of" (.cons (.v 1) (.cons (.call "_law_primes" .nil) .nil))) .nil))) (.call "_law_case" (.cons (.v 1) (.cons (.call "_law_of" (.cons (.v 1) (.cons (.call "_law_primes" .nil) .nil))) .nil))))) (.cons (.set 2 (.call "_law_mixed" (.cons (.v 1) (.cons (.v 2) .nil)))) (.cons (.set 3 (.bin .add (.lc (.tup (.cons (.call "_law_ask" (.cons (.v 5) .nil)) (.cons (.v 6) .nil))) (.tup (.cons (.nm 5) (.cons (.nm 6) .nil))) (.e (.v 2)) .yes [5, 6]) (.lc (.tup (.cons (.call "_law_ask" (.cons (.v 5) .nil)) (.cons (.v 6) .nil))) (.tup (.cons (.nm 5) (.cons (.nm 6) .nil))) (.e (.rev (.v 2))) .yes [5, 6]))) (.cons (.set 4 (.ix (.lc (.v 5) (.nm 5) (.e (.v 2)) (.val (.cmp .eq (.ix (.ix (.v 5) (.c (.int 0))) (.c (.int 0))) (.c (.str "power")))) [5]) (.c (.int 0)))) (.cons (.ex (.mt .append (.v 3) (.cons (.tup (.cons (.call "pair_power_rest" (.cons (.ix (.ix (.v 4) (.c (.int 0))) (.c (.int 1))) (.cons (.ix (.ix (.v 4) (.c (.int 0))) (.c (.int 2))) (.cons (.ix (.ix (.v 4) (.c (.int 0))) (.c (.int 4))) (.cons (.ix (.ix (.v 4) (.c (.int 0))) (.c (.int 3))) .nil))))) (.cons (.ix (.v 4) (.c (.int 1))) .nil))) .nil))) (.cons (.ret (.call "_law_all" (.cons (.v 3) .nil))) .nil)))))))
def b__law_deal : Sts := (.cons (.set 2 (.bin .mul (.bin .mul (.bin .mul (.bin .mul (.bin .mul (.bin .pow (.c (.int 10)) (.c (.int 64))) (.bin .pow (.c (.int 10)) (.c (.int 64)))) (.bin .pow (.c (.int 10)) (.c (.int 64)))) (.bin .pow (.c (.int 10)) (.c (.int 64)))) (.bin .pow (.c (.int 10)) (.c (.int 64)))) (.bin .pow (.c (.int 10)) (.c (.int 64))))) (.cons (.set 4 (.lc (.bin .mod (.bi .int (.cons (.bi .abs (.cons (.bi .int (.cons (.v 3) .nil)) .nil)) .nil)) (.v 2)) (.nm 3) (.e (.sl (.v 0) .non (.som (.c (.int 63))))) .yes [3])) (.cons (.set 5 (.bin .add (.c (.int 70001)) (.bin .mul (.c (.int 7919)) (.v 1)))) (.cons (.fo (.nm 3) (.e (.v 4)) (.cons (.set 5 (.bin .mod (.bi .int (.cons (.bin .add (.bin .add (.bin .mul (.v 5) (.c (.int 69621))) (.bin .mod (.bi .int (.cons (.v 3) .nil)) (.c (.int 2147483563)))) (.c (.int 23))) .nil)) (.c (.int 2147483647)))) .nil)) (.cons (.ret (.lst (.cons (.rev (.lc (.v 3) (.nm 3) (.e (.v 4)) (.val (.cmp .ge (.v 3) (.bin .pow (.c (.int 10)) (.c (.int 18))))) [3])) (.cons (.v 5) .nil)))) .nil)))))
def b__law_case : Sts := (.cons (.set 2 (.call "_law_field" (.cons (.v 1) .nil))) (.cons (.set 3 (.call "_law_row" (.cons (.v 0) (.cons (.v 1) (.cons (.bin .add (.c (.int 1)) (.call "_law_any" (.cons (.v 0) (.cons (.c (.int 8)) .nil)))) .nil))))) (.cons (.par [4, 5] (.cons (.call "_law_row" (.cons (.v 0) (.cons (.v 1) (.cons (.call "_law_any" (.cons (.v 0) (.cons (.c (.int 10)) .nil))) .nil)))) (.cons (.call "_law_row" (.cons (.v 0) (.cons (.v 1) (.cons (.bin .add (.c (.int 1)) (.call "_law_any" (.cons (.v 0) (.cons (.c (.int 10)) .nil)))) .nil)))) .nil))) (.cons (.par [6, 7] (.cons (.call "_law_rows_by" (.cons (.v 2) (.cons (.v 4) (.cons (.v 3) .nil)))) (.cons (.call "_law_rows_by" (.cons (.v 2) (.cons (.v 5) (.cons (.v 3) .nil)))) .nil))) (.cons (.set 8 (.call "_law_row" (.cons (.v 0) (.cons (.v 1) (.cons (.call "_law_of" (.cons (.v 0) (.cons (.lst (.cons (.c (.int 25)) (.cons (.c (.int 24)) (.cons (.bin .add (.c (.int 1)) (.call "_law_any" (.cons (.v 0) (.cons (.c (.int 25)) .nil)))) (.cons (.c (.int 0)) .nil))))) .nil))) .nil))))) (.cons (.set 9 (.call "_law_row" (.cons (.v 0) (.cons (.v 1) (.cons (.bin .add (.c (.int 2)) (.call "_law_any" (.cons (.v 0) (.cons (.c (.int 6)) .nil)))) .nil))))) (.cons (.par [10, 11] (.cons (.call "_law_thing" (.cons (.v 0) (.cons (.v 1) .nil))) (.cons (.call "_law_how_often" (.cons (.v 0) (.cons (.v 1) .nil))) .nil))) (.cons (.set 12 (.bi .tuple (.cons (.lc (.call "_law_often" (.cons (.v 2) (.cons (.v 15) (.cons (.neg (.c (.int 1))) .nil)))) (.nm 15) (.e (.sl (.v 6) (.som (.c (.int 1))) .non)) .yes [15]) .nil))) (.cons (.set 12 (.call "_law_trim" (.cons (.bin .add (.bin .mul (.lst (.cons (.tup (.cons (.c (.int 0)) (.cons (.c (.int 0)) .nil))) .nil)) (.bin .sub (.bi .len (.cons (.v 6) .nil)) (.bi .len (.cons (.v 12) .nil)))) (.bi .list (.cons (.v 12) .nil))) .nil))) (.cons (.set 13 (.call "_law_of" (.cons (.v 0) (.cons (.lst (.cons (.c (.int 0)) (.cons (.c (.int 1)) (.cons (.c (.int 5)) .nil)))) .nil)))) (.cons (.set 14 (.lst (.cons (.tup (.cons (.tup (.cons (.c (.str "poly")) (.cons (.v 1) (.cons (.bin .add (.v 6) (.bin .mul (.tup (.cons (.tup (.cons (.c (.int 0)) (.cons (.c (.int 0)) .nil))) .nil)) (.v 13))) (.cons (.tup .nil) (.cons (.c (.int 0)) .nil)))))) (.cons (.tup (.cons (.v 6) (.cons (.bin .add (.v 6) (.bin .mul (.tup (.cons (.tup (.cons (.c (.int 0)) (.cons (.c (.int 0)) .nil))) .nil)) (.v 13))) (.cons (.v 6) .nil)))) .nil))) .nil))) (.cons (.ex (.mt .append (.v 14) (.cons (.tup (.cons (.tup (.cons (.c (.str "plus")) (.cons (.v 1) (.cons (.v 8) (.cons (.v 7) (.cons (.c (.int 0)) .nil)))))) (.cons (.call "_law_rows_plus" (.cons (.v 2) (.cons (.v 8) (.cons (.v 7) .nil)))) .nil))) .nil))) (.cons (.ex (.mt .append (.v 14) (.cons (.tup (.cons (.tup (.cons (.c (.str "plus")) (.cons (.v 1) (.cons (.v 6) (.cons (.v 12) (.cons (.c (.int 0)) .nil)))))) (.cons (.call "_law_rows_plus" (.cons (.v 2) (.cons (.v 6) (.cons (.v 12) .nil)))) .nil))) .nil))) (.cons (.ex (.mt .append (.v 14) (.cons (.tup (.cons (.tup (.cons (.c (.str "by")) (.cons (.v 1) (.cons (.v 4) (.cons (.v 5) (.cons (.c (.int 0)) .nil)))))) (.cons (.call "_law_rows_by" (.cons (.v 2) (.cons (.v 4) (.cons (.v 5) .nil)))) .nil))) .nil))) (.cons (.ex (.mt .append (.v 14) (.cons (.tup (.cons (.tup (.cons (.c (.str "by")) (.cons (.v 1) (.cons (.v 3) (.cons (.v 7) (.cons (.c (.int 0)) .nil)))))) (.cons (.call "_law_rows_by" (.cons (.v 2) (.cons (.v 3) (.cons (.v 7) .nil)))) .nil))) .nil))) (.cons (.ex (.mt .append (.v 14) (.cons (.tup (.cons (.tup (.cons (.c (.str "parts")) (.cons (.v 1) (.cons (.v 8) (.cons (.v 9) (.cons (.c (.int 0)) .nil)))))) (.cons (.call "_law_rows_parts" (.cons (.v 2) (.cons (.v 8) (.cons (.v 9) .nil)))) .nil))) .nil))) (.cons (.ex (.mt .append (.v 14) (.cons (.tup (.cons (.tup (.cons (.c (.str "parts")) (.cons (.v 1) (.cons (.v 6) (.cons (.v 3) (.cons (.c (.int 0)) .nil)))))) (.cons (.tup (.cons (.v 4) (.cons (.tup .nil) .nil))) .nil))) .nil))) (.cons (.ex (.mt .append (.v 14) (.cons (.tup (.cons (.tup (.cons (.c (.str "common")) (.cons (.v 1) (.cons (.v 6) (.cons (.v 7) (.cons (.c (.int 0)) .nil)))))) (.cons (.call "_law_common" (.cons (.v 2) (.cons (.v 6) (.cons (.v 7) .nil)))) .nil))) .nil))) (.cons (.ex (.mt .append (.v 14) (.cons (.tup (.cons (.tup (.cons (.c (.str "common")) (.cons (.v 1) (.cons (.v 8) (.cons (.tup .nil) (.cons (.c (.int 0)) .nil)))))) (.cons (.call "_law_monic" (.cons (.v 2) (.cons (.v 8) .nil))) .nil))) .nil))) (.cons (.ex (.mt .append (.v 14) (.cons (.tup (.cons (.tup (.cons (.c (.str "slope")) (.cons (.v 1) (.cons (.v 8) (.cons (.tup .nil) (.cons (.c (.int 0)) .nil)))))) (.cons (.call "_law_slope" (.cons (.v 2) (.cons (.v 8) .nil))) .nil))) .nil))) (.cons (.ex (.mt .append (.v 14) (.cons (.tup (.cons (.tup (.cons (.c (.str "worth")) (.cons (.v 1) (.cons (.v 8) (.cons (.v 10) (.cons (.c (.int 0)) .nil)))))) (.cons (.call "_law_worth" (.cons (.v 2) (.cons (.v 8) (.cons (.v 10) .nil)))) .nil))) .nil))) (.cons (.ex (.mt .append (.v 14) (.cons (.tup (.cons (.tup (.cons (.c (.str "power")) (.cons (.v 1) (.cons (.v 5) (.cons (.v 9) (.cons (.v 11) .nil)))))) (.cons (.call "_law_rest_power" (.cons (.v 2) (.cons (.v 5) (.cons (.v 11) (.cons (.v 9) .nil))))) .nil))) .nil))) (.cons (.ex (.mt .append (.v 14) (.cons (.tup (.cons (.tup (.cons (.c (.str "turned")) (.cons (.v 1) (.cons (.v 8) (.cons (.tup .nil) (.cons (.c (.int 0)) .nil)))))) (.cons (.call "_law_turned_row" (.cons (.v 2) (.cons (.v 8) .nil))) .nil))) .nil))) (.cons (.ex (.mt .append (.v 14) (.cons (.tup (.cons (.tup (.cons (.c (.str "turned")) (.cons (.v 1) (.cons (.v 6) (.cons (.tup .nil) (.cons (.c (.int 0)) .nil)))))) (.cons (.call "_law_rows_by" (.cons (.v 2) (.cons (.call "_law_turned_row" (.cons (.v 2) (.cons (.v 4) .nil))) (.cons (.call "_law_turned_row" (.cons (.v 2) (.cons (.v 3) .nil))) .nil)))) .nil))) .nil))) (.cons (.ex (.mt .append (.v 14) (.cons (.tup (.cons (.tup (.cons (.c (.str "by")) (.cons (.v 1) (.cons (.v 4) (.cons (.call "_law_turned_row" (.cons (.v 2) (.cons (.v 4) .nil))) (.cons (.c (.int 0)) .nil)))))) (.cons (.call "_law_whole_norm" (.cons (.v 2) (.cons (.v 4) .nil))) .nil))) .nil))) (.cons (.ret (.bin .add (.v 14) (.lst (.cons (.call "_law_plain_case" (.cons (.v 0) (.cons (.v 2) .nil))) .nil)))) .nil))))))))))))))))))))))))))
def b__law_field : Sts := (.cons (.set 2 (.lc (.bin .mod (.bi .int (.cons (.bin .mul (.v 1) (.v 1)) .nil)) (.v 0)) (.nm 1) (.range1 (.v 0)) .yes [1])) (.cons (.set 3 (.lc (.v 1) (.nm 1) (.range1 (.v 0)) (.val (.cmp .notin (.bin .mod (.bi .int (.cons (.bin .sub (.bin .mul (.v 1) (.v 1)) (.c (.int 4))) .nil)) (.v 0)) (.v 2))) [1])) (.cons (.set 4 (.lst (.cons (.c (.int 0)) (.cons (.c (.int 1)) .nil)))) (.cons (.fo (.nm 1) (.range2 (.c (.int 2)) (.v 0)) (.cons (.ex (.mt .append (.v 4) (.cons (.bin .mod (.bi .int (.cons (.bin .mul (.neg (.bin .fdiv (.v 0) (.v 1))) (.ix (.v 4) (.bin .mod (.bi .int (.cons (.v 0) .nil)) (.v 1)))) .nil)) (.v 0)) .nil))) .nil)) (.cons (.ret (.tup (.cons (.v 0) (.cons (.ix (.v 3) (.c (.int 0))) (.cons (.bi .tuple (.cons (.v 4) .nil)) .nil))))) .nil)))))
def b__law_row : Sts := (.cons (.ite (.val (.cmp .eq (.v 2) (.c (.int 0)))) (.cons (.ret (.tup .nil)) .nil) .nil) (.cons (.set 3 (.cmp .eq (.call "_law_any" (.cons (.v 0) (.cons (.c (.int 3)) .nil))) (.c (.int 0)))) (.cons (.set 4 (.lst .nil)) (.cons (.fo (.nm 5) (.range1 (.bin .sub (.v 2) (.c (.int 1)))) (.cons (.set 6 (.call "_law_thing" (.cons (.v 0) (.cons (.v 1) .nil)))) (.cons (.ex (.mt .append (.v 4) (.cons (.ite (.and (.val (.v 3)) (.val (.cmp .gt (.call "_law_any" (.cons (.v 0) (.cons (.c (.int 3)) .nil))) (.c (.int 0))))) (.tup (.cons (.c (.int 0)) (.cons (.c (.int 0)) .nil))) (.v 6)) .nil))) .nil))) (.cons (.ret (.bi .tuple (.cons (.bin .add (.v 4) (.lst (.cons (.call "_law_unit" (.cons (.v 0) (.cons (.v 1) .nil))) .nil))) .nil))) .nil)))))
def b__law_any : Sts := (.cons (.wh (.and (.val (.cmp .ne (.ix (.v 0) (.c (.int 0))) (.lst .nil))) (.val (.cmp .eq (.ix (.ix (.v 0) (.c (.int 0))) (.neg (.c (.int 1)))) (.c (.int 0))))) (.cons (.ex (.mt .pop (.ix (.v 0) (.c (.int 0))) .nil)) .nil)) (.cons (.ite (.val (.cmp .ne (.ix (.v 0) (.c (.int 0))) (.lst .nil))) (.cons (.set 2 (.bi .int (.cons (.mt .pop (.ix (.v 0) (.c (.int 0))) .nil) .nil))) (.cons (.ex (.mt .append (.ix (.v 0) (.c (.int 0))) (.cons (.bin .fdiv (.v 2) (.v 1)) .nil))) (.cons (.ret (.bin .mod (.v 2) (.v 1))) .nil))) .nil) (.cons (.setix (.v 0) (.c (.int 1)) (.bin .mod (.bi .int (.cons (.bin .add (.bin .mul (.ix (.v 0) (.c (.int 1))) (.c (.int 48271))) (.c (.int 31))) .nil)) (.c (.int 2147483647)))) (.cons (.ret (.bin .mod (.bi .int (.cons (.bin .fdiv (.ix (.v 0) (.c (.int 1))) (.c (.int 64))) .nil)) (.v 1))) .nil))))
def b__law_thing : Sts := (.cons (.set 2 (.call "_law_any" (.cons (.v 0) (.cons (.c (.int 6)) .nil)))) (.cons (.par [3, 4] (.cons (.call "_law_any" (.cons (.v 0) (.cons (.v 1) .nil))) (.cons (.call "_law_any" (.cons (.v 0) (.cons (.v 1) .nil))) .nil))) (.cons (.ite (.val (.cmp .eq (.v 2) (.c (.int 0)))) (.cons (.ret (.tup (.cons (.v 3) (.cons (.c (.int 0)) .nil)))) .nil) .nil) (.cons (.ite (.val (.cmp .eq (.v 2) (.c (.int 1)))) (.cons (.ret (.tup (.cons (.c (.int 0)) (.cons (.v 4) .nil)))) .nil) .nil) (.cons (.ret (.tup (.cons (.v 3) (.cons (.v 4) .nil)))) .nil)))))
def b__law_unit : Sts := (.cons (.set 2 (.call "_law_thing" (.cons (.v 0) (.cons (.v 1) .nil)))) (.cons (.ret (.ite (.val (.cmp .ne (.v 2) (.tup (.cons (.c (.int 0)) (.cons (.c (.int 0)) .nil))))) (.v 2) (.tup (.cons (.c (.int 1)) (.cons (.c (.int 0)) .nil))))) .nil))
def b__law_rows_by : Sts := (.cons (.ite (.or (.val (.cmp .eq (.v 1) (.tup .nil))) (.val (.cmp .eq (.v 2) (.tup .nil)))) (.cons (.ret (.tup .nil)) .nil) .nil) (.cons (.set 3 (.bin .mul (.lst (.cons (.tup (.cons (.c (.int 0)) (.cons (.c (.int 0)) .nil))) .nil)) (.bin .sub (.bin .add (.bi .len (.cons (.v 1) .nil)) (.bi .len (.cons (.v 2) .nil))) (.c (.int 1))))) (.cons (.fo (.nm 4) (.range1 (.bi .len (.cons (.v 1) .nil))) (.cons (.fo (.nm 5) (.range1 (.bi .len (.cons (.v 2) .nil))) (.cons (.setix (.v 3) (.bin .add (.v 4) (.v 5)) (.call "_law_plus" (.cons (.v 0) (.cons (.ix (.v 3) (.bin .add (.v 4) (.v 5))) (.cons (.call "_law_by" (.cons (.v 0) (.cons (.ix (.v 1) (.v 4)) (.cons (.ix (.v 2) (.v 5)) .nil)))) .nil))))) .nil)) .nil)) (.cons (.ret (.call "_law_trim" (.cons (.v 3) .nil))) .nil))))
def b__law_plus : Sts := (.cons (.ret (.tup (.cons (.bin .mod (.bi .int (.cons (.bin .add (.ix (.v 1) (.c (.int 0))) (.ix (.v 2) (.c (.int 0)))) .nil)) (.ix (.v 0) (.c (.int 0)))) (.cons (.bin .mod (.bi .int (.cons (.bin .add (.ix (.v 1) (.c (.int 1))) (.ix (.v 2) (.c (.int 1)))) .nil)) (.ix (.v 0) (.c (.int 0)))) .nil)))) .nil)
def b__law_by : Sts := (.cons (.set 3 (.bin .mul (.ix (.v 1) (.c (.int 1))) (.ix (.v 2) (.c (.int 1))))) (.cons (.ret (.tup (.cons (.bin .mod (.bi .int (.cons (.bin .sub (.bin .mul (.ix (.v 1) (.c (.int 0))) (.ix (.v 2) (.c (.int 0)))) (.v 3)) .nil)) (.ix (.v 0) (.c (.int 0)))) (.cons (.bin .mod (.bi .int (.cons (.bin .sub (.bin .add (.bin .mul (.ix (.v 1) (.c (.int 0))) (.ix (.v 2) (.c (.int 1)))) (.bin .mul (.ix (.v 1) (.c (.int 1))) (.ix (.v 2) (.c (.int 0))))) (.bin .mul (.ix (.v 0) (.c (.int 1))) (.v 3))) .nil)) (.ix (.v 0) (.c (.int 0)))) .nil)))) .nil))
def b__law_trim : Sts := (.cons (.set 1 (.bi .len (.cons (.v 0) .nil))) (.cons (.fo (.nm 2) (.range1 (.bi .len (.cons (.v 0) .nil))) (.cons (.ite (.and (.val (.cmp .gt (.v 1) (.c (.int 0)))) (.val (.cmp .eq (.ix (.v 0) (.bin .sub (.v 1) (.c (.int 1)))) (.tup (.cons (.c (.int 0)) (.cons (.c (.int 0)) .nil)))))) (.cons (.aug 1 .sub (.c (.int 1))) .nil) .nil) .nil)) (.cons (.ret (.bi .tuple (.cons (.sl (.v 0) .non (.som (.v 1))) .nil))) .nil)))
def b__law_of : Sts := (.cons (.ret (.ix (.v 1) (.call "_law_any" (.cons (.v 0) (.cons (.bi .len (.cons (.v 1) .nil)) .nil))))) .nil)
def b__law_how_often : Sts := (.cons (.ret (.call "_law_of" (.cons (.v 0) (.cons (.lst (.cons (.c (.int 0)) (.cons (.c (.int 1)) (.cons (.c (.int 2)) (.cons (.call "_law_any" (.cons (.v 0) (.cons (.c (.int 100)) .nil))) (.cons (.v 1) (.cons (.bin .mul (.v 1) (.v 1)) (.cons (.call "_law_wide" (.cons (.v 0) (.cons (.bin .pow (.c (.int 10)) (.c (.int 6))) .nil))) (.cons (.call "_law_wide" (.cons (.v 0) (.cons (.bin .pow (.c (.int 10)) (.c (.int 12))) .nil))) .nil))))))))) .nil)))) .nil)
def b__law_wide : Sts := (.cons (.ret (.bin .mod (.bi .int (.cons (.bin .add (.bin .add (.bin .mul (.bin .add (.bin .mul (.call "_law_any" (.cons (.v 0) (.cons (.bin .pow (.c (.int 10)) (.c (.int 5))) .nil))) (.bin .pow (.c (.int 10)) (.c (.int 5)))) (.call "_law_any" (.cons (.v 0) (.cons (.bin .pow (.c (.int 10)) (.c (.int 5))) .nil)))) (.bin .pow (.c (.int 10)) (.c (.int 10)))) (.bin .mul (.call "_law_any" (.cons (.v 0) (.cons (.bin .pow (.c (.int 10)) (.c (.int 5))) .nil))) (.bin .pow (.c (.int 10)) (.c (.int 5))))) (.call "_law_any" (.cons (.v 0) (.cons (.bin .pow (.c (.int 10)) (.c (.int 5))) .nil)))) .nil)) (.v 1))) .nil)
def b__law_often : Sts := (.cons (.ret (.tup (.cons (.bin .mod (.bi .int (.cons (.bin .mul (.ix (.v 1) (.c (.int 0))) (.v 2)) .nil)) (.ix (.v 0) (.c (.int 0)))) (.cons (.bin .mod (.bi .int (.cons (.bin .mul (.ix (.v 1) (.c (.int 1))) (.v 2)) .nil)) (.ix (.v 0) (.c (.int 0)))) .nil)))) .nil)
def b__law_rows_plus : Sts := (.cons (.set 3 (.bi .max (.cons (.bi .len (.cons (.v 1) .nil)) (.cons (.bi .len (.cons (.v 2) .nil)) .nil)))) (.cons (.tset (.tup (.cons (.nm 1) (.cons (.nm 2) .nil))) (.tup (.cons (.bin .add (.bi .list (.cons (.v 1) .nil)) (.bin .mul (.lst (.cons (.tup (.cons (.c (.int 0)) (.cons (.c (.int 0)) .nil))) .nil)) (.bin .sub (.v 3) (.bi .len (.cons (.v 1) .nil))))) (.cons (.bin .add (.bi .list (.cons (.v 2) .nil)) (.bin .mul (.lst (.cons (.tup (.cons (.c (.int 0)) (.cons (.c (.int 0)) .nil))) .nil)) (.bin .sub (.v 3) (.bi .len (.cons (.v 2) .nil))))) .nil)))) (.cons (.ret (.call "_law_trim" (.cons (.lc (.call "_law_plus" (.cons (.v 0) (.cons (.ix (.v 1) (.v 4)) (.cons (.ix (.v 2) (.v 4)) .nil)))) (.nm 4) (.range1 (.v 3)) .yes [4]) .nil))) .nil)))
def b__law_rows_parts : Sts := (.cons (.par [3, 4, 5] (.cons (.call "_law_back" (.cons (.v 0) (.cons (.ix (.v 2) (.neg (.c (.int 1)))) .nil))) (.cons (.bi .list (.cons (.v 1) .nil)) (.cons (.bi .len (.cons (.v 2) .nil)) .nil)))) (.cons (.set 6 (.lst .nil)) (.cons (.fo (.nm 7) (.range3 (.bin .sub (.bi .len (.cons (.v 1) .nil)) (.v 5)) (.neg (.c (.int 1))) (.neg (.c (.int 1)))) (.cons (.set 8 (.call "_law_by" (.cons (.v 0) (.cons (.ix (.v 4) (.bin .sub (.bin .add (.v 7) (.v 5)) (.c (.int 1)))) (.cons (.v 3) .nil))))) (.cons (.ex (.mt .append (.v 6) (.cons (.v 8) .nil))) (.cons (.fo (.nm 9) (.range1 (.v 5)) (.cons (.setix (.v 4) (.bin .add (.v 7) (.v 9)) (.call "_law_less" (.cons (.v 0) (.cons (.ix (.v 4) (.bin .add (.v 7) (.v 9))) (.cons (.call "_law_by" (.cons (.v 0) (.cons (.v 8) (.cons (.ix (.v 2) (.v 9)) .nil)))) .nil))))) .nil)) .nil)))) (.cons (.ret (.tup (.cons (.call "_law_trim" (.cons (.rev (.v 6)) .nil)) (.cons (.call "_law_trim" (.cons (.v 4) .nil)) .nil)))) .nil))))
def b__law_back : Sts := (.cons (.ret (.call "_law_often" (.cons (.v 0) (.cons (.call "_law_turned" (.cons (.v 0) (.cons (.v 1) .nil))) (.cons (.ix (.ix (.v 0) (.c (.int 2))) (.call "_law_norm" (.cons (.v 0) (.cons (.v 1) .nil)))) .nil))))) .nil)
def b__law_turned : Sts := (.cons (.ret (.tup (.cons (.bin .mod (.bi .int (.cons (.bin .sub (.ix (.v 1) (.c (.int 0))) (.bin .mul (.ix (.v 0) (.c (.int 1))) (.ix (.v 1) (.c (.int 1))))) .nil)) (.ix (.v 0) (.c (.int 0)))) (.cons (.bin .mod (.bi .int (.cons (.neg (.ix (.v 1) (.c (.int 1)))) .nil)) (.ix (.v 0) (.c (.int 0)))) .nil)))) .nil)
def b__law_norm : Sts := (.cons (.ret (.bin .mod (.bi .int (.cons (.bin .add (.bin .sub (.bin .mul (.ix (.v 1) (.c (.int 0))) (.ix (.v 1) (.c (.int 0)))) (.bin .mul (.bin .mul (.ix (.v 0) (.c (.int 1))) (.ix (.v 1) (.c (.int 0)))) (.ix (.v 1) (.c (.int 1))))) (.bin .mul (.ix (.v 1) (.c (.int 1))) (.ix (.v 1) (.c (.int 1))))) .nil)) (.ix (.v 0) (.c (.int 0))))) .nil)
def b__law_less : Sts := (.cons (.ret (.tup (.cons (.bin .mod (.bi .int (.cons (.bin .sub (.ix (.v 1) (.c (.int 0))) (.ix (.v 2) (.c (.int 0)))) .nil)) (.ix (.v 0) (.c (.int 0)))) (.cons (.bin .mod (.bi .int (.cons (.bin .sub (.ix (.v 1) (.c (.int 1))) (.ix (.v 2) (.c (.int 1)))) .nil)) (.ix (.v 0) (.c (.int 0)))) .nil)))) .nil)
def b__law_common : Sts := (.cons (.fo (.nm 3) (.range1 (.c (.int 80))) (.cons (.ite (.val (.cmp .eq (.v 2) (.tup .nil))) (.cons (.ret (.call "_law_monic" (.cons (.v 0) (.cons (.v 1) .nil)))) .nil) .nil) (.cons (.par [1, 2] (.cons (.v 2) (.cons (.ix (.call "_law_rows_parts" (.cons (.v 0) (.cons (.v 1) (.cons (.v 2) .nil)))) (.c (.int 1))) .nil))) .nil))) (.cons (.ret (.call "_law_monic" (.cons (.v 0) (.cons (.v 1) .nil)))) .nil))
def b__law_monic : Sts := (.cons (.ite (.val (.cmp .eq (.v 1) (.tup .nil))) (.cons (.ret (.tup .nil)) .nil) .nil) (.cons (.set 2 (.call "_law_back" (.cons (.v 0) (.cons (.ix (.v 1) (.neg (.c (.int 1)))) .nil)))) (.cons (.ret (.bi .tuple (.cons (.lc (.call "_law_by" (.cons (.v 0) (.cons (.v 3) (.cons (.v 2) .nil)))) (.nm 3) (.e (.v 1)) .yes [3]) .nil))) .nil)))
def b__law_slope : Sts := (.cons (.ret (.call "_law_trim" (.cons (.lc (.call "_law_often" (.cons (.v 0) (.cons (.ix (.v 1) (.v 2)) (.cons (.v 2) .nil)))) (.nm 2) (.range2 (.c (.int 1)) (.bi .len (.cons (.v 1) .nil))) .yes [2]) .nil))) .nil)
def b__law_worth : Sts := (.cons (.set 3 (.tup (.cons (.c (.int 0)) (.cons (.c (.int 0)) .nil)))) (.cons (.fo (.nm 4) (.e (.rev (.v 1))) (.cons (.set 3 (.call "_law_plus" (.cons (.v 0) (.cons (.call "_law_by" (.cons (.v 0) (.cons (.v 3) (.cons (.v 2) .nil)))) (.cons (.v 4) .nil))))) .nil)) (.cons (.ret (.v 3)) .nil)))
def b__law_rest_power : Sts := (.cons (.par [4, 5, 6] (.cons (.ix (.call "_law_rows_parts" (.cons (.v 0) (.cons (.tup (.cons (.tup (.cons (.c (.int 1)) (.cons (.c (.int 0)) .nil))) .nil)) (.cons (.v 3) .nil)))) (.c (.int 1))) (.cons (.ix (.call "_law_rows_parts" (.cons (.v 0) (.cons (.v 1) (.cons (.v 3) .nil)))) (.c (.int 1))) (.cons (.v 2) .nil)))) (.cons (.fo (.nm 7) (.range1 (.c (.int 120))) (.cons (.ite (.val (.cmp .eq (.v 6) (.c (.int 0)))) (.cons (.ret (.v 4)) .nil) .nil) (.cons (.ite (.val (.cmp .eq (.bin .mod (.bi .int (.cons (.v 6) .nil)) (.c (.int 2))) (.c (.int 1)))) (.cons (.set 4 (.ix (.call "_law_rows_parts" (.cons (.v 0) (.cons (.call "_law_rows_by" (.cons (.v 0) (.cons (.v 4) (.cons (.v 5) .nil)))) (.cons (.v 3) .nil)))) (.c (.int 1)))) .nil) .nil) (.cons (.par [6, 5] (.cons (.bin .fdiv (.v 6) (.c (.int 2))) (.cons (.ix (.call "_law_rows_parts" (.cons (.v 0) (.cons (.call "_law_rows_by" (.cons (.v 0) (.cons (.v 5) (.cons (.v 5) .nil)))) (.cons (.v 3) .nil)))) (.c (.int 1))) .nil))) .nil)))) (.cons (.ret (.v 4)) .nil)))
def b__law_turned_row : Sts := (.cons (.ret (.bi .tuple (.cons (.lc (.call "_law_turned" (.cons (.v 0) (.cons (.v 2) .nil))) (.nm 2) (.e (.v 1)) .yes [2]) .nil))) .nil)
def b__law_whole_norm : Sts := (.cons (.set 2 (.bin .mul (.lst (.cons (.c (.int 0)) .nil)) (.bi .max (.cons (.bin .sub (.bin .mul (.c (.int 2)) (.bi .len (.cons (.v 1) .nil))) (.c (.int 1))) (.cons (.c (.int 0)) .nil))))) (.cons (.fo (.nm 3) (.range1 (.bi .len (.cons (.v 1) .nil))) (.cons (.augix (.v 2) (.bin .mul (.c (.int 2)) (.v 3)) .add (.call "_law_norm" (.cons (.v 0) (.cons (.ix (.v 1) (.v 3)) .nil)))) (.cons (.fo (.nm 4) (.range1 (.v 3)) (.cons (.set 5 (.call "_law_by" (.cons (.v 0) (.cons (.ix (.v 1) (.v 3)) (.cons (.call "_law_turned" (.cons (.v 0) (.cons (.ix (.v 1) (.v 4)) .nil))) .nil))))) (.cons (.augix (.v 2) (.bin .add (.v 3) (.v 4)) .add (.bin .sub (.bin .mul (.c (.int 2)) (.ix (.v 5) (.c (.int 0)))) (.bin .mul (.ix (.v 0) (.c (.int 1))) (.ix (.v 5) (.c (.int 1)))))) .nil))) .nil))) (.cons (.ret (.call "_law_trim" (.cons (.lc (.tup (.cons (.bin .mod (.bi .int (.cons (.v 6) .nil)) (.ix (.v 0) (.c (.int 0)))) (.cons (.c (.int 0)) .nil))) (.nm 6) (.e (.v 2)) .yes [6]) .nil))) .nil)))
def b__law_plain_case : Sts := (.cons (.set 2 (.ix (.v 1) (.c (.int 0)))) (.cons (.set 3 (.bi .tuple (.cons (.lc (.tup (.cons (.ix (.v 9) (.c (.int 0))) (.cons (.c (.int 0)) .nil))) (.nm 9) (.e (.call "_law_row" (.cons (.v 0) (.cons (.v 2) (.cons (.call "_law_any" (.cons (.v 0) (.cons (.c (.int 14)) .nil))) .nil))))) .yes [9]) .nil))) (.cons (.set 4 (.bi .tuple (.cons (.bin .add (.lc (.tup (.cons (.ix (.v 9) (.c (.int 0))) (.cons (.c (.int 0)) .nil))) (.nm 9) (.e (.call "_law_row" (.cons (.v 0) (.cons (.v 2) (.cons (.bin .add (.c (.int 1)) (.call "_law_any" (.cons (.v 0) (.cons (.c (.int 4)) .nil)))) .nil))))) .yes [9]) (.lst (.cons (.tup (.cons (.c (.int 1)) (.cons (.c (.int 0)) .nil))) .nil))) .nil))) (.cons (.set 5 (.bi .tuple (.cons (.bin .add (.lc (.tup (.cons (.ix (.v 9) (.c (.int 0))) (.cons (.c (.int 0)) .nil))) (.nm 9) (.e (.call "_law_row" (.cons (.v 0) (.cons (.v 2) (.cons (.call "_law_any" (.cons (.v 0) (.cons (.c (.int 6)) .nil))) .nil))))) .yes [9]) (.lst (.cons (.tup (.cons (.bin .add (.c (.int 1)) (.call "_law_any" (.cons (.v 0) (.cons (.bin .sub (.v 2) (.c (.int 1))) .nil)))) (.cons (.c (.int 0)) .nil))) .nil))) .nil))) (.cons (.par [3, 5] (.cons (.call "_law_rows_by" (.cons (.v 1) (.cons (.call "_law_trim" (.cons (.v 3) .nil)) (.cons (.v 4) .nil)))) (.cons (.call "_law_rows_by" (.cons (.v 1) (.cons (.v 5) (.cons (.v 4) .nil)))) .nil))) (.cons (.par [6, 7] (.cons (.call "_law_any" (.cons (.v 0) (.cons (.v 2) .nil))) (.cons (.call "_law_how_often" (.cons (.v 0) (.cons (.v 2) .nil))) .nil))) (.cons (.set 8 (.call "_law_plain_due" (.cons (.v 1) (.cons (.v 3) (.cons (.v 5) (.cons (.v 6) (.cons (.v 7) .nil))))))) (.cons (.ret (.tup (.cons (.tup (.cons (.c (.str "plain")) (.cons (.v 2) (.cons (.call "_law_numbers" (.cons (.v 3) .nil)) (.cons (.call "_law_numbers" (.cons (.v 5) .nil)) (.cons (.tup (.cons (.v 6) (.cons (.v 7) .nil))) .nil)))))) (.cons (.v 8) .nil)))) .nil))))))))
def b__law_plain_due : Sts := (.cons (.par [5, 6] (.cons (.call "_law_rows_by" (.cons (.v 0) (.cons (.v 1) (.cons (.v 2) .nil)))) (.cons (.call "_law_rows_plus" (.cons (.v 0) (.cons (.v 1) (.cons (.v 2) .nil)))) .nil))) (.cons (.tset (.tup (.cons (.nm 7) (.cons (.nm 8) .nil))) (.call "_law_rows_parts" (.cons (.v 0) (.cons (.v 1) (.cons (.v 2) .nil))))) (.cons (.par [9, 10] (.cons (.call "_law_common" (.cons (.v 0) (.cons (.v 1) (.cons (.v 2) .nil)))) (.cons (.call "_law_slope" (.cons (.v 0) (.cons (.v 1) .nil))) .nil))) (.cons (.set 11 (.call "_law_worth" (.cons (.v 0) (.cons (.v 1) (.cons (.tup (.cons (.v 3) (.cons (.c (.int 0)) .nil))) .nil))))) (.cons (.set 12 (.call "_law_rest_power" (.cons (.v 0) (.cons (.v 1) (.cons (.v 4) (.cons (.v 2) .nil)))))) (.cons (.set 13 (.lst (.cons (.v 1) (.cons (.v 2) (.cons (.v 6) (.cons (.call "_law_numbers" (.cons (.v 6) .nil)) (.cons (.v 5) (.cons (.call "_law_numbers" (.cons (.v 5) .nil)) (.cons (.tup (.cons (.v 7) (.cons (.v 8) .nil))) (.cons (.tup (.cons (.call "_law_numbers" (.cons (.v 7) .nil)) (.cons (.call "_law_numbers" (.cons (.v 8) .nil)) .nil))) .nil)))))))))) (.cons (.set 13 (.bin .add (.v 13) (.lst (.cons (.v 9) (.cons (.call "_law_numbers" (.cons (.v 9) .nil)) (.cons (.v 11) (.cons (.ix (.v 11) (.c (.int 0))) (.cons (.v 10) (.cons (.call "_law_numbers" (.cons (.v 10) .nil)) .nil))))))))) (.cons (.ret (.bi .tuple (.cons (.bin .add (.v 13) (.lst (.cons (.v 12) (.cons (.call "_law_numbers" (.cons (.v 12) .nil)) (.cons (.v 1) .nil))))) .nil))) .nil))))))))
def b__law_numbers : Sts := (.cons (.ret (.bi .tuple (.cons (.lc (.ix (.v 1) (.c (.int 0))) (.nm 1) (.e (.v 0)) .yes [1]) .nil))) .nil)
def b__law_primes : Sts := (.cons (.ret (.lst (.cons (.c (.int 5)) (.cons (.c (.int 7)) (.cons (.c (.int 11)) (.cons (.c (.int 13)) (.cons (.c (.int 17)) (.cons (.c (.int 19)) (.cons (.c (.int 23)) (.cons (.c (.int 29)) (.cons (.c (.int 31)) (.cons (.c (.int 37)) (.cons (.c (.int 41)) (.cons (.c (.int 43)) (.cons (.c (.int 47)) (.cons (.c (.int 53)) (.cons (.c (.int 59)) (.cons (.c (.int 61)) (.cons (.c (.int 67)) (.cons (.c (.int 71)) (.cons (.c (.int 73)) (.cons (.c (.int 79)) (.cons (.c (.int 83)) (.cons (.c (.int 89)) (.cons (.c (.int 97)) .nil))))))))))))))))))))))))) .nil)
def b__law_mixed : Sts := (.cons (.par [2, 3] (.cons (.bi .list (.cons (.v 1) .nil)) (.cons (.lst .nil) .nil))) (.cons (.fo (.nm 4) (.range1 (.bi .len (.cons (.v 1) .nil))) (.cons (.ex (.mt .append (.v 3) (.cons (.mt .popAt (.v 2) (.cons (.call "_law_any" (.cons (.v 0) (.cons (.bi .len (.cons (.v 2) .nil)) .nil))) .nil)) .nil))) .nil)) (.cons (.ret (.v 3)) .nil)))
def b__law_ask : Sts := (.cons (.tset (.tup (.cons (.nm 1) (.cons (.nm 2) (.cons (.nm 3) (.cons (.nm 4) (.cons (.nm 5) .nil)))))) (.v 0)) (.cons (.ite (.val (.cmp .eq (.v 1) (.c (.str "poly")))) (.cons (.set 6 (.bi .list (.cons (.v 3) .nil))) (.cons (.set 7 (.call "pair_poly" (.cons (.v 2) (.cons (.v 6) .nil)))) (.cons (.ret (.tup (.cons (.v 7) (.cons (.bi .tuple (.cons (.v 6) .nil)) (.cons (.call "pair_poly" (.cons (.v 2) (.cons (.v 3) .nil))) .nil))))) .nil))) .nil) (.cons (.ite (.val (.cmp .eq (.v 1) (.c (.str "plus")))) (.cons (.ret (.call "pair_plus" (.cons (.v 2) (.cons (.v 3) (.cons (.v 4) .nil))))) .nil) .nil) (.cons (.ite (.val (.cmp .eq (.v 1) (.c (.str "by")))) (.cons (.ret (.call "pair_by" (.cons (.v 2) (.cons (.v 3) (.cons (.v 4) .nil))))) .nil) .nil) (.cons (.ite (.val (.cmp .eq (.v 1) (.c (.str "parts")))) (.cons (.ret (.call "pair_parts" (.cons (.v 2) (.cons (.v 3) (.cons (.v 4) .nil))))) .nil) .nil) (.cons (.ite (.val (.cmp .eq (.v 1) (.c (.str "common")))) (.cons (.ret (.call "pair_common" (.cons (.v 2) (.cons (.v 3) (.cons (.v 4) .nil))))) .nil) .nil) (.cons (.ite (.val (.cmp .eq (.v 1) (.c (.str "slope")))) (.cons (.ret (.call "pair_derived" (.cons (.v 2) (.cons (.v 3) .nil)))) .nil) .nil) (.cons (.ite (.val (.cmp .eq (.v 1) (.c (.str "worth")))) (.cons (.ret (.call "pair_at" (.cons (.v 2) (.cons (.v 3) (.cons (.v 4) .nil))))) .nil) .nil) (.cons (.ite (.val (.cmp .eq (.v 1) (.c (.str "power")))) (.cons (.ret (.call "pair_power_rest" (.cons (.v 2) (.cons (.v 3) (.cons (.v 5) (.cons (.v 4) .nil)))))) .nil) .nil) (.cons (.ite (.val (.cmp .eq (.v 1) (.c (.str "plain")))) (.cons (.ret (.call "_law_plain" (.cons (.v 2) (.cons (.v 3) (.cons (.v 4) (.cons (.ix (.v 5) (.c (.int 0))) (.cons (.ix (.v 5) (.c (.int 1))) .nil))))))) .nil) .nil) (.cons (.ret (.call "turned_poly" (.cons (.v 2) (.cons (.v 3) .nil)))) .nil)))))))))))
def b_pair_poly : Sts := (.cons (.ret (.call "row_trimmed" (.cons (.v 1) .nil))) .nil)
def b_row_trimmed : Sts := (.cons (.set 1 (.bi .len (.cons (.v 0) .nil))) (.cons (.wh (.and (.val (.cmp .gt (.v 1) (.c (.int 0)))) (.val (.cmp .eq (.ix (.v 0) (.bin .sub (.v 1) (.c (.int 1)))) (.g "NOUGHT")))) (.cons (.aug 1 .sub (.c (.int 1))) .nil)) (.cons (.ret (.bi .tuple (.cons (.sl (.v 0) .non (.som (.v 1))) .nil))) .nil)))
def b_pair_plus : Sts := (.cons (.ret (.call "rows_added" (.cons (.call "ground_of" (.cons (.v 0) .nil)) (.cons (.v 1) (.cons (.v 2) .nil))))) .nil)
def b_rows_added : Sts := (.cons (.ite (.val (.cmp .lt (.bi .len (.cons (.v 1) .nil)) (.bi .len (.cons (.v 2) .nil)))) (.cons (.par [1, 2] (.cons (.v 2) (.cons (.v 1) .nil))) .nil) .nil) (.cons (.set 3 (.lc (.call "added_grounds" (.cons (.v 0) (.cons (.v 4) (.cons (.v 5) .nil)))) (.tup (.cons (.nm 4) (.cons (.nm 5) .nil))) (.zip (.v 1) (.v 2)) .yes [4, 5])) (.cons (.ret (.call "row_trimmed" (.cons (.bin .add (.v 3) (.bi .list (.cons (.sl (.v 1) (.som (.bi .len (.cons (.v 2) .nil))) .non) .nil))) .nil))) .nil)))
def b_added_grounds : Sts := (.cons (.set 3 (.ix (.v 0) (.c (.int 0)))) (.cons (.ret (.tup (.cons (.bin .mod (.bin .add (.ix (.v 1) (.c (.int 0))) (.ix (.v 2) (.c (.int 0)))) (.v 3)) (.cons (.bin .mod (.bin .add (.ix (.v 1) (.c (.int 1))) (.ix (.v 2) (.c (.int 1)))) (.v 3)) .nil)))) .nil))
def b_ground_of : Sts := (.cons (.set 1 (.c (.int 0))) (.cons (.wh (.val (.cmp .ne (.call "symbol" (.cons (.v 0) (.cons (.bin .sub (.bin .mul (.v 1) (.v 1)) (.c (.int 4))) .nil))) (.neg (.c (.int 1))))) (.cons (.aug 1 .add (.c (.int 1))) .nil)) (.cons (.ret (.tup (.cons (.v 0) (.cons (.v 1) .nil)))) .nil)))
def b_symbol : Sts := (.cons (.set 2 (.call "remainder_power" (.cons (.v 1) (.cons (.bin .fdiv (.bin .sub (.v 0) (.c (.int 1))) (.c (.int 2))) (.cons (.v 0) .nil))))) (.cons (.ite (.val (.cmp .eq (.v 2) (.c (.int 0)))) (.cons (.ret (.c (.int 0))) .nil) .nil) (.cons (.ret (.ite (.val (.cmp .eq (.v 2) (.c (.int 1)))) (.c (.int 1)) (.neg (.c (.int 1))))) .nil)))
def b_remainder_power : Sts := (.cons (.par [3, 4, 5] (.cons (.bin .mod (.c (.int 1)) (.v 2)) (.cons (.bin .mod (.v 0) (.v 2)) (.cons (.v 1) .nil)))) (.cons (.wh (.val (.cmp .gt (.v 5) (.c (.int 0)))) (.cons (.ite (.val (.cmp .eq (.bin .mod (.v 5) (.c (.int 2))) (.c (.int 1)))) (.cons (.set 3 (.bin .mod (.bin .mul (.v 3) (.v 4)) (.v 2))) .nil) .nil) (.cons (.set 5 (.bin .fdiv (.v 5) (.c (.int 2)))) (.cons (.ite (.val (.cmp .gt (.v 5) (.c (.int 0)))) (.cons (.set 4 (.bin .mod (.bin .mul (.v 4) (.v 4)) (.v 2))) .nil) .nil) .nil)))) (.cons (.ret (.v 3)) .nil)))
def b_pair_by : Sts := (.cons (.ret (.call "rows_multiplied" (.cons (.call "ground_of" (.cons (.v 0) .nil)) (.cons (.v 1) (.cons (.v 2) .nil))))) .nil)
def b_rows_multiplied : Sts := (.cons (.ite (.or (.val (.cmp .eq (.v 1) (.tup .nil))) (.val (.cmp .eq (.v 2) (.tup .nil)))) (.cons (.ret (.tup .nil)) .nil) .nil) (.cons (.tset (.tup (.cons (.nm 3) (.cons (.nm 4) .nil))) (.v 0)) (.cons (.set 5 (.bin .sub (.bin .add (.bi .len (.cons (.v 1) .nil)) (.bi .len (.cons (.v 2) .nil))) (.c (.int 1)))) (.cons (.tset (.tup (.cons (.nm 6) (.cons (.nm 7) (.cons (.nm 8) .nil)))) (.tup (.cons (.bin .mul (.lst (.cons (.c (.int 0)) .nil)) (.v 5)) (.cons (.bin .mul (.lst (.cons (.c (.int 0)) .nil)) (.v 5)) (.cons (.bin .mul (.lst (.cons (.c (.int 0)) .nil)) (.v 5)) .nil))))) (.cons (.fo (.tup (.cons (.nm 9) (.cons (.tup (.cons (.nm 10) (.cons (.nm 11) .nil))) .nil))) (.enum (.v 1)) (.cons (.fo (.tup (.cons (.nm 12) (.cons (.tup (.cons (.nm 13) (.cons (.nm 14) .nil))) .nil))) (.enum (.v 2)) (.cons (.augix (.v 6) (.bin .add (.v 9) (.v 12)) .add (.bin .mul (.v 10) (.v 13))) (.cons (.augix (.v 7) (.bin .add (.v 9) (.v 12)) .add (.bin .add (.bin .mul (.v 10) (.v 14)) (.bin .mul (.v 11) (.v 13)))) (.cons (.augix (.v 8) (.bin .add (.v 9) (.v 12)) .add (.bin .mul (.v 11) (.v 14))) .nil)))) .nil)) (.cons (.ret (.call "row_trimmed" (.cons (.lc (.tup (.cons (.bin .mod (.bin .sub (.ix (.v 6) (.v 9)) (.ix (.v 8) (.v 9))) (.v 3)) (.cons (.bin .mod (.bin .sub (.ix (.v 7) (.v 9)) (.bin .mul (.v 4) (.ix (.v 8) (.v 9)))) (.v 3)) .nil))) (.nm 9) (.range1 (.v 5)) .yes [9]) .nil))) .nil))))))
def b_pair_parts : Sts := (.cons (.ret (.call "row_parts" (.cons (.call "ground_of" (.cons (.v 0) .nil)) (.cons (.v 1) (.cons (.v 2) .nil))))) .nil)
def b_row_parts : Sts := (.cons (.tset (.tup (.cons (.nm 3) (.cons (.nm 4) .nil))) (.v 0)) (.cons (.par [5, 6] (.cons (.call "inverted" (.cons (.v 0) (.cons (.ix (.v 2) (.neg (.c (.int 1)))) .nil))) (.cons (.bin .sub (.bi .len (.cons (.v 2) .nil)) (.c (.int 1))) .nil))) (.cons (.tset (.tup (.cons (.nm 9) (.cons (.nm 10) (.cons (.nm 11) .nil)))) (.tup (.cons (.lc (.v 7) (.tup (.cons (.nm 7) (.cons (.nm 8) .nil))) (.e (.v 1)) .yes [7, 8]) (.cons (.lc (.v 8) (.tup (.cons (.nm 7) (.cons (.nm 8) .nil))) (.e (.v 1)) .yes [7, 8]) (.cons (.lst .nil) .nil))))) (.cons (.fo (.nm 12) (.range3 (.bin .sub (.bi .len (.cons (.v 1) .nil)) (.bi .len (.cons (.v 2) .nil))) (.neg (.c (.int 1))) (.neg (.c (.int 1)))) (.cons (.tset (.tup (.cons (.nm 13) (.cons (.nm 14) .nil))) (.call "multiplied_grounds" (.cons (.v 0) (.cons (.tup (.cons (.ix (.v 9) (.bin .add (.v 12) (.v 6))) (.cons (.ix (.v 10) (.bin .add (.v 12) (.v 6))) .nil))) (.cons (.v 5) .nil))))) (.cons (.ex (.mt .append (.v 11) (.cons (.tup (.cons (.v 13) (.cons (.v 14) .nil))) .nil))) (.cons (.ite (.val (.cmp .ne (.tup (.cons (.v 13) (.cons (.v 14) .nil))) (.g "NOUGHT"))) (.cons (.fo (.tup (.cons (.nm 15) (.cons (.tup (.cons (.nm 7) (.cons (.nm 8) .nil))) .nil))) (.enum (.v 2)) (.cons (.augix (.v 9) (.bin .add (.v 12) (.v 15)) .sub (.bin .sub (.bin .mul (.v 13) (.v 7)) (.bin .mul (.v 14) (.v 8)))) (.cons (.augix (.v 10) (.bin .add (.v 12) (.v 15)) .sub (.bin .sub (.bin .add (.bin .mul (.v 13) (.v 8)) (.bin .mul (.v 14) (.v 7))) (.bin .mul (.bin .mul (.v 4) (.v 14)) (.v 8)))) .nil))) .nil) .nil) .nil)))) (.cons (.set 16 (.lc (.tup (.cons (.bin .mod (.ix (.v 9) (.v 15)) (.v 3)) (.cons (.bin .mod (.ix (.v 10) (.v 15)) (.v 3)) .nil))) (.nm 15) (.range1 (.bi .min (.cons (.v 6) (.cons (.bi .len (.cons (.v 1) .nil)) .nil)))) .yes [15])) (.cons (.ret (.tup (.cons (.call "row_trimmed" (.cons (.rev (.v 11)) .nil)) (.cons (.call "row_trimmed" (.cons (.v 16) .nil)) .nil)))) .nil))))))
def b_inverted : Sts := (.cons (.ret (.call "often_grounds" (.cons (.v 0) (.cons (.call "turned_thing" (.cons (.v 0) (.cons (.v 1) .nil))) (.cons (.call "inverse" (.cons (.ix (.v 0) (.c (.int 0))) (.cons (.call "norm_number" (.cons (.v 0) (.cons (.v 1) .nil))) .nil))) .nil))))) .nil)
def b_often_grounds : Sts := (.cons (.set 3 (.ix (.v 0) (.c (.int 0)))) (.cons (.ret (.tup (.cons (.bin .mod (.bin .mul (.ix (.v 1) (.c (.int 0))) (.v 2)) (.v 3)) (.cons (.bin .mod (.bin .mul (.ix (.v 1) (.c (.int 1))) (.v 2)) (.v 3)) .nil)))) .nil))
def b_turned_thing : Sts := (.cons (.tset (.tup (.cons (.nm 2) (.cons (.nm 3) .nil))) (.v 0)) (.cons (.ret (.tup (.cons (.bin .mod (.bin .sub (.ix (.v 1) (.c (.int 0))) (.bin .mul (.v 3) (.ix (.v 1) (.c (.int 1))))) (.v 2)) (.cons (.bin .mod (.neg (.ix (.v 1) (.c (.int 1)))) (.v 2)) .nil)))) .nil))
def b_inverse : Sts := (.cons (.par [2, 3] (.cons (.v 0) (.cons (.bin .mod (.v 1) (.v 0)) .nil))) (.cons (.tset (.tup (.cons (.nm 4) (.cons (.nm 5) .nil))) (.tup (.cons (.c (.int 0)) (.cons (.c (.int 1)) .nil)))) (.cons (.wh (.val (.cmp .ne (.v 3) (.c (.int 0)))) (.cons (.set 6 (.bin .fdiv (.v 2) (.v 3))) (.cons (.par [2, 3] (.cons (.v 3) (.cons (.bin .sub (.v 2) (.bin .mul (.v 6) (.v 3))) .nil))) (.cons (.par [4, 5] (.cons (.v 5) (.cons (.bin .sub (.v 4) (.bin .mul (.v 6) (.v 5))) .nil))) .nil)))) (.cons (.ret (.bin .mod (.v 4) (.v 0))) .nil))))
def b_norm_number : Sts := (.cons (.tset (.tup (.cons (.nm 2) (.cons (.nm 3) .nil))) (.v 0)) (.cons (.ret (.bin .mod (.bin .add (.bin .mul (.ix (.v 1) (.c (.int 0))) (.bin .sub (.ix (.v 1) (.c (.int 0))) (.bin .mul (.v 3) (.ix (.v 1) (.c (.int 1)))))) (.bin .mul (.ix (.v 1) (.c (.int 1))) (.ix (.v 1) (.c (.int 1))))) (.v 2))) .nil))
def b_multiplied_grounds : Sts := (.cons (.tset (.tup (.cons (.nm 3) (.cons (.nm 4) .nil))) (.v 0)) (.cons (.set 5 (.bin .mul (.ix (.v 1) (.c (.int 1))) (.ix (.v 2) (.c (.int 1))))) (.cons (.ret (.tup (.cons (.bin .mod (.bin .sub (.bin .mul (.ix (.v 1) (.c (.int 0))) (.ix (.v 2) (.c (.int 0)))) (.v 5)) (.v 3)) (.cons (.bin .mod (.bin .sub (.bin .add (.bin .mul (.ix (.v 1) (.c (.int 0))) (.ix (.v 2) (.c (.int 1)))) (.bin .mul (.ix (.v 1) (.c (.int 1))) (.ix (.v 2) (.c (.int 0))))) (.bin .mul (.v 4) (.v 5))) (.v 3)) .nil)))) .nil)))
def b_pair_common : Sts := (.cons (.ret (.call "rows_greatest" (.cons (.call "ground_of" (.cons (.v 0) .nil)) (.cons (.v 1) (.cons (.v 2) .nil))))) .nil)
def b_rows_greatest : Sts := (.cons (.wh (.val (.cmp .ne (.v 2) (.tup .nil))) (.cons (.par [1, 2] (.cons (.v 2) (.cons (.call "row_rest" (.cons (.v 0) (.cons (.v 1) (.cons (.v 2) .nil)))) .nil))) .nil)) (.cons (.ret (.call "row_monic" (.cons (.v 0) (.cons (.v 1) .nil)))) .nil))
def b_row_rest : Sts := (.cons (.ite (.val (.cmp .lt (.bi .len (.cons (.v 1) .nil)) (.bi .len (.cons (.v 2) .nil)))) (.cons (.ret (.v 1)) .nil) .nil) (.cons (.ret (.ix (.call "row_parts" (.cons (.v 0) (.cons (.v 1) (.cons (.v 2) .nil)))) (.c (.int 1)))) .nil))
def b_row_monic : Sts := (.cons (.ite (.or (.val (.cmp .eq (.v 1) (.tup .nil))) (.val (.cmp .eq (.ix (.v 1) (.neg (.c (.int 1)))) (.g "ONE")))) (.cons (.ret (.v 1)) .nil) .nil) (.cons (.ret (.call "row_often" (.cons (.v 0) (.cons (.v 1) (.cons (.call "inverted" (.cons (.v 0) (.cons (.ix (.v 1) (.neg (.c (.int 1)))) .nil))) .nil))))) .nil))
def b_row_often : Sts := (.cons (.ret (.call "row_trimmed" (.cons (.lc (.call "multiplied_grounds" (.cons (.v 0) (.cons (.v 3) (.cons (.v 2) .nil)))) (.nm 3) (.e (.v 1)) .yes [3]) .nil))) .nil)
def b_pair_derived : Sts := (.cons (.ret (.call "row_slope" (.cons (.call "ground_of" (.cons (.v 0) .nil)) (.cons (.v 1) .nil)))) .nil)
def b_row_slope : Sts := (.cons (.ret (.call "row_trimmed" (.cons (.sl (.lc (.call "often_grounds" (.cons (.v 0) (.cons (.v 3) (.cons (.v 2) .nil)))) (.tup (.cons (.nm 2) (.cons (.nm 3) .nil))) (.enum (.v 1)) .yes [2, 3]) (.som (.c (.int 1))) .non) .nil))) .nil)
def b_pair_at : Sts := (.cons (.ret (.call "row_worth" (.cons (.call "ground_of" (.cons (.v 0) .nil)) (.cons (.v 1) (.cons (.v 2) .nil))))) .nil)
def b_row_worth : Sts := (.cons (.set 3 (.g "NOUGHT")) (.cons (.fo (.nm 4) (.rev (.v 1)) (.cons (.set 3 (.call "added_grounds" (.cons (.v 0) (.cons (.call "multiplied_grounds" (.cons (.v 0) (.cons (.v 3) (.cons (.v 2) .nil)))) (.cons (.v 4) .nil))))) .nil)) (.cons (.ret (.v 3)) .nil)))
def b_pair_power_rest : Sts := (.cons (.ret (.call "row_raised" (.cons (.call "ground_of" (.cons (.v 0) .nil)) (.cons (.v 1) (.cons (.v 2) (.cons (.v 3) .nil)))))) .nil)
def b_row_raised : Sts := (.cons (.set 1 (.call "row_rest" (.cons (.v 0) (.cons (.v 1) (.cons (.v 3) .nil))))) (.cons (.set 4 (.g "ONE_ROW")) (.cons (.fo (.nm 5) (.e (.call "figures" (.cons (.v 2) .nil))) (.cons (.set 4 (.call "row_rest" (.cons (.v 0) (.cons (.call "rows_multiplied" (.cons (.v 0) (.cons (.v 4) (.cons (.v 4) .nil)))) (.cons (.v 3) .nil))))) (.cons (.ite (.val (.cmp .eq (.v 5) (.c (.int 1)))) (.cons (.set 4 (.call "row_rest" (.cons (.v 0) (.cons (.call "rows_multiplied" (.cons (.v 0) (.cons (.v 4) (.cons (.v 1) .nil)))) (.cons (.v 3) .nil))))) .nil) .nil) .nil))) (.cons (.ret (.v 4)) .nil))))
def b_figures : Sts := (.cons (.set 1 (.lst .nil)) (.cons (.wh (.val (.cmp .gt (.v 0) (.c (.int 0)))) (.cons (.ex (.mt .append (.v 1) (.cons (.bin .mod (.v 0) (.c (.int 2))) .nil))) (.cons (.aug 0 .fdiv (.c (.int 2))) .nil))) (.cons (.ret (.rev (.v 1))) .nil)))
def b__law_plain : Sts := (.cons (.par [5, 6] (.cons (.call "pair_of" (.cons (.v 0) (.cons (.v 1) .nil))) (.cons (.call "pair_of" (.cons (.v 0) (.cons (.v 2) .nil))) .nil))) (.cons (.set 7 (.lst (.cons (.v 5) (.cons (.v 6) (.cons (.call "pair_plus" (.cons (.v 0) (.cons (.v 5) (.cons (.v 6) .nil)))) (.cons (.call "poly_plus" (.cons (.v 0) (.cons (.v 1) (.cons (.v 2) .nil)))) (.cons (.call "pair_by" (.cons (.v 0) (.cons (.v 5) (.cons (.v 6) .nil)))) (.cons (.call "poly_by" (.cons (.v 0) (.cons (.v 1) (.cons (.v 2) .nil)))) .nil)))))))) (.cons (.set 7 (.bin .add (.v 7) (.lst (.cons (.call "pair_parts" (.cons (.v 0) (.cons (.v 5) (.cons (.v 6) .nil)))) (.cons (.call "poly_parts" (.cons (.v 0) (.cons (.v 1) (.cons (.v 2) .nil)))) (.cons (.call "pair_common" (.cons (.v 0) (.cons (.v 5) (.cons (.v 6) .nil)))) (.cons (.call "common" (.cons (.v 0) (.cons (.v 1) (.cons (.v 2) .nil)))) .nil))))))) (.cons (.set 7 (.bin .add (.v 7) (.lst (.cons (.call "pair_at" (.cons (.v 0) (.cons (.v 5) (.cons (.tup (.cons (.v 3) (.cons (.c (.int 0)) .nil))) .nil)))) (.cons (.call "poly_at" (.cons (.v 0) (.cons (.v 1) (.cons (.v 3) .nil)))) (.cons (.call "pair_derived" (.cons (.v 0) (.cons (.v 5) .nil))) (.cons (.call "poly_derived" (.cons (.v 0) (.cons (.v 1) .nil))) .nil))))))) (.cons (.ret (.bi .tuple (.cons (.bin .add (.v 7) (.lst (.cons (.call "pair_power_rest" (.cons (.v 0) (.cons (.v 5) (.cons (.v 4) (.cons (.v 6) .nil))))) (.cons (.call "power_rest" (.cons (.v 0) (.cons (.v 1) (.cons (.v 4) (.cons (.v 2) .nil))))) (.cons (.call "turned_poly" (.cons (.v 0) (.cons (.v 5) .nil))) .nil))))) .nil))) .nil)))))
def b_pair_of : Sts := (.cons (.ret (.bi .tuple (.cons (.lc (.tup (.cons (.v 2) (.cons (.c (.int 0)) .nil))) (.nm 2) (.e (.v 1)) .yes [2]) .nil))) .nil)
def b_poly_plus : Sts := (.cons (.ret (.call "added_polywork" (.cons (.v 0) (.cons (.v 1) (.cons (.v 2) .nil))))) .nil)
def b_added_polywork : Sts := (.cons (.ite (.val (.cmp .lt (.bi .len (.cons (.v 1) .nil)) (.bi .len (.cons (.v 2) .nil)))) (.cons (.par [1, 2] (.cons (.v 2) (.cons (.v 1) .nil))) .nil) .nil) (.cons (.set 3 (.lc (.bin .add (.v 4) (.v 5)) (.tup (.cons (.nm 4) (.cons (.nm 5) .nil))) (.zip (.v 1) (.v 2)) .yes [4, 5])) (.cons (.ret (.call "trimmed" (.cons (.v 0) (.cons (.bin .add (.v 3) (.bi .list (.cons (.sl (.v 1) (.som (.bi .len (.cons (.v 2) .nil))) .non) .nil))) .nil)))) .nil)))
def b_trimmed : Sts := (.cons (.set 2 (.lc (.bin .mod (.v 3) (.v 0)) (.nm 3) (.e (.v 1)) .yes [3])) (.cons (.wh (.and (.val (.v 2)) (.val (.cmp .eq (.ix (.v 2) (.neg (.c (.int 1)))) (.c (.int 0))))) (.cons (.ex (.mt .pop (.v 2) .nil)) .nil)) (.cons (.ret (.bi .tuple (.cons (.v 2) .nil))) .nil)))
def b_poly_by : Sts := (.cons (.ret (.call "multiplied_polywork" (.cons (.v 0) (.cons (.v 1) (.cons (.v 2) .nil))))) .nil)
def b_multiplied_polywork : Sts := (.cons (.ite (.or (.val (.cmp .eq (.v 1) (.tup .nil))) (.val (.cmp .eq (.v 2) (.tup .nil)))) (.cons (.ret (.tup .nil)) .nil) .nil) (.cons (.set 3 (.bin .mul (.lst (.cons (.c (.int 0)) .nil)) (.bin .sub (.bin .add (.bi .len (.cons (.v 1) .nil)) (.bi .len (.cons (.v 2) .nil))) (.c (.int 1))))) (.cons (.fo (.tup (.cons (.nm 4) (.cons (.nm 5) .nil))) (.enum (.v 1)) (.cons (.ite (.val (.cmp .ne (.v 5) (.c (.int 0)))) (.cons (.fo (.tup (.cons (.nm 6) (.cons (.nm 7) .nil))) (.enum (.v 2)) (.cons (.augix (.v 3) (.bin .add (.v 4) (.v 6)) .add (.bin .mul (.v 5) (.v 7))) .nil)) .nil) .nil) .nil)) (.cons (.ret (.call "trimmed" (.cons (.v 0) (.cons (.v 3) .nil)))) .nil))))
def b_poly_parts : Sts := (.cons (.ret (.call "parts" (.cons (.v 0) (.cons (.v 1) (.cons (.v 2) .nil))))) .nil)
def b_parts : Sts := (.cons (.par [3, 4] (.cons (.call "head_inverse" (.cons (.v 0) (.cons (.v 2) .nil))) (.cons (.bin .sub (.bi .len (.cons (.v 2) .nil)) (.c (.int 1))) .nil))) (.cons (.par [5, 6] (.cons (.bi .list (.cons (.v 1) .nil)) (.cons (.lst .nil) .nil))) (.cons (.fo (.nm 7) (.range3 (.bin .sub (.bi .len (.cons (.v 1) .nil)) (.bi .len (.cons (.v 2) .nil))) (.neg (.c (.int 1))) (.neg (.c (.int 1)))) (.cons (.set 8 (.bin .mod (.bin .mul (.ix (.v 5) (.bin .add (.v 7) (.v 4))) (.v 3)) (.v 0))) (.cons (.ex (.mt .append (.v 6) (.cons (.v 8) .nil))) (.cons (.ite (.val (.cmp .ne (.v 8) (.c (.int 0)))) (.cons (.fo (.tup (.cons (.nm 9) (.cons (.nm 10) .nil))) (.enum (.v 2)) (.cons (.augix (.v 5) (.bin .add (.v 7) (.v 9)) .sub (.bin .mul (.v 8) (.v 10))) .nil)) .nil) .nil) .nil)))) (.cons (.ret (.tup (.cons (.call "trimmed" (.cons (.v 0) (.cons (.rev (.v 6)) .nil))) (.cons (.call "trimmed" (.cons (.v 0) (.cons (.sl (.v 5) .non (.som (.v 4))) .nil))) .nil)))) .nil))))
def b_head_inverse : Sts := (.cons (.ite (.val (.cmp .eq (.ix (.v 1) (.neg (.c (.int 1)))) (.c (.int 1)))) (.cons (.ret (.c (.int 1))) .nil) .nil) (.cons (.ret (.call "inverse" (.cons (.v 0) (.cons (.ix (.v 1) (.neg (.c (.int 1)))) .nil)))) .nil))
def b_common : Sts := (.cons (.ret (.call "greatest" (.cons (.v 0) (.cons (.v 1) (.cons (.v 2) .nil))))) .nil)
def b_greatest : Sts := (.cons (.wh (.val (.cmp .ne (.v 2) (.tup .nil))) (.cons (.par [1, 2] (.cons (.v 2) (.cons (.call "rest_of" (.cons (.v 0) (.cons (.v 1) (.cons (.v 2) .nil)))) .nil))) .nil)) (.cons (.ret (.call "made_monic" (.cons (.v 0) (.cons (.v 1) .nil)))) .nil))
def b_rest_of : Sts := (.cons (.ite (.val (.cmp .lt (.bi .len (.cons (.v 1) .nil)) (.bi .len (.cons (.v 2) .nil)))) (.cons (.ret (.v 1)) .nil) .nil) (.cons (.ret (.ix (.call "parts" (.cons (.v 0) (.cons (.v 1) (.cons (.v 2) .nil)))) (.c (.int 1)))) .nil))
def b_made_monic : Sts := (.cons (.ite (.or (.val (.cmp .eq (.v 1) (.tup .nil))) (.val (.cmp .eq (.ix (.v 1) (.neg (.c (.int 1)))) (.c (.int 1))))) (.cons (.ret (.v 1)) .nil) .nil) (.cons (.ret (.call "often_polywork" (.cons (.v 0) (.cons (.v 1) (.cons (.call "inverse" (.cons (.v 0) (.cons (.ix (.v 1) (.neg (.c (.int 1)))) .nil))) .nil))))) .nil))
def b_often_polywork : Sts := (.cons (.ret (.call "trimmed" (.cons (.v 0) (.cons (.lc (.bin .mul (.v 2) (.v 3)) (.nm 3) (.e (.v 1)) .yes [3]) .nil)))) .nil)
def b_poly_at : Sts := (.cons (.ret (.call "worth" (.cons (.v 0) (.cons (.v 1) (.cons (.v 2) .nil))))) .nil)
def b_worth : Sts := (.cons (.set 3 (.c (.int 0))) (.cons (.fo (.nm 4) (.rev (.v 1)) (.cons (.set 3 (.bin .mod (.bin .add (.bin .mul (.v 3) (.v 2)) (.v 4)) (.v 0))) .nil)) (.cons (.ret (.v 3)) .nil)))
def b_poly_derived : Sts := (.cons (.ret (.call "slope" (.cons (.v 0) (.cons (.v 1) .nil)))) .nil)
def b_slope : Sts := (.cons (.ret (.call "trimmed" (.cons (.v 0) (.cons (.sl (.lc (.bin .mul (.v 2) (.v 3)) (.tup (.cons (.nm 2) (.cons (.nm 3) .nil))) (.enum (.v 1)) .yes [2, 3]) (.som (.c (.int 1))) .non) .nil)))) .nil)
def b_power_rest : Sts := (.cons (.ret (.call "raised" (.cons (.v 0) (.cons (.v 1) (.cons (.v 2) (.cons (.v 3) .nil)))))) .nil)
def b_raised : Sts := (.cons (.set 1 (.call "rest_of" (.cons (.v 0) (.cons (.v 1) (.cons (.v 3) .nil))))) (.cons (.set 4 (.tup (.cons (.c (.int 1)) .nil))) (.cons (.fo (.nm 5) (.e (.call "figures" (.cons (.v 2) .nil))) (.cons (.set 4 (.call "rest_of" (.cons (.v 0) (.cons (.call "multiplied_polywork" (.cons (.v 0) (.cons (.v 4) (.cons (.v 4) .nil)))) (.cons (.v 3) .nil))))) (.cons (.ite (.val (.cmp .eq (.v 5) (.c (.int 1)))) (.cons (.set 4 (.call "rest_of" (.cons (.v 0) (.cons (.call "multiplied_polywork" (.cons (.v 0) (.cons (.v 4) (.cons (.v 1) .nil)))) (.cons (.v 3) .nil))))) .nil) .nil) .nil))) (.cons (.ret (.v 4)) .nil))))
def b_turned_poly : Sts := (.cons (.set 2 (.call "ground_of" (.cons (.v 0) .nil))) (.cons (.ret (.bi .tuple (.cons (.lc (.call "turned_thing" (.cons (.v 2) (.cons (.v 3) .nil))) (.nm 3) (.e (.v 1)) .yes [3]) .nil))) .nil))
def b__law_all : Sts := (.cons (.ret (.cmp .eq (.bi .len (.cons (.lc (.v 1) (.tup (.cons (.nm 1) (.cons (.nm 2) .nil))) (.e (.v 0)) (.not (.val (.call "_law_same" (.cons (.v 1) (.cons (.v 2) .nil))))) [1, 2]) .nil)) (.c (.int 0)))) .nil)
def b__law_same : Sts := (.cons (.ite (.val (.bi .isTuple (.cons (.v 1) .nil))) (.cons (.ite (.or (.not (.val (.bi .isTuple (.cons (.v 0) .nil)))) (.val (.cmp .ne (.bi .len (.cons (.v 0) .nil)) (.bi .len (.cons (.v 1) .nil))))) (.cons (.ret (.c (.bl false))) .nil) .nil) (.cons (.ret (.cmp .eq (.bi .len (.cons (.lc (.v 2) (.nm 2) (.range1 (.bi .len (.cons (.v 1) .nil))) (.not (.val (.call "_law_same" (.cons (.ix (.v 0) (.v 2)) (.cons (.ix (.v 1) (.v 2)) .nil))))) [2]) .nil)) (.c (.int 0)))) .nil)) .nil) (.cons (.ite (.val (.cmp .is (.v 1) (.c .non))) (.cons (.ret (.cmp .is (.v 0) (.c .non))) .nil) .nil) (.cons (.ite (.or (.val (.cmp .is (.v 1) (.c (.bl true)))) (.val (.cmp .is (.v 1) (.c (.bl false))))) (.cons (.ret (.ite (.val (.v 1)) (.cmp .is (.v 0) (.c (.bl true))) (.cmp .is (.v 0) (.c (.bl false))))) .nil) .nil) (.cons (.ite (.val (.bi .isStr (.cons (.v 1) .nil))) (.cons (.ret (.andE (.bi .isStr (.cons (.v 0) .nil)) (.cmp .eq (.v 0) (.v 1)))) .nil) .nil) (.cons (.ret (.andE (.bi .isInt (.cons (.v 0) .nil)) (.andE (.notE (.bi .isBool (.cons (.v 0) .nil))) (.cmp .eq (.v 0) (.v 1))))) .nil)))))
def es : List Ent := [
  ⟨"law", 105, ["script", "deal", "asked", "pairs", "told", "row", "due"], ["script"], ⟨1, 7, b_law⟩⟩,
  ⟨"_law_deal", 68, ["script", "salt", "most", "cell", "cells", "mix"], ["script", "salt"], ⟨2, 6, b__law_deal⟩⟩,
  ⟨"_law_case", 103, ["deal", "prime", "field", "shared", "first", "second", "left", "right", "great", "low", "spot", "many", "against", "tail", "found", "entry"], ["deal", "prime"], ⟨2, 16, b__law_case⟩⟩,
  ⟨"_law_field", 74, ["prime", "entry", "squares", "some", "inverses"], ["prime"], ⟨1, 5, b__law_field⟩⟩,
  ⟨"_law_row", 91, ["deal", "prime", "size", "thin", "found", "spot", "made"], ["deal", "prime", "size"], ⟨3, 7, b__law_row⟩⟩,
  ⟨"_law_any", 69, ["deal", "bound", "rest"], ["deal", "bound"], ⟨2, 3, b__law_any⟩⟩,
  ⟨"_law_thing", 82, ["deal", "prime", "shape", "low", "high"], ["deal", "prime"], ⟨2, 5, b__law_thing⟩⟩,
  ⟨"_law_unit", 83, ["deal", "prime", "made"], ["deal", "prime"], ⟨2, 3, b__law_unit⟩⟩,
  ⟨"_law_rows_by", 86, ["field", "left", "right", "found", "spot", "to"], ["field", "left", "right"], ⟨3, 6, b__law_rows_by⟩⟩,
  ⟨"_law_plus", 75, ["field", "left", "right"], ["field", "left", "right"], ⟨3, 3, b__law_plus⟩⟩,
  ⟨"_law_by", 77, ["field", "left", "right", "far"], ["field", "left", "right"], ⟨3, 4, b__law_by⟩⟩,
  ⟨"_law_trim", 84, ["row", "size", "turn"], ["row"], ⟨1, 3, b__law_trim⟩⟩,
  ⟨"_law_of", 70, ["deal", "some"], ["deal", "some"], ⟨2, 2, b__law_of⟩⟩,
  ⟨"_law_how_often", 102, ["deal", "prime"], ["deal", "prime"], ⟨2, 2, b__law_how_often⟩⟩,
  ⟨"_law_wide", 89, ["deal", "bound"], ["deal", "bound"], ⟨2, 2, b__law_wide⟩⟩,
  ⟨"_law_often", 78, ["field", "left", "many"], ["field", "left", "many"], ⟨3, 3, b__law_often⟩⟩,
  ⟨"_law_rows_plus", 85, ["field", "left", "right", "size", "spot"], ["field", "left", "right"], ⟨3, 5, b__law_rows_plus⟩⟩,
  ⟨"_law_rows_parts", 87, ["field", "left", "right", "back", "rest", "size", "quotient", "gap", "head", "to"], ["field", "left", "right"], ⟨3, 10, b__law_rows_parts⟩⟩,
  ⟨"_law_back", 81, ["field", "left"], ["field", "left"], ⟨2, 2, b__law_back⟩⟩,
  ⟨"_law_turned", 79, ["field", "left"], ["field", "left"], ⟨2, 2, b__law_turned⟩⟩,
  ⟨"_law_norm", 80, ["field", "left"], ["field", "left"], ⟨2, 2, b__law_norm⟩⟩,
  ⟨"_law_less", 76, ["field", "left", "right"], ["field", "left", "right"], ⟨3, 3, b__law_less⟩⟩,
  ⟨"_law_common", 93, ["field", "left", "right", "turn"], ["field", "left", "right"], ⟨3, 4, b__law_common⟩⟩,
  ⟨"_law_monic", 92, ["field", "row", "back", "entry"], ["field", "row"], ⟨2, 4, b__law_monic⟩⟩,
  ⟨"_law_slope", 95, ["field", "row", "spot"], ["field", "row"], ⟨2, 3, b__law_slope⟩⟩,
  ⟨"_law_worth", 88, ["field", "row", "left", "found", "entry"], ["field", "row", "left"], ⟨3, 5, b__law_worth⟩⟩,
  ⟨"_law_rest_power", 94, ["field", "row", "many", "low", "found", "square", "left", "turn"], ["field", "row", "many", "low"], ⟨4, 8, b__law_rest_power⟩⟩,
  ⟨"_law_turned_row", 99, ["field", "row", "entry"], ["field", "row"], ⟨2, 3, b__law_turned_row⟩⟩,
  ⟨"_law_whole_norm", 104, ["field", "row", "found", "spot", "to", "both", "entry"], ["field", "row"], ⟨2, 7, b__law_whole_norm⟩⟩,
  ⟨"_law_plain_case", 101, ["deal", "field", "prime", "left", "shared", "right", "spot", "many", "due", "entry"], ["deal", "field"], ⟨2, 10, b__law_plain_case⟩⟩,
  ⟨"_law_plain_due", 100, ["field", "left", "right", "spot", "many", "both", "sums", "high", "rest", "shared", "slope_v", "worth_v", "power", "found"], ["field", "left", "right", "spot", "many"], ⟨5, 14, b__law_plain_due⟩⟩,
  ⟨"_law_numbers", 96, ["row", "entry"], ["row"], ⟨1, 2, b__law_numbers⟩⟩,
  ⟨"_law_primes", 90, [], [], ⟨0, 0, b__law_primes⟩⟩,
  ⟨"_law_mixed", 71, ["deal", "some", "left", "found", "turn"], ["deal", "some"], ⟨2, 5, b__law_mixed⟩⟩,
  ⟨"_law_ask", 98, ["row", "word", "prime", "left", "right", "more", "handed", "told"], ["row"], ⟨1, 8, b__law_ask⟩⟩,
  ⟨"pair_poly", 49, ["p", "things"], ["p", "things"], ⟨2, 2, b_pair_poly⟩⟩,
  ⟨"row_trimmed", 37, ["things", "size"], ["things"], ⟨1, 2, b_row_trimmed⟩⟩,
  ⟨"pair_plus", 50, ["p", "one", "other"], ["p", "one", "other"], ⟨3, 3, b_pair_plus⟩⟩,
  ⟨"rows_added", 38, ["ground", "one", "other", "ahead", "first", "second"], ["ground", "one", "other"], ⟨3, 6, b_rows_added⟩⟩,
  ⟨"added_grounds", 26, ["ground", "one", "other", "p"], ["ground", "one", "other"], ⟨3, 4, b_added_grounds⟩⟩,
  ⟨"ground_of", 25, ["p", "c"], ["p"], ⟨1, 2, b_ground_of⟩⟩,
  ⟨"symbol", 4, ["p", "number", "worth"], ["p", "number"], ⟨2, 3, b_symbol⟩⟩,
  ⟨"remainder_power", 1, ["base", "times", "number", "found", "square", "left"], ["base", "times", "number"], ⟨3, 6, b_remainder_power⟩⟩,
  ⟨"pair_by", 51, ["p", "one", "other"], ["p", "one", "other"], ⟨3, 3, b_pair_by⟩⟩,
  ⟨"rows_multiplied", 40, ["ground", "one", "other", "p", "c", "size", "lows", "highs", "fars", "at", "low", "high", "gap", "left", "right"], ["ground", "one", "other"], ⟨3, 15, b_rows_multiplied⟩⟩,
  ⟨"pair_parts", 52, ["p", "one", "other"], ["p", "one", "other"], ⟨3, 3, b_pair_parts⟩⟩,
  ⟨"row_parts", 41, ["ground", "one", "other", "p", "c", "back", "last", "low", "high", "lows", "highs", "quotient", "gap", "head", "far", "at", "rest"], ["ground", "one", "other"], ⟨3, 17, b_row_parts⟩⟩,
  ⟨"inverted", 34, ["ground", "one"], ["ground", "one"], ⟨2, 2, b_inverted⟩⟩,
  ⟨"often_grounds", 28, ["ground", "one", "number", "p"], ["ground", "one", "number"], ⟨3, 4, b_often_grounds⟩⟩,
  ⟨"turned_thing", 32, ["ground", "one", "p", "c"], ["ground", "one"], ⟨2, 4, b_turned_thing⟩⟩,
  ⟨"inverse", 3, ["p", "number", "one", "other", "first", "second", "part"], ["p", "number"], ⟨2, 7, b_inverse⟩⟩,
  ⟨"norm_number", 33, ["ground", "one", "p", "c"], ["ground", "one"], ⟨2, 4, b_norm_number⟩⟩,
  ⟨"multiplied_grounds", 30, ["ground", "one", "other", "p", "c", "far"], ["ground", "one", "other"], ⟨3, 6, b_multiplied_grounds⟩⟩,
  ⟨"pair_common", 53, ["p", "one", "other"], ["p", "one", "other"], ⟨3, 3, b_pair_common⟩⟩,
  ⟨"rows_greatest", 44, ["ground", "one", "other"], ["ground", "one", "other"], ⟨3, 3, b_rows_greatest⟩⟩,
  ⟨"row_rest", 42, ["ground", "one", "other"], ["ground", "one", "other"], ⟨3, 3, b_row_rest⟩⟩,
  ⟨"row_monic", 43, ["ground", "row"], ["ground", "row"], ⟨2, 2, b_row_monic⟩⟩,
  ⟨"row_often", 39, ["ground", "row", "thing", "entry"], ["ground", "row", "thing"], ⟨3, 4, b_row_often⟩⟩,
  ⟨"pair_derived", 54, ["p", "poly"], ["p", "poly"], ⟨2, 2, b_pair_derived⟩⟩,
  ⟨"row_slope", 46, ["ground", "row", "at", "entry"], ["ground", "row"], ⟨2, 4, b_row_slope⟩⟩,
  ⟨"pair_at", 55, ["p", "poly", "thing"], ["p", "poly", "thing"], ⟨3, 3, b_pair_at⟩⟩,
  ⟨"row_worth", 45, ["ground", "row", "thing", "found", "entry"], ["ground", "row", "thing"], ⟨3, 5, b_row_worth⟩⟩,
  ⟨"pair_power_rest", 56, ["p", "poly", "times", "modulus"], ["p", "poly", "times", "modulus"], ⟨4, 4, b_pair_power_rest⟩⟩,
  ⟨"row_raised", 47, ["ground", "row", "times", "modulus", "found", "figure"], ["ground", "row", "times", "modulus"], ⟨4, 6, b_row_raised⟩⟩,
  ⟨"figures", 20, ["number", "found"], ["number"], ⟨1, 2, b_figures⟩⟩,
  ⟨"_law_plain", 97, ["prime", "left", "right", "spot", "many", "wide", "far", "found"], ["prime", "left", "right", "spot", "many"], ⟨5, 8, b__law_plain⟩⟩,
  ⟨"pair_of", 58, ["p", "poly", "number"], ["p", "poly"], ⟨2, 3, b_pair_of⟩⟩,
  ⟨"poly_plus", 60, ["p", "one", "other"], ["p", "one", "other"], ⟨3, 3, b_poly_plus⟩⟩,
  ⟨"added_polywork", 7, ["p", "one", "other", "ahead", "first", "second"], ["p", "one", "other"], ⟨3, 6, b_added_polywork⟩⟩,
  ⟨"trimmed", 6, ["p", "numbers", "row", "number"], ["p", "numbers"], ⟨2, 4, b_trimmed⟩⟩,
  ⟨"poly_by", 61, ["p", "one", "other"], ["p", "one", "other"], ⟨3, 3, b_poly_by⟩⟩,
  ⟨"multiplied_polywork", 11, ["p", "one", "other", "found", "at", "first", "gap", "second"], ["p", "one", "other"], ⟨3, 8, b_multiplied_polywork⟩⟩,
  ⟨"poly_parts", 62, ["p", "one", "other"], ["p", "one", "other"], ⟨3, 3, b_poly_parts⟩⟩,
  ⟨"parts", 14, ["p", "one", "other", "head", "last", "rest", "quotient", "gap", "number", "at", "entry"], ["p", "one", "other"], ⟨3, 11, b_parts⟩⟩,
  ⟨"head_inverse", 13, ["p", "row"], ["p", "row"], ⟨2, 2, b_head_inverse⟩⟩,
  ⟨"common", 63, ["p", "one", "other"], ["p", "one", "other"], ⟨3, 3, b_common⟩⟩,
  ⟨"greatest", 17, ["p", "one", "other"], ["p", "one", "other"], ⟨3, 3, b_greatest⟩⟩,
  ⟨"rest_of", 15, ["p", "one", "other"], ["p", "one", "other"], ⟨3, 3, b_rest_of⟩⟩,
  ⟨"made_monic", 16, ["p", "row"], ["p", "row"], ⟨2, 2, b_made_monic⟩⟩,
  ⟨"often_polywork", 9, ["p", "row", "number", "entry"], ["p", "row", "number"], ⟨3, 4, b_often_polywork⟩⟩,
  ⟨"poly_at", 65, ["p", "poly", "number"], ["p", "poly", "number"], ⟨3, 3, b_poly_at⟩⟩,
  ⟨"worth", 18, ["p", "row", "number", "found", "entry"], ["p", "row", "number"], ⟨3, 5, b_worth⟩⟩,
  ⟨"poly_derived", 64, ["p", "poly"], ["p", "poly"], ⟨2, 2, b_poly_derived⟩⟩,
  ⟨"slope", 19, ["p", "row", "at", "entry"], ["p", "row"], ⟨2, 4, b_slope⟩⟩,
  ⟨"power_rest", 66, ["p", "poly", "times", "modulus"], ["p", "poly", "times", "modulus"], ⟨4, 4, b_power_rest⟩⟩,
  ⟨"raised", 21, ["p", "row", "times", "modulus", "found", "figure"], ["p", "row", "times", "modulus"], ⟨4, 6, b_raised⟩⟩,
  ⟨"turned_poly", 57, ["p", "poly", "ground", "one"], ["p", "poly"], ⟨2, 4, b_turned_poly⟩⟩,
  ⟨"_law_all", 73, ["pairs", "told", "due"], ["pairs"], ⟨1, 3, b__law_all⟩⟩,
  ⟨"_law_same", 72, ["told", "due", "spot"], ["told", "due"], ⟨2, 3, b__law_same⟩⟩]
def ks : List (Str × D) := [("ONE_ROW", (.tup [(.tup [(.int 1), (.int 0)])])), ("ONE", (.tup [(.int 1), (.int 0)])), ("NOUGHT", (.tup [(.int 0), (.int 0)]))]
def T : Tab := ⟨PySem.Challenge.pw_onewebtwice_k01_whole_pair_polynomials_b.main.body, es, ks, [], ["int", "abs", "range", "tuple", "len", "list", "max", "zip", "enumerate", "min", "reversed", "isinstance", "str", "bool"], ["pair_power_rest"]⟩
-- the rest: []
abbrev co : Str → Option D := T.Co
abbrev pf : Str → Option Fn := T.Pf
theorem r_of {x : Str} {fn : Fn} {n : Nat} {ds : List D} {S : Sto} (h : pf x = some fn) : run co pf (n + 1) x ds S = runFn (run co pf n) co fn ds S := by
  show (match pf x with
    | some fn => runFn (run co pf n) co fn ds S
    | none => .bad) = _
  rw [h]
theorem r_law (n : Nat) (ds : List D) (S : Sto) : run co pf (n + 1) "law" ds S = runFn (run co pf n) co ⟨1, 7, b_law⟩ ds S := r_of (by kernel_rfl)
theorem r__law_deal (n : Nat) (ds : List D) (S : Sto) : run co pf (n + 1) "_law_deal" ds S = runFn (run co pf n) co ⟨2, 6, b__law_deal⟩ ds S := r_of (by kernel_rfl)
theorem r__law_case (n : Nat) (ds : List D) (S : Sto) : run co pf (n + 1) "_law_case" ds S = runFn (run co pf n) co ⟨2, 16, b__law_case⟩ ds S := r_of (by kernel_rfl)
theorem r__law_field (n : Nat) (ds : List D) (S : Sto) : run co pf (n + 1) "_law_field" ds S = runFn (run co pf n) co ⟨1, 5, b__law_field⟩ ds S := r_of (by kernel_rfl)
theorem r__law_row (n : Nat) (ds : List D) (S : Sto) : run co pf (n + 1) "_law_row" ds S = runFn (run co pf n) co ⟨3, 7, b__law_row⟩ ds S := r_of (by kernel_rfl)
theorem r__law_any (n : Nat) (ds : List D) (S : Sto) : run co pf (n + 1) "_law_any" ds S = runFn (run co pf n) co ⟨2, 3, b__law_any⟩ ds S := r_of (by kernel_rfl)
theorem r__law_thing (n : Nat) (ds : List D) (S : Sto) : run co pf (n + 1) "_law_thing" ds S = runFn (run co pf n) co ⟨2, 5, b__law_thing⟩ ds S := r_of (by kernel_rfl)
theorem r__law_unit (n : Nat) (ds : List D) (S : Sto) : run co pf (n + 1) "_law_unit" ds S = runFn (run co pf n) co ⟨2, 3, b__law_unit⟩ ds S := r_of (by kernel_rfl)
theorem r__law_rows_by (n : Nat) (ds : List D) (S : Sto) : run co pf (n + 1) "_law_rows_by" ds S = runFn (run co pf n) co ⟨3, 6, b__law_rows_by⟩ ds S := r_of (by kernel_rfl)
theorem r__law_plus (n : Nat) (ds : List D) (S : Sto) : run co pf (n + 1) "_law_plus" ds S = runFn (run co pf n) co ⟨3, 3, b__law_plus⟩ ds S := r_of (by kernel_rfl)
theorem r__law_by (n : Nat) (ds : List D) (S : Sto) : run co pf (n + 1) "_law_by" ds S = runFn (run co pf n) co ⟨3, 4, b__law_by⟩ ds S := r_of (by kernel_rfl)
theorem r__law_trim (n : Nat) (ds : List D) (S : Sto) : run co pf (n + 1) "_law_trim" ds S = runFn (run co pf n) co ⟨1, 3, b__law_trim⟩ ds S := r_of (by kernel_rfl)
theorem r__law_of (n : Nat) (ds : List D) (S : Sto) : run co pf (n + 1) "_law_of" ds S = runFn (run co pf n) co ⟨2, 2, b__law_of⟩ ds S := r_of (by kernel_rfl)
theorem r__law_how_often (n : Nat) (ds : List D) (S : Sto) : run co pf (n + 1) "_law_how_often" ds S = runFn (run co pf n) co ⟨2, 2, b__law_how_often⟩ ds S := r_of (by kernel_rfl)
theorem r__law_wide (n : Nat) (ds : List D) (S : Sto) : run co pf (n + 1) "_law_wide" ds S = runFn (run co pf n) co ⟨2, 2, b__law_wide⟩ ds S := r_of (by kernel_rfl)
theorem r__law_often (n : Nat) (ds : List D) (S : Sto) : run co pf (n + 1) "_law_often" ds S = runFn (run co pf n) co ⟨3, 3, b__law_often⟩ ds S := r_of (by kernel_rfl)
theorem r__law_rows_plus (n : Nat) (ds : List D) (S : Sto) : run co pf (n + 1) "_law_rows_plus" ds S = runFn (run co pf n) co ⟨3, 5, b__law_rows_plus⟩ ds S := r_of (by kernel_rfl)
theorem r__law_rows_parts (n : Nat) (ds : List D) (S : Sto) : run co pf (n + 1) "_law_rows_parts" ds S = runFn (run co pf n) co ⟨3, 10, b__law_rows_parts⟩ ds S := r_of (by kernel_rfl)
theorem r__law_back (n : Nat) (ds : List D) (S : Sto) : run co pf (n + 1) "_law_back" ds S = runFn (run co pf n) co ⟨2, 2, b__law_back⟩ ds S := r_of (by kernel_rfl)
theorem r__law_turned (n : Nat) (ds : List D) (S : Sto) : run co pf (n + 1) "_law_turned" ds S = runFn (run co pf n) co ⟨2, 2, b__law_turned⟩ ds S := r_of (by kernel_rfl)
theorem r__law_norm (n : Nat) (ds : List D) (S : Sto) : run co pf (n + 1) "_law_norm" ds S = runFn (run co pf n) co ⟨2, 2, b__law_norm⟩ ds S := r_of (by kernel_rfl)
theorem r__law_less (n : Nat) (ds : List D) (S : Sto) : run co pf (n + 1) "_law_less" ds S = runFn (run co pf n) co ⟨3, 3, b__law_less⟩ ds S := r_of (by kernel_rfl)
theorem r__law_common (n : Nat) (ds : List D) (S : Sto) : run co pf (n + 1) "_law_common" ds S = runFn (run co pf n) co ⟨3, 4, b__law_common⟩ ds S := r_of (by kernel_rfl)
theorem r__law_monic (n : Nat) (ds : List D) (S : Sto) : run co pf (n + 1) "_law_monic" ds S = runFn (run co pf n) co ⟨2, 4, b__law_monic⟩ ds S := r_of (by kernel_rfl)
theorem r__law_slope (n : Nat) (ds : List D) (S : Sto) : run co pf (n + 1) "_law_slope" ds S = runFn (run co pf n) co ⟨2, 3, b__law_slope⟩ ds S := r_of (by kernel_rfl)
theorem r__law_worth (n : Nat) (ds : List D) (S : Sto) : run co pf (n + 1) "_law_worth" ds S = runFn (run co pf n) co ⟨3, 5, b__law_worth⟩ ds S := r_of (by kernel_rfl)
theorem r__law_rest_power (n : Nat) (ds : List D) (S : Sto) : run co pf (n + 1) "_law_rest_power" ds S = runFn (run co pf n) co ⟨4, 8, b__law_rest_power⟩ ds S := r_of (by kernel_rfl)
theorem r__law_turned_row (n : Nat) (ds : List D) (S : Sto) : run co pf (n + 1) "_law_turned_row" ds S = runFn (run co pf n) co ⟨2, 3, b__law_turned_row⟩ ds S := r_of (by kernel_rfl)
theorem r__law_whole_norm (n : Nat) (ds : List D) (S : Sto) : run co pf (n + 1) "_law_whole_norm" ds S = runFn (run co pf n) co ⟨2, 7, b__law_whole_norm⟩ ds S := r_of (by kernel_rfl)
theorem r__law_plain_case (n : Nat) (ds : List D) (S : Sto) : run co pf (n + 1) "_law_plain_case" ds S = runFn (run co pf n) co ⟨2, 10, b__law_plain_case⟩ ds S := r_of (by kernel_rfl)
theorem r__law_plain_due (n : Nat) (ds : List D) (S : Sto) : run co pf (n + 1) "_law_plain_due" ds S = runFn (run co pf n) co ⟨5, 14, b__law_plain_due⟩ ds S := r_of (by kernel_rfl)
theorem r__law_numbers (n : Nat) (ds : List D) (S : Sto) : run co pf (n + 1) "_law_numbers" ds S = runFn (run co pf n) co ⟨1, 2, b__law_numbers⟩ ds S := r_of (by kernel_rfl)
theorem r__law_primes (n : Nat) (ds : List D) (S : Sto) : run co pf (n + 1) "_law_primes" ds S = runFn (run co pf n) co ⟨0, 0, b__law_primes⟩ ds S := r_of (by kernel_rfl)
theorem r__law_mixed (n : Nat) (ds : List D) (S : Sto) : run co pf (n + 1) "_law_mixed" ds S = runFn (run co pf n) co ⟨2, 5, b__law_mixed⟩ ds S := r_of (by kernel_rfl)
theorem r__law_ask (n : Nat) (ds : List D) (S : Sto) : run co pf (n + 1) "_law_ask" ds S = runFn (run co pf n) co ⟨1, 8, b__law_ask⟩ ds S := r_of (by kernel_rfl)
theorem r_pair_poly (n : Nat) (ds : List D) (S : Sto) : run co pf (n + 1) "pair_poly" ds S = runFn (run co pf n) co ⟨2, 2, b_pair_poly⟩ ds S := r_of (by kernel_rfl)
theorem r_row_trimmed (n : Nat) (ds : List D) (S : Sto) : run co pf (n + 1) "row_trimmed" ds S = runFn (run co pf n) co ⟨1, 2, b_row_trimmed⟩ ds S := r_of (by kernel_rfl)
theorem r_pair_plus (n : Nat) (ds : List D) (S : Sto) : run co pf (n + 1) "pair_plus" ds S = runFn (run co pf n) co ⟨3, 3, b_pair_plus⟩ ds S := r_of (by kernel_rfl)
theorem r_rows_added (n : Nat) (ds : List D) (S : Sto) : run co pf (n + 1) "rows_added" ds S = runFn (run co pf n) co ⟨3, 6, b_rows_added⟩ ds S := r_of (by kernel_rfl)
theorem r_added_grounds (n : Nat) (ds : List D) (S : Sto) : run co pf (n + 1) "added_grounds" ds S = runFn (run co pf n) co ⟨3, 4, b_added_grounds⟩ ds S := r_of (by kernel_rfl)
theorem r_ground_of (n : Nat) (ds : List D) (S : Sto) : run co pf (n + 1) "ground_of" ds S = runFn (run co pf n) co ⟨1, 2, b_ground_of⟩ ds S := r_of (by kernel_rfl)
theorem r_symbol (n : Nat) (ds : List D) (S : Sto) : run co pf (n + 1) "symbol" ds S = runFn (run co pf n) co ⟨2, 3, b_symbol⟩ ds S := r_of (by kernel_rfl)
theorem r_remainder_power (n : Nat) (ds : List D) (S : Sto) : run co pf (n + 1) "remainder_power" ds S = runFn (run co pf n) co ⟨3, 6, b_remainder_power⟩ ds S := r_of (by kernel_rfl)
theorem r_pair_by (n : Nat) (ds : List D) (S : Sto) : run co pf (n + 1) "pair_by" ds S = runFn (run co pf n) co ⟨3, 3, b_pair_by⟩ ds S := r_of (by kernel_rfl)
theorem r_rows_multiplied (n : Nat) (ds : List D) (S : Sto) : run co pf (n + 1) "rows_multiplied" ds S = runFn (run co pf n) co ⟨3, 15, b_rows_multiplied⟩ ds S := r_of (by kernel_rfl)
theorem r_pair_parts (n : Nat) (ds : List D) (S : Sto) : run co pf (n + 1) "pair_parts" ds S = runFn (run co pf n) co ⟨3, 3, b_pair_parts⟩ ds S := r_of (by kernel_rfl)
theorem r_row_parts (n : Nat) (ds : List D) (S : Sto) : run co pf (n + 1) "row_parts" ds S = runFn (run co pf n) co ⟨3, 17, b_row_parts⟩ ds S := r_of (by kernel_rfl)
theorem r_inverted (n : Nat) (ds : List D) (S : Sto) : run co pf (n + 1) "inverted" ds S = runFn (run co pf n) co ⟨2, 2, b_inverted⟩ ds S := r_of (by kernel_rfl)
theorem r_often_grounds (n : Nat) (ds : List D) (S : Sto) : run co pf (n + 1) "often_grounds" ds S = runFn (run co pf n) co ⟨3, 4, b_often_grounds⟩ ds S := r_of (by kernel_rfl)
theorem r_turned_thing (n : Nat) (ds : List D) (S : Sto) : run co pf (n + 1) "turned_thing" ds S = runFn (run co pf n) co ⟨2, 4, b_turned_thing⟩ ds S := r_of (by kernel_rfl)
theorem r_inverse (n : Nat) (ds : List D) (S : Sto) : run co pf (n + 1) "inverse" ds S = runFn (run co pf n) co ⟨2, 7, b_inverse⟩ ds S := r_of (by kernel_rfl)
theorem r_norm_number (n : Nat) (ds : List D) (S : Sto) : run co pf (n + 1) "norm_number" ds S = runFn (run co pf n) co ⟨2, 4, b_norm_number⟩ ds S := r_of (by kernel_rfl)
theorem r_multiplied_grounds (n : Nat) (ds : List D) (S : Sto) : run co pf (n + 1) "multiplied_grounds" ds S = runFn (run co pf n) co ⟨3, 6, b_multiplied_grounds⟩ ds S := r_of (by kernel_rfl)
theorem r_pair_common (n : Nat) (ds : List D) (S : Sto) : run co pf (n + 1) "pair_common" ds S = runFn (run co pf n) co ⟨3, 3, b_pair_common⟩ ds S := r_of (by kernel_rfl)
theorem r_rows_greatest (n : Nat) (ds : List D) (S : Sto) : run co pf (n + 1) "rows_greatest" ds S = runFn (run co pf n) co ⟨3, 3, b_rows_greatest⟩ ds S := r_of (by kernel_rfl)
theorem r_row_rest (n : Nat) (ds : List D) (S : Sto) : run co pf (n + 1) "row_rest" ds S = runFn (run co pf n) co ⟨3, 3, b_row_rest⟩ ds S := r_of (by kernel_rfl)
theorem r_row_monic (n : Nat) (ds : List D) (S : Sto) : run co pf (n + 1) "row_monic" ds S = runFn (run co pf n) co ⟨2, 2, b_row_monic⟩ ds S := r_of (by kernel_rfl)
theorem r_row_often (n : Nat) (ds : List D) (S : Sto) : run co pf (n + 1) "row_often" ds S = runFn (run co pf n) co ⟨3, 4, b_row_often⟩ ds S := r_of (by kernel_rfl)
theorem r_pair_derived (n : Nat) (ds : List D) (S : Sto) : run co pf (n + 1) "pair_derived" ds S = runFn (run co pf n) co ⟨2, 2, b_pair_derived⟩ ds S := r_of (by kernel_rfl)
theorem r_row_slope (n : Nat) (ds : List D) (S : Sto) : run co pf (n + 1) "row_slope" ds S = runFn (run co pf n) co ⟨2, 4, b_row_slope⟩ ds S := r_of (by kernel_rfl)
theorem r_pair_at (n : Nat) (ds : List D) (S : Sto) : run co pf (n + 1) "pair_at" ds S = runFn (run co pf n) co ⟨3, 3, b_pair_at⟩ ds S := r_of (by kernel_rfl)
theorem r_row_worth (n : Nat) (ds : List D) (S : Sto) : run co pf (n + 1) "row_worth" ds S = runFn (run co pf n) co ⟨3, 5, b_row_worth⟩ ds S := r_of (by kernel_rfl)
theorem r_pair_power_rest (n : Nat) (ds : List D) (S : Sto) : run co pf (n + 1) "pair_power_rest" ds S = runFn (run co pf n) co ⟨4, 4, b_pair_power_rest⟩ ds S := r_of (by kernel_rfl)
theorem r_row_raised (n : Nat) (ds : List D) (S : Sto) : run co pf (n + 1) "row_raised" ds S = runFn (run co pf n) co ⟨4, 6, b_row_raised⟩ ds S := r_of (by kernel_rfl)
theorem r_figures (n : Nat) (ds : List D) (S : Sto) : run co pf (n + 1) "figures" ds S = runFn (run co pf n) co ⟨1, 2, b_figures⟩ ds S := r_of (by kernel_rfl)
theorem r__law_plain (n : Nat) (ds : List D) (S : Sto) : run co pf (n + 1) "_law_plain" ds S = runFn (run co pf n) co ⟨5, 8, b__law_plain⟩ ds S := r_of (by kernel_rfl)
theorem r_pair_of (n : Nat) (ds : List D) (S : Sto) : run co pf (n + 1) "pair_of" ds S = runFn (run co pf n) co ⟨2, 3, b_pair_of⟩ ds S := r_of (by kernel_rfl)
theorem r_poly_plus (n : Nat) (ds : List D) (S : Sto) : run co pf (n + 1) "poly_plus" ds S = runFn (run co pf n) co ⟨3, 3, b_poly_plus⟩ ds S := r_of (by kernel_rfl)
theorem r_added_polywork (n : Nat) (ds : List D) (S : Sto) : run co pf (n + 1) "added_polywork" ds S = runFn (run co pf n) co ⟨3, 6, b_added_polywork⟩ ds S := r_of (by kernel_rfl)
theorem r_trimmed (n : Nat) (ds : List D) (S : Sto) : run co pf (n + 1) "trimmed" ds S = runFn (run co pf n) co ⟨2, 4, b_trimmed⟩ ds S := r_of (by kernel_rfl)
theorem r_poly_by (n : Nat) (ds : List D) (S : Sto) : run co pf (n + 1) "poly_by" ds S = runFn (run co pf n) co ⟨3, 3, b_poly_by⟩ ds S := r_of (by kernel_rfl)
theorem r_multiplied_polywork (n : Nat) (ds : List D) (S : Sto) : run co pf (n + 1) "multiplied_polywork" ds S = runFn (run co pf n) co ⟨3, 8, b_multiplied_polywork⟩ ds S := r_of (by kernel_rfl)
theorem r_poly_parts (n : Nat) (ds : List D) (S : Sto) : run co pf (n + 1) "poly_parts" ds S = runFn (run co pf n) co ⟨3, 3, b_poly_parts⟩ ds S := r_of (by kernel_rfl)
theorem r_parts (n : Nat) (ds : List D) (S : Sto) : run co pf (n + 1) "parts" ds S = runFn (run co pf n) co ⟨3, 11, b_parts⟩ ds S := r_of (by kernel_rfl)
theorem r_head_inverse (n : Nat) (ds : List D) (S : Sto) : run co pf (n + 1) "head_inverse" ds S = runFn (run co pf n) co ⟨2, 2, b_head_inverse⟩ ds S := r_of (by kernel_rfl)
theorem r_common (n : Nat) (ds : List D) (S : Sto) : run co pf (n + 1) "common" ds S = runFn (run co pf n) co ⟨3, 3, b_common⟩ ds S := r_of (by kernel_rfl)
theorem r_greatest (n : Nat) (ds : List D) (S : Sto) : run co pf (n + 1) "greatest" ds S = runFn (run co pf n) co ⟨3, 3, b_greatest⟩ ds S := r_of (by kernel_rfl)
theorem r_rest_of (n : Nat) (ds : List D) (S : Sto) : run co pf (n + 1) "rest_of" ds S = runFn (run co pf n) co ⟨3, 3, b_rest_of⟩ ds S := r_of (by kernel_rfl)
theorem r_made_monic (n : Nat) (ds : List D) (S : Sto) : run co pf (n + 1) "made_monic" ds S = runFn (run co pf n) co ⟨2, 2, b_made_monic⟩ ds S := r_of (by kernel_rfl)
theorem r_often_polywork (n : Nat) (ds : List D) (S : Sto) : run co pf (n + 1) "often_polywork" ds S = runFn (run co pf n) co ⟨3, 4, b_often_polywork⟩ ds S := r_of (by kernel_rfl)
theorem r_poly_at (n : Nat) (ds : List D) (S : Sto) : run co pf (n + 1) "poly_at" ds S = runFn (run co pf n) co ⟨3, 3, b_poly_at⟩ ds S := r_of (by kernel_rfl)
theorem r_worth (n : Nat) (ds : List D) (S : Sto) : run co pf (n + 1) "worth" ds S = runFn (run co pf n) co ⟨3, 5, b_worth⟩ ds S := r_of (by kernel_rfl)
theorem r_poly_derived (n : Nat) (ds : List D) (S : Sto) : run co pf (n + 1) "poly_derived" ds S = runFn (run co pf n) co ⟨2, 2, b_poly_derived⟩ ds S := r_of (by kernel_rfl)
theorem r_slope (n : Nat) (ds : List D) (S : Sto) : run co pf (n + 1) "slope" ds S = runFn (run co pf n) co ⟨2, 4, b_slope⟩ ds S := r_of (by kernel_rfl)
theorem r_power_rest (n : Nat) (ds : List D) (S : Sto) : run co pf (n + 1) "power_rest" ds S = runFn (run co pf n) co ⟨4, 4, b_power_rest⟩ ds S := r_of (by kernel_rfl)
theorem r_raised (n : Nat) (ds : List D) (S : Sto) : run co pf (n + 1) "raised" ds S = runFn (run co pf n) co ⟨4, 6, b_raised⟩ ds S := r_of (by kernel_rfl)
theorem r_turned_poly (n : Nat) (ds : List D) (S : Sto) : run co pf (n + 1) "turned_poly" ds S = runFn (run co pf n) co ⟨2, 4, b_turned_poly⟩ ds S := r_of (by kernel_rfl)
theorem r__law_all (n : Nat) (ds : List D) (S : Sto) : run co pf (n + 1) "_law_all" ds S = runFn (run co pf n) co ⟨1, 3, b__law_all⟩ ds S := r_of (by kernel_rfl)
theorem r__law_same (n : Nat) (ds : List D) (S : Sto) : run co pf (n + 1) "_law_same" ds S = runFn (run co pf n) co ⟨2, 3, b__law_same⟩ ds S := r_of (by kernel_rfl)
theorem bnd : ∀ e ∈ es, BindAll T e := b_cons (fun _ _ _ _ _ _ _ _ us hl => match us, hl with | [_], _ => rfl) (b_cons (fun _ _ _ _ _ _ _ _ us hl => match us, hl with | [_, _], _ => rfl) (b_cons (fun _ _ _ _ _ _ _ _ us hl => match us, hl with | [_, _], _ => rfl) (b_cons (fun _ _ _ _ _ _ _ _ us hl => match us, hl with | [_], _ => rfl) (b_cons (fun _ _ _ _ _ _ _ _ us hl => match us, hl with | [_, _, _], _ => rfl) (b_cons (fun _ _ _ _ _ _ _ _ us hl => match us, hl with | [_, _], _ => rfl) (b_cons (fun _ _ _ _ _ _ _ _ us hl => match us, hl with | [_, _], _ => rfl) (b_cons (fun _ _ _ _ _ _ _ _ us hl => match us, hl with | [_, _], _ => rfl) (b_cons (fun _ _ _ _ _ _ _ _ us hl => match us, hl with | [_, _, _], _ => rfl) (b_cons (fun _ _ _ _ _ _ _ _ us hl => match us, hl with | [_, _, _], _ => rfl) (b_cons (fun _ _ _ _ _ _ _ _ us hl => match us, hl with | [_, _, _], _ => rfl) (b_cons (fun _ _ _ _ _ _ _ _ us hl => match us, hl with | [_], _ => rfl) (b_cons (fun _ _ _ _ _ _ _ _ us hl => match us, hl with | [_, _], _ => rfl) (b_cons (fun _ _ _ _ _ _ _ _ us hl => match us, hl with | [_, _], _ => rfl) (b_cons (fun _ _ _ _ _ _ _ _ us hl => match us, hl with | [_, _], _ => rfl) (b_cons (fun _ _ _ _ _ _ _ _ us hl => match us, hl with | [_, _, _], _ => rfl) (b_cons (fun _ _ _ _ _ _ _ _ us hl => match us, hl with | [_, _, _], _ => rfl) (b_cons (fun _ _ _ _ _ _ _ _ us hl => match us, hl with | [_, _, _], _ => rfl) (b_cons (fun _ _ _ _ _ _ _ _ us hl => match us, hl with | [_, _], _ => rfl) (b_cons (fun _ _ _ _ _ _ _ _ us hl => match us, hl with | [_, _], _ => rfl) (b_cons (fun _ _ _ _ _ _ _ _ us hl => match us, hl with | [_, _], _ => rfl) (b_cons (fun _ _ _ _ _ _ _ _ us hl => match us, hl with | [_, _, _], _ => rfl) (b_cons (fun _ _ _ _ _ _ _ _ us hl => match us, hl with | [_, _, _], _ => rfl) (b_cons (fun _ _ _ _ _ _ _ _ us hl => match us, hl with | [_, _], _ => rfl) (b_cons (fun _ _ _ _ _ _ _ _ us hl => match us, hl with | [_, _], _ => rfl) (b_cons (fun _ _ _ _ _ _ _ _ us hl => match us, hl with | [_, _, _], _ => rfl) (b_cons (fun _ _ _ _ _ _ _ _ us hl => match us, hl with | [_, _, _, _], _ => rfl) (b_cons (fun _ _ _ _ _ _ _ _ us hl => match us, hl with | [_, _], _ => rfl) (b_cons (fun _ _ _ _ _ _ _ _ us hl => match us, hl with | [_, _], _ => rfl) (b_cons (fun _ _ _ _ _ _ _ _ us hl => match us, hl with | [_, _], _ => rfl) (b_cons (fun _ _ _ _ _ _ _ _ us hl => match us, hl with | [_, _, _, _, _], _ => rfl) (b_cons (fun _ _ _ _ _ _ _ _ us hl => match us, hl with | [_], _ => rfl) (b_cons (fun _ _ _ _ _ _ _ _ us hl => match us, hl with | [], _ => rfl) (b_cons (fun _ _ _ _ _ _ _ _ us hl => match us, hl with | [_, _], _ => rfl) (b_cons (fun _ _ _ _ _ _ _ _ us hl => match us, hl with | [_], _ => rfl) (b_cons (fun _ _ _ _ _ _ _ _ us hl => match us, hl with | [_, _], _ => rfl) (b_cons (fun _ _ _ _ _ _ _ _ us hl => match us, hl with | [_], _ => rfl) (b_cons (fun _ _ _ _ _ _ _ _ us hl => match us, hl with | [_, _, _], _ => rfl) (b_cons (fun _ _ _ _ _ _ _ _ us hl => match us, hl with | [_, _, _], _ => rfl) (b_cons (fun _ _ _ _ _ _ _ _ us hl => match us, hl with | [_, _, _], _ => rfl) (b_cons (fun _ _ _ _ _ _ _ _ us hl => match us, hl with | [_], _ => rfl) (b_cons (fun _ _ _ _ _ _ _ _ us hl => match us, hl with | [_, _], _ => rfl) (b_cons (fun _ _ _ _ _ _ _ _ us hl => match us, hl with | [_, _, _], _ => rfl) (b_cons (fun _ _ _ _ _ _ _ _ us hl => match us, hl with | [_, _, _], _ => rfl) (b_cons (fun _ _ _ _ _ _ _ _ us hl => match us, hl with | [_, _, _], _ => rfl) (b_cons (fun _ _ _ _ _ _ _ _ us hl => match us, hl with | [_, _, _], _ => rfl) (b_cons (fun _ _ _ _ _ _ _ _ us hl => match us, hl with | [_, _, _], _ => rfl) (b_cons (fun _ _ _ _ _ _ _ _ us hl => match us, hl with | [_, _], _ => rfl) (b_cons (fun _ _ _ _ _ _ _ _ us hl => match us, hl with | [_, _, _], _ => rfl) (b_cons (fun _ _ _ _ _ _ _ _ us hl => match us, hl with | [_, _], _ => rfl) (b_cons (fun _ _ _ _ _ _ _ _ us hl => match us, hl with | [_, _], _ => rfl) (b_cons (fun _ _ _ _ _ _ _ _ us hl => match us, hl with | [_, _], _ => rfl) (b_cons (fun _ _ _ _ _ _ _ _ us hl => match us, hl with | [_, _, _], _ => rfl) (b_cons (fun _ _ _ _ _ _ _ _ us hl => match us, hl with | [_, _, _], _ => rfl) (b_cons (fun _ _ _ _ _ _ _ _ us hl => match us, hl with | [_, _, _], _ => rfl) (b_cons (fun _ _ _ _ _ _ _ _ us hl => match us, hl with | [_, _, _], _ => rfl) (b_cons (fun _ _ _ _ _ _ _ _ us hl => match us, hl with | [_, _], _ => rfl) (b_cons (fun _ _ _ _ _ _ _ _ us hl => match us, hl with | [_, _, _], _ => rfl) (b_cons (fun _ _ _ _ _ _ _ _ us hl => match us, hl with | [_, _], _ => rfl) (b_cons (fun _ _ _ _ _ _ _ _ us hl => match us, hl with | [_, _], _ => rfl) (b_cons (fun _ _ _ _ _ _ _ _ us hl => match us, hl with | [_, _, _], _ => rfl) (b_cons (fun _ _ _ _ _ _ _ _ us hl => match us, hl with | [_, _, _], _ => rfl) (b_cons (fun _ _ _ _ _ _ _ _ us hl => match us, hl with | [_, _, _, _], _ => rfl) (b_cons (fun _ _ _ _ _ _ _ _ us hl => match us, hl with | [_, _, _, _], _ => rfl) (b_cons (fun _ _ _ _ _ _ _ _ us hl => match us, hl with | [_], _ => rfl) (b_cons (fun _ _ _ _ _ _ _ _ us hl => match us, hl with | [_, _, _, _, _], _ => rfl) (b_cons (fun _ _ _ _ _ _ _ _ us hl => match us, hl with | [_, _], _ => rfl) (b_cons (fun _ _ _ _ _ _ _ _ us hl => match us, hl with | [_, _, _], _ => rfl) (b_cons (fun _ _ _ _ _ _ _ _ us hl => match us, hl with | [_, _, _], _ => rfl) (b_cons (fun _ _ _ _ _ _ _ _ us hl => match us, hl with | [_, _], _ => rfl) (b_cons (fun _ _ _ _ _ _ _ _ us hl => match us, hl with | [_, _, _], _ => rfl) (b_cons (fun _ _ _ _ _ _ _ _ us hl => match us, hl with | [_, _, _], _ => rfl) (b_cons (fun _ _ _ _ _ _ _ _ us hl => match us, hl with | [_, _, _], _ => rfl) (b_cons (fun _ _ _ _ _ _ _ _ us hl => match us, hl with | [_, _, _], _ => rfl) (b_cons (fun _ _ _ _ _ _ _ _ us hl => match us, hl with | [_, _], _ => rfl) (b_cons (fun _ _ _ _ _ _ _ _ us hl => match us, hl with | [_, _, _], _ => rfl) (b_cons (fun _ _ _ _ _ _ _ _ us hl => match us, hl with | [_, _, _], _ => rfl) (b_cons (fun _ _ _ _ _ _ _ _ us hl => match us, hl with | [_, _, _], _ => rfl) (b_cons (fun _ _ _ _ _ _ _ _ us hl => match us, hl with | [_, _], _ => rfl) (b_cons (fun _ _ _ _ _ _ _ _ us hl => match us, hl with | [_, _, _], _ => rfl) (b_cons (fun _ _ _ _ _ _ _ _ us hl => match us, hl with | [_, _, _], _ => rfl) (b_cons (fun _ _ _ _ _ _ _ _ us hl => match us, hl with | [_, _, _], _ => rfl) (b_cons (fun _ _ _ _ _ _ _ _ us hl => match us, hl with | [_, _], _ => rfl) (b_cons (fun _ _ _ _ _ _ _ _ us hl => match us, hl with | [_, _], _ => rfl) (b_cons (fun _ _ _ _ _ _ _ _ us hl => match us, hl with | [_, _, _, _], _ => rfl) (b_cons (fun _ _ _ _ _ _ _ _ us hl => match us, hl with | [_, _, _, _], _ => rfl) (b_cons (fun _ _ _ _ _ _ _ _ us hl => match us, hl with | [_, _], _ => rfl) (b_cons (fun _ _ _ _ _ _ _ _ us hl => match us, hl with | [_], _ => rfl) (b_cons (fun _ _ _ _ _ _ _ _ us hl => match us, hl with | [_, _], _ => rfl) (b_nil)))))))))))))))))))))))))))))))))))))))))))))))))))))))))))))))))))))))))))))))))))))))))


end Z.K01
end
section
set_option Elab.async false
set_option linter.all false
set_option autoImplicit false
set_option maxRecDepth 100000
set_option maxHeartbeats 0
namespace Z.K01
open PySem PySem.Spec PyProof.Rows L2 Z
def eKw : Ent := ⟨"pair_power_rest", 56, ["p", "poly", "times", "modulus"], ["p", "poly", "times", "modulus"], ⟨4, 4, b_pair_power_rest⟩⟩
theorem kw_one : (T.es.filter fun e => T.kws.contains e.x) = [eKw] := by kernel_rfl
theorem kwb : ∀ e ∈ T.es, T.kws.contains e.x = true → ∀ (x q : Str) (kV doc pm : Value) (an : Option Addr) (cdv ct : Value) (us : List Value), us.length = e.ps.length → bindArgs (PySem.W.fnOf x q (defArgs (T.st e)) (defBody (T.st e)) (defScope (T.st e)) .none kV doc pm an cdv ct) ⟨[], e.ps.zip us⟩ = pure (e.ps.zip us) := by
  intro e he hk
  have hm : e ∈ T.es.filter fun e => T.kws.contains e.x := List.mem_filter.mpr ⟨he, hk⟩
  rw [kw_one, List.mem_singleton] at hm
  subst hm
  exact fun _ _ _ _ _ _ _ _ us hl => match us, hl with | [_, _, _, _], _ => rfl
end Z.K01
end
section
set_option Elab.async false
set_option linter.all false
set_option autoImplicit false
set_option maxRecDepth 100000
set_option maxHeartbeats 0
namespace Z.K01
open PySem PySem.Spec PyProof.Rows L2 Z
theorem tok : T.Ok where
  ent := by kernel_rfl
  txt := by kernel_rfl
  bind := bnd
  kwb := kwb
abbrev Rw : PySem.W.OpenRow := PySem.W.OpenLaw.row PySem.Challenge.rw_onewebtwice_k01_whole_pair_polynomials_b
def ob (s : PySem.W.SharedT) : Bool × List He.FnW := T.obsG 2 (HandSHeadRun.getT s)
theorem ob_eq (s : PySem.W.SharedT) : ob s = (T.hook 2).obs s.abs := T.obsG_eq (HandSHeadRun.getT_eq s)
def names : List Str := (PySem.Challenge.pw_onewebtwice_k01_whole_pair_polynomials_b.main.scope.names.map (·.1)).filter fun x => x != ("law" : Str) && x != ("__name__" : Str)
open PySem.W HandSHeadRun in
abbrev qv : Program := view Rw.prog [105]
open PySem.W HandSHeadRun in
noncomputable def fin (w : World) (os : OsState) := endF (stepQ (denQ tabQ) Rw.prog w) 4000 Rw.prog w os
open PySem.W HandSHeadRun in
theorem fin1 (w : World) (os : OsState) : (fin w os).map (fun s => looksF Rw.prog (boot_heap w.params) s.abs) = some true := by kernel_rfl
open PySem.W HandSHeadRun in
theorem fin2 (w : World) (os : OsState) : (fin w os).map (fun s => seenQ qv names (importedModules Rw.prog.main.body) (fun s => xlAt qv [] s && recOk Rw.toRowW.records s) s.abs) = some (openGood qv names) := by kernel_rfl
open PySem.W HandSHeadRun in
theorem fin3 (w : World) (os : OsState) : (fin w os).map (fun s => ob s) = some ((T.hook 2).val w) := by kernel_rfl
theorem map3 {α β γ δ : Type} {o : Option α} {f : α → β} {g : α → γ} {h : α → δ} {a : β} {b : γ} {c : δ} (h1 : o.map f = some a) (h2 : o.map g = some b) (h3 : o.map h = some c) : o.map (fun s => (f s, g s, h s)) = some (a, b, c) := by
  cases o with
  | none => cases h1
  | some s =>
    simp only [Option.map_some, Option.some.injEq] at h1 h2 h3 ⊢
    rw [h1, h2, h3]
theorem headRun (w : World) : HandSHeadRun.RunEq Rw qv (T.hook 2) ob 4000 names w := by
  intro os
  have h := map3 (fin1 w os) (fin2 w os) (fin3 w os)
  unfold fin at h
  exact h
end Z.K01
end
section
set_option Elab.async false
set_option linter.all false
set_option autoImplicit false
/-! Y0: ints in a tuple. -/
namespace Z
def dI (r : List Int) : D := .tup (r.map .int)
end Z
end
section
set_option Elab.async false
set_option linter.all false
set_option autoImplicit false
set_option maxRecDepth 100000
set_option maxHeartbeats 4000000
namespace Z.K01
open PySem Z
def dG (p c : Int) : D := .tup [.int p, .int c]
def dF (p c : Int) (iv : List Int) : D := .tup [.int p, .int c, dI iv]
def primes : List Int := [5, 7, 11, 13, 17, 19, 23, 29, 31, 37, 41, 43, 47, 53, 59, 61, 67, 71, 73, 79, 83, 89, 97]
def powm (p : Int) : Nat → Int → Int → Int
  | 0, _, _ => 1
  | k + 1, b, a => (powm p k b a * b) % p
def ivOf (p : Int) (n : Int) : Int := powm p (p.toNat - 2) n 1
def ivs (p : Int) : List Int := (List.range p.toNat).map fun n : Nat => ivOf p (n : Int)
def cOf (p : Int) : Int := (((List.range p.toNat).find? fun c : Nat => !((List.range p.toNat).any fun e : Nat => ((e : Int) * (e : Int)) % p == ((c : Int) * (c : Int) - 4) % p)).map fun c : Nat => (c : Int)).getD 0
def valR {α : Type} (r : R α) : Option α := match r with
  | .ok a _ => some a
  | _ => none
theorem valR_ex {α : Type} {r : R α} {a : α} (h : valR r = some a) : ∃ S, r = .ok a S := by
  cases r with
  | ok b S => cases h; exact ⟨S, rfl⟩
  | exc _ _ _ => cases h
  | bad => cases h
def pr0 : List Int := [5, 7, 11, 13, 17, 19, 23, 29, 31]
def pr1 : List Int := [37, 41, 43, 47]
def pr2 : List Int := [53, 59, 61]
def pr3 : List Int := [67, 71, 73]
def pr4 : List Int := [79, 83]
def pr5 : List Int := [89, 97]
theorem pr_eq : primes = pr0 ++ (pr1 ++ (pr2 ++ (pr3 ++ (pr4 ++ pr5)))) := rfl
theorem ground0 (m : Nat) : pr0.map (fun p => valR (run co pf (m + 3) "ground_of" [.int p] [])) = pr0.map fun p => some (dG p (cOf p)) := by kernel_rfl
theorem ground1 (m : Nat) : pr1.map (fun p => valR (run co pf (m + 3) "ground_of" [.int p] [])) = pr1.map fun p => some (dG p (cOf p)) := by kernel_rfl
theorem ground2 (m : Nat) : pr2.map (fun p => valR (run co pf (m + 3) "ground_of" [.int p] [])) = pr2.map fun p => some (dG p (cOf p)) := by kernel_rfl
theorem ground3 (m : Nat) : pr3.map (fun p => valR (run co pf (m + 3) "ground_of" [.int p] [])) = pr3.map fun p => some (dG p (cOf p)) := by kernel_rfl
theorem ground4 (m : Nat) : pr4.map (fun p => valR (run co pf (m + 3) "ground_of" [.int p] [])) = pr4.map fun p => some (dG p (cOf p)) := by kernel_rfl
theorem ground5 (m : Nat) : pr5.map (fun p => valR (run co pf (m + 3) "ground_of" [.int p] [])) = pr5.map fun p => some (dG p (cOf p)) := by kernel_rfl
theorem ground_all (m : Nat) : primes.map (fun p => valR (run co pf (m + 3) "ground_of" [.int p] [])) = primes.map fun p => some (dG p (cOf p)) := by
  rw [pr_eq]
  simp only [List.map_append, ground0 m, ground1 m, ground2 m, ground3 m, ground4 m, ground5 m]
theorem field0 (m : Nat) : pr0.map (fun p => valR (run co pf (m + 1) "_law_field" [.int p] [])) = pr0.map fun p => some (dF p (cOf p) (ivs p)) := by kernel_rfl
theorem field1 (m : Nat) : pr1.map (fun p => valR (run co pf (m + 1) "_law_field" [.int p] [])) = pr1.map fun p => some (dF p (cOf p) (ivs p)) := by kernel_rfl
theorem field2 (m : Nat) : pr2.map (fun p => valR (run co pf (m + 1) "_law_field" [.int p] [])) = pr2.map fun p => some (dF p (cOf p) (ivs p)) := by kernel_rfl
theorem field3 (m : Nat) : pr3.map (fun p => valR (run co pf (m + 1) "_law_field" [.int p] [])) = pr3.map fun p => some (dF p (cOf p) (ivs p)) := by kernel_rfl
theorem field4 (m : Nat) : pr4.map (fun p => valR (run co pf (m + 1) "_law_field" [.int p] [])) = pr4.map fun p => some (dF p (cOf p) (ivs p)) := by kernel_rfl
theorem field5 (m : Nat) : pr5.map (fun p => valR (run co pf (m + 1) "_law_field" [.int p] [])) = pr5.map fun p => some (dF p (cOf p) (ivs p)) := by kernel_rfl
theorem field_all (m : Nat) : primes.map (fun p => valR (run co pf (m + 1) "_law_field" [.int p] [])) = primes.map fun p => some (dF p (cOf p) (ivs p)) := by
  rw [pr_eq]
  simp only [List.map_append, field0 m, field1 m, field2 m, field3 m, field4 m, field5 m]
end Z.K01
end
section
set_option Elab.async false
set_option linter.all false
set_option autoImplicit false
set_option maxRecDepth 100000
set_option maxHeartbeats 4000000
namespace Z.K01
open PySem Z
theorem inv0 (m : Nat) : pr0.map (fun p => (List.range p.toNat).map fun n : Nat => valR (run co pf (m + 1) "inverse" [.int p, .int n] [])) = pr0.map fun p => (ivs p).map fun k => some (.int k) := by kernel_rfl
theorem inv1 (m : Nat) : pr1.map (fun p => (List.range p.toNat).map fun n : Nat => valR (run co pf (m + 1) "inverse" [.int p, .int n] [])) = pr1.map fun p => (ivs p).map fun k => some (.int k) := by kernel_rfl
theorem inv2 (m : Nat) : pr2.map (fun p => (List.range p.toNat).map fun n : Nat => valR (run co pf (m + 1) "inverse" [.int p, .int n] [])) = pr2.map fun p => (ivs p).map fun k => some (.int k) := by kernel_rfl
theorem inv3 (m : Nat) : pr3.map (fun p => (List.range p.toNat).map fun n : Nat => valR (run co pf (m + 1) "inverse" [.int p, .int n] [])) = pr3.map fun p => (ivs p).map fun k => some (.int k) := by kernel_rfl
theorem inv4 (m : Nat) : pr4.map (fun p => (List.range p.toNat).map fun n : Nat => valR (run co pf (m + 1) "inverse" [.int p, .int n] [])) = pr4.map fun p => (ivs p).map fun k => some (.int k) := by kernel_rfl
theorem inv5 (m : Nat) : pr5.map (fun p => (List.range p.toNat).map fun n : Nat => valR (run co pf (m + 1) "inverse" [.int p, .int n] [])) = pr5.map fun p => (ivs p).map fun k => some (.int k) := by kernel_rfl
theorem inv_all (m : Nat) : primes.map (fun p => (List.range p.toNat).map fun n : Nat => valR (run co pf (m + 1) "inverse" [.int p, .int n] [])) = primes.map fun p => (ivs p).map fun k => some (.int k) := by
  rw [pr_eq]
  simp only [List.map_append, inv0 m, inv1 m, inv2 m, inv3 m, inv4 m, inv5 m]
theorem unit0 : (pr0.all fun p => (List.range p.toNat).all fun n : Nat => n == 0 || ((n : Int) * ivOf p n) % p == 1) = true := by kernel_rfl
theorem unit1 : (pr1.all fun p => (List.range p.toNat).all fun n : Nat => n == 0 || ((n : Int) * ivOf p n) % p == 1) = true := by kernel_rfl
theorem unit2 : (pr2.all fun p => (List.range p.toNat).all fun n : Nat => n == 0 || ((n : Int) * ivOf p n) % p == 1) = true := by kernel_rfl
theorem unit3 : (pr3.all fun p => (List.range p.toNat).all fun n : Nat => n == 0 || ((n : Int) * ivOf p n) % p == 1) = true := by kernel_rfl
theorem unit4 : (pr4.all fun p => (List.range p.toNat).all fun n : Nat => n == 0 || ((n : Int) * ivOf p n) % p == 1) = true := by kernel_rfl
theorem unit5 : (pr5.all fun p => (List.range p.toNat).all fun n : Nat => n == 0 || ((n : Int) * ivOf p n) % p == 1) = true := by kernel_rfl
theorem unit_all : (primes.all fun p => (List.range p.toNat).all fun n : Nat => n == 0 || ((n : Int) * ivOf p n) % p == 1) = true := by
  rw [pr_eq]
  simp only [List.all_append, unit0, unit1, unit2, unit3, unit4, unit5, Bool.and_self]
theorem norm0 : (pr0.all fun p => (List.range p.toNat).all fun a : Nat => (List.range p.toNat).all fun b : Nat => (a == 0 && b == 0) || ((a : Int) * a - cOf p * (a * b) + b * b) % p != 0) = true := by kernel_rfl
theorem norm1 : (pr1.all fun p => (List.range p.toNat).all fun a : Nat => (List.range p.toNat).all fun b : Nat => (a == 0 && b == 0) || ((a : Int) * a - cOf p * (a * b) + b * b) % p != 0) = true := by kernel_rfl
theorem norm2 : (pr2.all fun p => (List.range p.toNat).all fun a : Nat => (List.range p.toNat).all fun b : Nat => (a == 0 && b == 0) || ((a : Int) * a - cOf p * (a * b) + b * b) % p != 0) = true := by kernel_rfl
theorem norm3 : (pr3.all fun p => (List.range p.toNat).all fun a : Nat => (List.range p.toNat).all fun b : Nat => (a == 0 && b == 0) || ((a : Int) * a - cOf p * (a * b) + b * b) % p != 0) = true := by kernel_rfl
theorem norm4 : (pr4.all fun p => (List.range p.toNat).all fun a : Nat => (List.range p.toNat).all fun b : Nat => (a == 0 && b == 0) || ((a : Int) * a - cOf p * (a * b) + b * b) % p != 0) = true := by kernel_rfl
theorem norm5 : (pr5.all fun p => (List.range p.toNat).all fun a : Nat => (List.range p.toNat).all fun b : Nat => (a == 0 && b == 0) || ((a : Int) * a - cOf p * (a * b) + b * b) % p != 0) = true := by kernel_rfl
theorem norm_all : (primes.all fun p => (List.range p.toNat).all fun a : Nat => (List.range p.toNat).all fun b : Nat => (a == 0 && b == 0) || ((a : Int) * a - cOf p * (a * b) + b * b) % p != 0) = true := by
  rw [pr_eq]
  simp only [List.all_append, norm0, norm1, norm2, norm3, norm4, norm5, Bool.and_self]
end Z.K01
end
section
set_option Elab.async false
set_option linter.all false
set_option autoImplicit false
/-! M1: pairs of ints modulo a prime, rows of them (plain mathematics, no program in sight). -/
namespace M
abbrev El := Int × Int
def ad (x y : El) : El := (x.1 + y.1, x.2 + y.2)
def sb (x y : El) : El := (x.1 - y.1, x.2 - y.2)
def ml (c : Int) (x y : El) : El := (x.1 * y.1 - x.2 * y.2, x.1 * y.2 + x.2 * y.1 - c * (x.2 * y.2))
def cj (c : Int) (x : El) : El := (x.1 - c * x.2, -x.2)
def rd (p : Int) (x : El) : El := (x.1 % p, x.2 % p)
abbrev zr : El := (0, 0)
/-- the same modulo p -/
def Q (p : Int) (x y : El) : Prop := ∃ k l : Int, x.1 = y.1 + p * k ∧ x.2 = y.2 + p * l
section
variable {p c : Int} {x y z x' y' : El}
theorem Q.refl : Q p x x := ⟨0, 0, by simp, by simp⟩
theorem Q.of_eq (h : x = y) : Q p x y := h ▸ Q.refl
theorem Q.symm (h : Q p x y) : Q p y x := by
  obtain ⟨k, l, h1, h2⟩ := h
  exact ⟨-k, -l, by grind, by grind⟩
theorem Q.trans (h : Q p x y) (g : Q p y z) : Q p x z := by
  obtain ⟨k, l, h1, h2⟩ := h
  obtain ⟨k', l', h3, h4⟩ := g
  exact ⟨k + k', l + l', by grind, by grind⟩
theorem Q.ad (h : Q p x x') (g : Q p y y') : Q p (ad x y) (ad x' y') := by
  obtain ⟨k, l, h1, h2⟩ := h
  obtain ⟨k', l', h3, h4⟩ := g
  exact ⟨k + k', l + l', by simp only [M.ad]; grind, by simp only [M.ad]; grind⟩
theorem Q.sb (h : Q p x x') (g : Q p y y') : Q p (sb x y) (sb x' y') := by
  obtain ⟨k, l, h1, h2⟩ := h
  obtain ⟨k', l', h3, h4⟩ := g
  exact ⟨k - k', l - l', by simp only [M.sb]; grind, by simp only [M.sb]; grind⟩
theorem Q.ml (h : Q p x x') (g : Q p y y') : Q p (ml c x y) (ml c x' y') := by
  obtain ⟨k, l, h1, h2⟩ := h
  obtain ⟨k', l', h3, h4⟩ := g
  refine ⟨k * y'.1 + x'.1 * k' + p * k * k' - (l * y'.2 + x'.2 * l' + p * l * l'), k * y'.2 + x'.1 * l' + p * k * l' + (l * y'.1 + x'.2 * k' + p * l * k') - c * (l * y'.2 + x'.2 * l' + p * l * l'), ?_, ?_⟩
  · simp only [M.ml, h1, h2, h3, h4]; grind
  · simp only [M.ml, h1, h2, h3, h4]; grind
theorem Q.cj (h : Q p x x') : Q p (cj c x) (cj c x') := by
  obtain ⟨k, l, h1, h2⟩ := h
  exact ⟨k - c * l, -l, by simp only [M.cj, h1, h2]; grind, by simp only [M.cj, h2]; grind⟩
theorem Q.rd : Q p (rd p x) x := ⟨-(x.1 / p), -(x.2 / p), by
  have := Int.emod_add_mul_ediv x.1 p
  simp only [M.rd]; grind, by
  have := Int.emod_add_mul_ediv x.2 p
  simp only [M.rd]; grind⟩
theorem Q.rd_eq (h : Q p x y) : M.rd p x = M.rd p y := by
  obtain ⟨k, l, h1, h2⟩ := h
  simp only [M.rd, h1, h2, Int.add_mul_emod_self_left]
theorem rd_Q (h : M.rd p x = M.rd p y) : Q p x y := Q.rd.symm.trans (h ▸ Q.rd)
theorem ml_comm : ml c x y = ml c y x := by simp only [ml]; ext <;> simp <;> grind
theorem ml_assoc : ml c (ml c x y) z = ml c x (ml c y z) := by simp only [ml]; ext <;> simp <;> grind
theorem ml_ad : ml c x (ad y z) = ad (ml c x y) (ml c x z) := by simp only [ml, ad]; ext <;> simp <;> grind
theorem ad_ml : ml c (ad x y) z = ad (ml c x z) (ml c y z) := by simp only [ml, ad]; ext <;> simp <;> grind
theorem ml_zr : ml c x zr = zr := by simp [ml]
theorem zr_ml : ml c zr x = zr := by simp [ml]
theorem ad_zr : ad x zr = x := by simp [ad]
theorem zr_ad : ad zr x = x := by simp [ad]
theorem ad_comm : ad x y = ad y x := by simp only [ad]; ext <;> simp <;> grind
theorem ad_assoc : ad (ad x y) z = ad x (ad y z) := by simp only [ad]; ext <;> simp <;> grind
theorem one_ml : ml c (1, 0) x = x := by simp [ml]
theorem ml_one : ml c x (1, 0) = x := by simp [ml]
theorem cj_ml : cj c (ml c x y) = ml c (cj c x) (cj c y) := by simp only [ml, cj]; ext <;> simp <;> grind
theorem cj_ad : cj c (ad x y) = ad (cj c x) (cj c y) := by simp only [ad, cj]; ext <;> simp <;> grind
end
/-! ### sequences -/
abbrev Row := List El
abbrev Sq := Nat → El
def PE (p : Int) (f g : Sq) : Prop := ∀ i, Q p (f i) (g i)
def sad (f g : Sq) : Sq := fun i => ad (f i) (g i)
def ssb (f g : Sq) : Sq := fun i => sb (f i) (g i)
def sml (c : Int) (x : El) (g : Sq) : Sq := fun i => ml c x (g i)
def sX (g : Sq) : Sq := fun i => match i with
  | 0 => zr
  | i + 1 => g i
def sXn (n : Nat) (g : Sq) : Sq := fun i => if n ≤ i then g (i - n) else zr
def co (r : Row) : Sq := fun i => r.getD i zr
def dl : Sq := fun i => match i with
  | 0 => (1, 0)
  | _ + 1 => zr
def lm (c : Int) : Row → Sq → Sq
  | [], _ => fun _ => zr
  | x :: a, g => sad (sml c x g) (sX (lm c a g))
section
variable {p c : Int} {f g h f' g' : Sq} {a b r s : Row} {x : El}
theorem PE.refl : PE p f f := fun _ => Q.refl
theorem PE.of_eq (h : f = g) : PE p f g := h ▸ PE.refl
theorem PE.symm (h : PE p f g) : PE p g f := fun i => (h i).symm
theorem PE.trans (u : PE p f g) (v : PE p g h) : PE p f h := fun i => (u i).trans (v i)
theorem PE.sad (u : PE p f f') (v : PE p g g') : PE p (sad f g) (sad f' g') := fun i => (u i).ad (v i)
theorem PE.ssb (u : PE p f f') (v : PE p g g') : PE p (ssb f g) (ssb f' g') := fun i => (u i).sb (v i)
theorem PE.sml (u : PE p f f') {y : El} (hx : Q p x y) : PE p (sml c x f) (sml c y f') := fun i => hx.ml (u i)
theorem PE.sX (u : PE p f f') : PE p (sX f) (sX f') := fun i => by
  cases i with
  | zero => exact Q.refl
  | succ i => exact u i
theorem PE.lm (u : PE p f f') : ∀ a : Row, PE p (M.lm c a f) (M.lm c a f')
  | [] => PE.refl
  | x :: a => (u.sml Q.refl).sad (PE.lm u a).sX
theorem lm_sad : ∀ a : Row, lm c a (sad f g) = sad (lm c a f) (lm c a g)
  | [] => by funext i; simp [lm, sad, ad]
  | x :: a => by
    funext i
    simp only [lm, lm_sad a]
    cases i with
    | zero => simp only [sad, sml, sX, ml, ad]; ext <;> simp <;> grind
    | succ i => simp only [sad, sml, sX, ml, ad]; ext <;> simp <;> grind
theorem lm_sml {y : El} : ∀ a : Row, lm c a (sml c y g) = sml c y (lm c a g)
  | [] => by funext i; simp [lm, sml, ml]
  | x :: a => by
    funext i
    simp only [lm, lm_sml a]
    cases i with
    | zero => simp only [sad, sml, sX, ml, ad]; ext <;> simp <;> grind
    | succ i => simp only [sad, sml, sX, ml, ad]; ext <;> simp <;> grind
theorem lm_sX : ∀ a : Row, lm c a (sX g) = sX (lm c a g)
  | [] => by funext i; cases i <;> simp [lm, sX]
  | x :: a => by
    funext i
    simp only [lm, lm_sX a]
    cases i with
    | zero => simp [sad, sml, sX, ml, ad]
    | succ i => simp [sad, sml, sX]
theorem lm_comm (a b : Row) : lm c a (lm c b g) = lm c b (lm c a g) := by
  induction a with
  | nil =>
    have : lm c b (fun _ => zr) = fun _ => zr := by
      have e : (fun _ => zr : Sq) = sml c zr g := by funext i; simp [sml, zr_ml]
      rw [e, lm_sml]; funext i; simp [sml, zr_ml]
    simp only [lm, this]
  | cons x a ih =>
    simp only [lm]
    rw [lm_sad, lm_sml, lm_sX, ih]
theorem lm_dl : ∀ a : Row, lm c a dl = co a
  | [] => by funext i; simp [lm, co]
  | x :: a => by
    funext i
    simp only [lm, lm_dl a]
    cases i with
    | zero => simp [sad, sml, sX, ml, ad, co, dl]
    | succ i => simp [sad, sml, sX, ml, ad, co, dl]
theorem pr_comm (a b : Row) : lm c a (co b) = lm c b (co a) := by rw [← lm_dl (c := c) b, ← lm_dl (c := c) a, lm_comm]
theorem PE.lm1 (u : PE p (co a) (co b)) (r : Row) : PE p (M.lm c a (co r)) (M.lm c b (co r)) := by
  rw [pr_comm a r, pr_comm b r]
  exact u.lm r
theorem lm_snoc (x : El) : ∀ a : Row, lm c (a ++ [x]) g = sad (lm c a g) (sXn a.length (sml c x g))
  | [] => by
    funext i
    cases i with
    | zero => simp [lm, sad, sXn, sml, sX, ad]
    | succ i => simp [lm, sad, sXn, sml, sX, ad]
  | y :: a => by
    funext i
    simp only [List.cons_append, lm, lm_snoc x a]
    cases i with
    | zero => simp [sad, sXn, sX, ad_zr]
    | succ i =>
      simp only [sad, sX, sXn, List.length_cons, Nat.add_le_add_iff_right, Nat.add_sub_add_right]
      rw [ad_assoc]
theorem co_nil : co [] = fun _ => zr := by funext i; simp [co]
theorem co_ge {i : Nat} (h : r.length ≤ i) : co r i = zr := by
  unfold co
  rw [List.getD_eq_getElem?_getD, List.getElem?_eq_none h]; rfl
theorem co_lt {i : Nat} (h : i < r.length) : co r i = r[i] := by
  unfold co
  rw [List.getD_eq_getElem?_getD, List.getElem?_eq_getElem h]; rfl
/-- above the degree nothing -/
theorem lm_ge {n : Nat} (hg : ∀ j, n ≤ j → g j = zr) : ∀ (a : Row) (i : Nat), a.length + n ≤ i + 1 → lm c a g i = zr
  | [], i, _ => rfl
  | x :: a, i, h => by
    simp only [List.length_cons] at h
    simp only [lm, sad, sml]
    rw [hg i (by omega), ml_zr, zr_ad]
    cases i with
    | zero => rfl
    | succ i => exact lm_ge hg a i (by omega)
/-! ### canonical rows -/
def trim : Row → Row
  | [] => []
  | x :: r => match trim r with
    | [] => if x = zr then [] else [x]
    | y :: s => x :: y :: s
structure Can (p : Int) (r : Row) : Prop where
  red : ∀ x ∈ r, rd p x = x
  last : r.getLast? ≠ some zr
theorem trim_co : ∀ r : Row, co (trim r) = co r
  | [] => rfl
  | x :: r => by
    have ih := trim_co r
    unfold trim
    split
    · rename_i e
      rw [e] at ih
      funext i
      split
      · rename_i hx
        subst hx
        cases i with
        | zero => simp [co]
        | succ i =>
          have := congrFun ih i
          simpa [co] using this
      · cases i with
        | zero => simp [co]
        | succ i =>
          have := congrFun ih i
          simpa [co] using this
    · rename_i y s e
      rw [e] at ih
      funext i
      cases i with
      | zero => simp [co]
      | succ i =>
        have := congrFun ih i
        simpa [co] using this
theorem trim_mem : ∀ {r : Row} {x : El}, x ∈ trim r → x ∈ r
  | [], _, h => by simp [trim] at h
  | y :: r, x, h => by
    unfold trim at h
    split at h
    · split at h
      · simp at h
      · simp at h; simp [h]
    · rename_i z s e
      rcases List.mem_cons.mp h with h | h
      · simp [h]
      · exact List.mem_cons_of_mem _ (trim_mem (by rw [e]; exact h))
theorem trim_last : ∀ (r : Row), (trim r).getLast? ≠ some zr
  | [] => by simp [trim]
  | x :: r => by
    have ih := trim_last r
    unfold trim
    cases e : trim r with
    | nil =>
      by_cases hx : x = zr
      · simp [hx]
      · simpa [hx] using hx
    | cons y s =>
      rw [e] at ih
      dsimp only
      rw [List.getLast?_cons_cons]
      exact ih
theorem can_trim (h : ∀ x ∈ r, rd p x = x) : Can p (trim r) := ⟨fun x hx => h x (trim_mem hx), trim_last r⟩
theorem trim_len : ∀ r : Row, (trim r).length ≤ r.length
  | [] => by simp [trim]
  | x :: r => by
    have ih := trim_len r
    unfold trim
    split
    · split <;> simp
    · rename_i y s e
      rw [e] at ih
      simpa using ih
theorem can_nil : Can p [] := ⟨fun _ h => by simp at h, by simp⟩
theorem rd_rd (hp : 0 < p) : rd p (rd p x) = rd p x := by simp only [rd, Int.emod_emod_of_dvd _ (Int.dvd_refl p)]
theorem can_ext (hr : Can p r) (hs : Can p s) (h : PE p (co r) (co s)) : r = s := by
  have red : ∀ {r : Row}, Can p r → ∀ i, rd p (co r i) = co r i := fun {r} hr i => by
    by_cases hi : i < r.length
    · rw [co_lt hi]; exact hr.red _ (List.getElem_mem hi)
    · rw [co_ge (Nat.le_of_not_lt hi)]; simp [rd]
  have e : ∀ i, co r i = co s i := fun i => by rw [← red hr i, ← red hs i]; exact (h i).rd_eq
  have le : ∀ {r s : Row}, Can p s → (∀ i, co r i = co s i) → s.length ≤ r.length := fun {r s} hs e => by
    by_cases hl : s.length ≤ r.length
    · exact hl
    · exfalso
      have hne : s ≠ [] := by rintro rfl; simp at hl
      have h1 := e (s.length - 1)
      have hpos : 0 < s.length := List.length_pos_iff.mpr hne
      rw [co_ge (by omega), co_lt (by omega)] at h1
      have := hs.last
      rw [List.getLast?_eq_getElem?, List.getElem?_eq_getElem (by omega)] at this
      exact this (congrArg some h1.symm)
  have hl : r.length = s.length := Nat.le_antisymm (le hr fun i => (e i).symm) (le hs e)
  refine List.ext_getElem hl fun i h1 h2 => ?_
  have := e i
  rwa [co_lt h1, co_lt h2] at this
theorem can_trim_eq (h : Can p r) : trim r = r := can_ext (can_trim h.red) h (PE.of_eq (trim_co r))
/-! ### division -/
/-- q d = r, r below the degree of d, d's head a unit: q is nothing -/
theorem div_zero {d q : Row} {n : Nat} {u v : El} (hd : d.length = n + 1) (hu : Q p (co d n) u) (huv : Q p (ml c u v) (1, 0)) (hr : ∀ j, n ≤ j → Q p (f j) zr) (h : PE p (lm c q (co d)) f) : PE p (co q) (co []) := by
  have key : ∀ (k : Nat) (q : Row), q.length = k → PE p (lm c q (co d)) f → PE p (co q) (co []) := by
    intro k
    induction k with
    | zero =>
      intro q hq _
      have : q = [] := List.length_eq_zero_iff.mp hq
      rw [this]; exact PE.refl
    | succ k ih =>
      intro q hq h
      obtain ⟨q', x, rfl⟩ : ∃ q' x, q = q' ++ [x] := by
        have hne : q ≠ [] := by rintro rfl; simp at hq
        exact ⟨q.dropLast, q.getLast hne, (List.dropLast_concat_getLast hne).symm⟩
      have hk : q'.length = k := by simpa using hq
      have h1 := h (k + n)
      rw [lm_snoc] at h1
      have e1 : lm c q' (co d) (k + n) = zr := lm_ge (n := n + 1) (fun j hj => co_ge (by omega)) q' (k + n) (by omega)
      simp only [sad, sXn, sml, e1, zr_ad, hk] at h1
      rw [if_pos (by omega), show k + n - k = n by omega] at h1
      have h2 : Q p (ml c x u) zr := ((Q.refl (x := x)).ml hu).symm.trans (h1.trans (hr _ (by omega)))
      have h3 : Q p x zr := by
        have a := h2.ml (c := c) (Q.refl (x := v))
        rw [ml_assoc, zr_ml] at a
        have b := (Q.refl (x := x) (p := p)).ml (c := c) huv
        rw [ml_one] at b
        exact b.symm.trans a
      have h4 : PE p (lm c q' (co d)) f := by
        refine PE.trans (fun i => ?_) h
        rw [lm_snoc]
        simp only [sad, sXn, sml]
        have : Q p (if q'.length ≤ i then ml c x (co d (i - q'.length)) else zr) zr := by
          split
          · have := h3.ml (c := c) (Q.refl (x := co d (i - q'.length)))
            rwa [zr_ml] at this
          · exact Q.refl
        have z := (Q.refl (x := lm c q' (co d) i)).ad this
        rw [ad_zr] at z
        exact z.symm
      have h5 := ih q' hk h4
      intro i
      by_cases hi : i < k
      · have := h5 i
        rw [co_lt (by simp; omega)]
        rw [co_lt (by omega)] at this
        rwa [List.getElem_append_left (by omega)]
      · by_cases hi2 : i = k
        · subst hi2
          rw [co_lt (by simp; omega), List.getElem_append_right (by omega)]
          simpa [co] using h3
        · rw [co_ge (by simp; omega)]; simp [co]; exact Q.refl
  exact key q.length q rfl h
end
end M
end
section
set_option Elab.async false
set_option linter.all false
set_option autoImplicit false
/-! M2: rows as polynomials: products, division, powers. -/
namespace M
variable {p c : Int} {f g h f' g' : Sq} {a b d r s q L : Row} {x y : El}
def radd : Row → Row → Row
  | [], b => b
  | a, [] => a
  | x :: a, y :: b => ad x y :: radd a b
theorem co_cons : co (x :: a) = sad (sml c x dl) (sX (co a)) := by
  funext i
  cases i with
  | zero => simp [co, sad, sml, dl, sX, ml_one, ad_zr]
  | succ i => simp [co, sad, sml, dl, sX, ml_zr, zr_ad]
theorem co_radd : ∀ a b : Row, co (radd a b) = sad (co a) (co b)
  | [], b => by funext i; simp [radd, sad, co_nil, zr_ad]
  | x :: a, [] => by funext i; simp [radd, sad, co_nil, ad_zr]
  | x :: a, y :: b => by
    funext i
    cases i with
    | zero => simp [radd, co, sad]
    | succ i => have := congrFun (co_radd a b) i; simpa [radd, co, sad] using this
theorem co_map_ml : ∀ a : Row, co (a.map (ml c x)) = sml c x (co a)
  | [] => by funext i; simp [co_nil, sml, ml_zr]
  | y :: a => by
    funext i
    cases i with
    | zero => simp [co, sml]
    | succ i => have := congrFun (co_map_ml a) i; simpa [co, sml] using this
def rmul (c : Int) : Row → Row → Row
  | [], _ => []
  | x :: a, b => radd (b.map (ml c x)) (zr :: rmul c a b)
theorem co_shift : co (zr :: a) = sX (co a) := by
  funext i
  cases i <;> simp [co, sX]
theorem co_rmul : ∀ a b : Row, co (rmul c a b) = lm c a (co b)
  | [], b => by simp [rmul, lm, co_nil]
  | x :: a, b => by rw [rmul, co_radd, co_map_ml, co_shift, co_rmul a b]; rfl
def rneg (c : Int) (a : Row) : Row := a.map (ml c (-1, 0))
theorem co_rneg : co (rneg c a) = sml c (-1, 0) (co a) := co_map_ml a
/-! ### the ideal of d -/
def Id (p c : Int) (d : Row) (f : Sq) : Prop := ∃ q : Row, PE p f (lm c q (co d))
theorem lm_radd (a b r : Row) : lm c (radd a b) (co r) = sad (lm c a (co r)) (lm c b (co r)) := by
  rw [pr_comm, co_radd, lm_sad, pr_comm a, pr_comm b]
theorem lm_rmul (a b r : Row) : lm c (rmul c a b) (co r) = lm c a (lm c b (co r)) := by
  rw [pr_comm, co_rmul, lm_comm, ← pr_comm b r]
theorem Id.pe (h : Id p c d f) (e : PE p g f) : Id p c d g := by
  obtain ⟨q, h⟩ := h
  exact ⟨q, e.trans h⟩
theorem Id.add (h : Id p c d f) (h' : Id p c d g) : Id p c d (sad f g) := by
  obtain ⟨q, h⟩ := h
  obtain ⟨q', h'⟩ := h'
  exact ⟨radd q q', by rw [lm_radd]; exact h.sad h'⟩
theorem Id.lm (h : Id p c d f) (a : Row) : Id p c d (M.lm c a f) := by
  obtain ⟨q, h⟩ := h
  exact ⟨rmul c a q, by rw [lm_rmul]; exact h.lm a⟩
theorem Id.neg (h : Id p c d f) : Id p c d (sml c (-1, 0) f) := by
  obtain ⟨q, h⟩ := h
  refine ⟨rneg c q, ?_⟩
  rw [pr_comm, co_rneg, lm_sml, ← pr_comm q d]
  exact h.sml Q.refl
theorem Id.zero : Id p c d (fun _ => zr) := ⟨[], PE.refl⟩
/-- the same modulo d -/
def Eqm (p c : Int) (d : Row) (f g : Sq) : Prop := Id p c d (ssb f g)
theorem Eqm.of_pe (h : PE p f g) : Eqm p c d f g := Id.zero.pe fun i => by
  have := (h i).sb (Q.refl (x := g i) (p := p))
  have e : sb (g i) (g i) = zr := by simp [sb]
  rw [e] at this
  exact this
theorem Eqm.symm (h : Eqm p c d f g) : Eqm p c d g f := h.neg.pe (PE.of_eq (by
  funext i
  simp only [ssb, sml, ml, sb]; ext <;> simp <;> grind))
theorem Eqm.trans (u : Eqm p c d f g) (v : Eqm p c d g h) : Eqm p c d f h := (u.add v).pe (PE.of_eq (by
  funext i
  simp only [ssb, sad, ad, sb]; ext <;> simp <;> grind))
theorem lm_ssb (a : Row) : lm c a (ssb f g) = ssb (lm c a f) (lm c a g) := by
  have e : ∀ f g : Sq, ssb f g = sad f (sml c (-1, 0) g) := fun f g => by
    funext i
    simp only [ssb, sad, sb, sml, ml, ad]; ext <;> simp <;> grind
  rw [e, lm_sad, lm_sml, ← e]
/-- products modulo d -/
theorem Eqm.mul {a' b' : Row} (u : Eqm p c d (co a) (co a')) (v : Eqm p c d (co b) (co b')) : Eqm p c d (lm c a (co b)) (lm c a' (co b')) := by
  have h1 := v.lm a
  rw [lm_ssb] at h1
  have h2 := u.lm b'
  rw [lm_ssb, pr_comm b' a, pr_comm b' a'] at h2
  exact Eqm.trans h1 h2
/-! ### powers -/
def rpow (c : Int) (a : Row) : Nat → Row
  | 0 => [(1, 0)]
  | n + 1 => rmul c a (rpow c a n)
theorem co_one : co [(1, 0)] = dl := by
  funext i
  cases i <;> simp [co, dl]
theorem rpow_add (a : Row) : ∀ k l : Nat, co (rpow c a (k + l)) = lm c (rpow c a k) (co (rpow c a l))
  | 0, l => by rw [Nat.zero_add, pr_comm]; show _ = lm c _ (co [(1, 0)]); rw [co_one, lm_dl]
  | k + 1, l => by
    rw [show k + 1 + l = (k + l) + 1 by omega]
    simp only [rpow]
    rw [co_rmul, rpow_add a k l, lm_rmul]
/-! ### division with rest -/
structure DivOk (p c : Int) (L d q r : Row) : Prop where
  cq : Can p q
  cr : Can p r
  len : r.length < d.length
  eq : PE p (co L) (sad (lm c q (co d)) (co r))
/-- d's head has an inverse -/
structure Hd (p c : Int) (d : Row) (n : Nat) (v : El) : Prop where
  len : d.length = n + 1
  inv : Q p (ml c (co d n) v) (1, 0)
theorem DivOk.eqm (D : DivOk p c L d q r) : Eqm p c d (co L) (co r) := ⟨q, fun i => by
  have h := (D.eq i).sb (Q.refl (x := co r i) (p := p))
  have e : sb (sad (lm c q (co d)) (co r) i) (co r i) = lm c q (co d) i := by
    simp only [sad, sb, ad]; ext <;> simp <;> grind
  rw [e] at h
  exact h⟩
theorem rest_unique {n : Nat} {v : El} (H : Hd p c d n v) (cr : Can p r) (cs : Can p s) (lr : r.length < d.length) (ls : s.length < d.length) (e : Eqm p c d (co r) (co s)) : r = s := by
  obtain ⟨q, e⟩ := e
  have z := div_zero (f := ssb (co r) (co s)) H.len Q.refl H.inv (fun j hj => by
    have l := H.len
    simp only [ssb]
    rw [co_ge (by omega), co_ge (by omega)]
    exact Q.of_eq (by simp [sb])) e.symm
  refine can_ext cr cs fun i => ?_
  have h1 := e i
  have h2 : Q p (lm c q (co d) i) zr := z.lm1 (c := c) d i
  have h3 : Q p (ssb (co r) (co s) i) zr := h1.trans h2
  have h4 := h3.ad (Q.refl (x := co s i) (p := p))
  have e1 : ad (ssb (co r) (co s) i) (co s i) = co r i := by
    simp only [ssb, sb, ad]; ext <;> simp <;> grind
  rwa [e1, zr_ad] at h4
theorem div_unique {n : Nat} {v : El} {q' r' : Row} (H : Hd p c d n v) (D : DivOk p c L d q r) (D' : DivOk p c L d q' r') : q = q' ∧ r = r' := by
  have er : r = r' := rest_unique H D.cr D'.cr D.len D'.len (D.eqm.symm.trans D'.eqm)
  subst er
  refine ⟨?_, rfl⟩
  have e : PE p (lm c q (co d)) (lm c q' (co d)) := fun i => by
    have h := (D.eq i).symm.trans (D'.eq i)
    have h2 := h.sb (Q.refl (x := co r i) (p := p))
    have e1 : ∀ f : Sq, sb (sad f (co r) i) (co r i) = f i := fun f => by
      simp only [sad, sb, ad]; ext <;> simp <;> grind
    rwa [e1, e1] at h2
  have z := div_zero (q := radd q (rneg c q')) (f := fun _ => zr) H.len Q.refl H.inv (fun j _ => Q.refl) (by
    intro i
    rw [lm_radd]
    have h := (e i).sb (Q.refl (x := lm c q' (co d) i) (p := p))
    have e1 : sad (lm c q (co d)) (lm c (rneg c q') (co d)) i = sb (lm c q (co d) i) (lm c q' (co d) i) := by
      rw [pr_comm (rneg c q') d, co_rneg, lm_sml, ← pr_comm q' d]
      simp only [sad, sml, sb, ad, ml]; ext <;> simp <;> grind
    rw [e1]
    have e2 : sb (lm c q' (co d) i) (lm c q' (co d) i) = zr := by simp [sb]
    rwa [e2] at h)
  refine can_ext D.cq D'.cq fun i => ?_
  have h := z i
  rw [co_radd, co_rneg] at h
  have h2 := h.ad (Q.refl (x := co q' i) (p := p))
  have e1 : ad (sad (co q) (sml c (-1, 0) (co q')) i) (co q' i) = co q i := by
    simp only [sad, sml, ml, ad]; ext <;> simp <;> grind
  rw [e1, co_nil, zr_ad] at h2
  exact h2
/-! ### the steps of the long division -/
structure Dinv (p c : Int) (L d : Row) (n g : Nat) (qs rest : Row) : Prop where
  eq : PE p (co L) (sad (lm c (List.replicate g zr ++ qs.reverse) (co d)) (co rest))
  hi : ∀ j, g + n ≤ j → Q p (co rest j) zr
theorem lm_zeros (t : Row) : ∀ g : Nat, lm c (List.replicate g zr ++ t) f = sXn g (lm c t f)
  | 0 => by funext i; simp [sXn]
  | g + 1 => by
    rw [List.replicate_succ, List.cons_append]
    simp only [lm, lm_zeros t g]
    funext i
    cases i with
    | zero => simp [sad, sml, zr_ml, sX, sXn, ad_zr]
    | succ i => simp [sad, sml, zr_ml, sX, sXn, zr_ad]
theorem Dinv.start {n N : Nat} (hd : d.length = n + 1) (hL : L.length = N + n) : Dinv p c L d n N [] L := by
  refine ⟨fun i => ?_, fun j hj => by rw [co_ge (by omega)]; exact Q.refl⟩
  rw [lm_zeros]
  simp only [List.reverse_nil, lm, sad, sXn]
  refine Q.of_eq ?_
  split <;> simp [zr_ad]
theorem Dinv.step {n g0 : Nat} {qs rest rest' : Row} {head : El} (D : Dinv p c L d n (g0 + 1) qs rest) (hd : d.length = n + 1) (hh : Q p (ml c head (co d n)) (co rest (g0 + n)))
    (hr : PE p (co rest') (ssb (co rest) (sXn g0 (sml c head (co d))))) : Dinv p c L d n g0 (qs ++ [head]) rest' := by
  refine ⟨fun i => ?_, fun j hj => ?_⟩
  · have h := D.eq i
    refine h.trans ?_
    rw [lm_zeros, lm_zeros, List.reverse_append, List.reverse_singleton, List.singleton_append]
    have h2 := hr i
    have h3 : Q p (sad (sXn g0 (lm c (head :: qs.reverse) (co d))) (co rest') i) (ad (sXn g0 (lm c (head :: qs.reverse) (co d)) i) (ssb (co rest) (sXn g0 (sml c head (co d))) i)) := Q.refl.ad h2
    refine Q.trans (Q.of_eq ?_) h3.symm
    simp only [sad, sXn, ssb, lm]
    by_cases hi : g0 ≤ i
    · rw [if_pos hi, if_pos hi]
      by_cases hi2 : g0 + 1 ≤ i
      · rw [if_pos hi2]
        obtain ⟨k, rfl⟩ : ∃ k, i = g0 + 1 + k := ⟨i - (g0 + 1), by omega⟩
        rw [show g0 + 1 + k - (g0 + 1) = k by omega, show g0 + 1 + k - g0 = k + 1 by omega]
        simp only [sX, sml, ad, sb]; ext <;> simp <;> grind
      · rw [if_neg hi2]
        have : i = g0 := by omega
        subst this
        rw [Nat.sub_self]
        simp only [sX, sml, ad, sb]; ext <;> simp <;> grind
    · rw [if_neg hi, if_neg hi, if_neg (by omega)]
      simp only [ad, sb]; ext <;> simp
  · refine (hr j).trans ?_
    simp only [ssb, sXn]
    by_cases hj2 : g0 + 1 + n ≤ j
    · have h1 := D.hi j hj2
      rw [if_pos (by omega)]
      have : sml c head (co d) (j - g0) = zr := by simp only [sml]; rw [co_ge (by omega), ml_zr]
      rw [this]
      have := h1.sb (Q.refl (x := zr) (p := p))
      simpa [sb] using this
    · have : j = g0 + n := by omega
      subst this
      rw [if_pos (by omega), show g0 + n - g0 = n by omega]
      simp only [sml]
      have h1 := (Q.refl (x := co rest (g0 + n)) (p := p)).sb hh
      have e : sb (co rest (g0 + n)) (co rest (g0 + n)) = zr := by simp [sb]
      rwa [e] at h1
theorem Dinv.done {n : Nat} {qs rest q r : Row} (D : Dinv p c L d n 0 qs rest) (hd : d.length = n + 1) (cq : Can p q) (eq : PE p (co q) (co qs.reverse)) (cr : Can p r) (lr : r.length ≤ n) (er : ∀ i, i < n → Q p (co r i) (co rest i)) : DivOk p c L d q r := by
  refine ⟨cq, cr, by omega, fun i => (D.eq i).trans ?_⟩
  simp only [List.replicate_zero, List.nil_append, sad]
  refine Q.ad (eq.symm.lm1 d i) ?_
  by_cases hi : i < n
  · exact (er i hi).symm
  · rw [co_ge (r := r) (by omega)]
    exact D.hi i (by omega)
theorem div_small (cL : Can p L) (h : L.length < d.length) : DivOk p c L d [] L := ⟨can_nil, cL, h, fun i => Q.of_eq (by simp [sad, lm, zr_ad])⟩
end M
end
section
set_option Elab.async false
set_option linter.all false
set_option autoImplicit false
set_option maxRecDepth 100000
set_option maxHeartbeats 4000000
/-! Y1: calls and loops of the small language, in general. -/
namespace Z
open PySem M
variable {Co : Consts} {P : Str → Option Fn}
/-- a def's answer at pure arguments, at every depth from m on -/
structure Rt (Co : Consts) (P : Str → Option Fn) (m : Nat) (f : Str) (ds : List D) (d : D) : Prop where
  pa : pures ds = true
  pr : d.pure = true
  go : ∀ n, m ≤ n → ∃ S1, run Co P n f ds [] = .ok d S1
theorem Rt.call {m n : Nat} {f : Str} {ds : List D} {d : D} (h : Rt Co P m f ds d) (hn : m ≤ n) (S : Sto) : callR (run Co P n) f ds S = .ok d S := by
  obtain ⟨S1, e⟩ := h.go n hn
  unfold callR
  rw [if_pos h.pa, e]
  simp only [h.pr, if_true]
theorem Rt.up {m m' : Nat} {f : Str} {ds : List D} {d : D} (h : Rt Co P m f ds d) (hn : m ≤ m') : Rt Co P m' f ds d := ⟨h.pa, h.pr, fun n hm => h.go n (Nat.le_trans hn hm)⟩
/-- the answer, whatever store is left -/
def Vo {α : Type} (r : R α) (d : α) : Prop := match r with
  | .ok a _ => a = d
  | _ => False
@[simp] theorem Vo_ok {α : Type} (a d : α) (S : Sto) : Vo (.ok a S) d ↔ a = d := Iff.rfl
theorem Vo.ex {α : Type} {r : R α} {d : α} (h : Vo r d) : ∃ S, r = .ok d S := by
  cases r with
  | ok a S => exact ⟨S, by rw [show a = d from h]⟩
  | exc _ _ _ => exact h.elim
  | bad => exact h.elim
theorem Rt.of {m : Nat} {f : Str} {fn : Fn} {ds : List D} {d : D} (hr : ∀ n S, run Co P (n + 1) f ds S = runFn (run Co P n) Co fn ds S) (pa : pures ds = true) (pr : d.pure = true) (h : ∀ n, m ≤ n → Vo (runFn (run Co P n) Co fn ds []) d) : Rt Co P (m + 1) f ds d := by
  refine ⟨pa, pr, fun n hn => ?_⟩
  obtain ⟨k, rfl⟩ : ∃ k, n = k + 1 := ⟨n - 1, by omega⟩
  rw [hr]
  exact (h k (by omega)).ex
/-! ### values -/
def dE (x : El) : D := .tup [.int x.1, .int x.2]
def dR (r : Row) : D := .tup (r.map dE)
@[simp] theorem dE_pure (x : El) : (dE x).pure = true := rfl
@[simp] theorem pures_dE : ∀ r : Row, pures (r.map dE) = true
  | [] => rfl
  | x :: r => by simp only [List.map_cons, pures, dE_pure, pures_dE r, Bool.and_self]
@[simp] theorem pures_int : ∀ r : List Int, pures (r.map D.int) = true
  | [] => rfl
  | x :: r => by simp only [List.map_cons, pures, D.pure, pures_int r, Bool.and_self]
@[simp] theorem dR_pure (r : Row) : (dR r).pure = true := by simp only [dR, D.pure, pures_dE]
@[simp] theorem dI_pure (r : List Int) : (dI r).pure = true := by simp only [dI, D.pure, pures_int]
theorem eqv_int (i j : Int) : PyData.eqv (.int i) (.int j) = decide (i = j) := by
  show (i == j) = _
  rw [Bool.eq_iff_iff]; simp
theorem eqD_dE (x y : El) : eqD (dE x) (dE y) = decide (x = y) := by
  obtain ⟨a, b⟩ := x
  obtain ⟨a', b'⟩ := y
  rw [Bool.eq_iff_iff]
  simp [eqD, dE, D.py, pys, PyData.eqv, PyData.eqvAll]
theorem eqD_dR : ∀ r s : Row, eqD (dR r) (dR s) = decide (r = s)
  | [], [] => by simp [eqD, dR, D.py, pys, PyData.eqv, PyData.eqvAll]
  | x :: r, [] => by simp [eqD, dR, D.py, pys, PyData.eqv, PyData.eqvAll]
  | [], y :: s => by simp [eqD, dR, D.py, pys, PyData.eqv, PyData.eqvAll]
  | x :: r, y :: s => by
    have h1 := eqD_dE x y
    have h2 := eqD_dR r s
    simp only [eqD, dR, D.py, PyData.eqv, List.map_cons, pys, PyData.eqvAll] at h1 h2 ⊢
    rw [h1, h2]
    simp [List.cons.injEq]
theorem flat_dE : ∀ r : Row, flatTos 58 (r.map dE) = true
  | [] => rfl
  | x :: r => by simp only [List.map_cons, flatTos, flat_dE r, Bool.and_true]; rfl
theorem flat_dE2 (x : El) : (dE x).flatTo 60 = true := rfl
theorem flat_dR (r : Row) : (dR r).flatTo 60 = true := by
  show flatTos 59 (r.map dE) = true
  induction r with
  | nil => rfl
  | cons x r ih => simp only [List.map_cons, flatTos, ih, Bool.and_true]; rfl
end Z
namespace Z
@[simp] theorem biR_int (i : Int) (S : Sto) : biR .int [.int i] S = .ok (.int i) S := rfl
@[simp] theorem biR_intb (b : Bool) (S : Sto) : biR .int [.bl b] S = .ok (.int (if b then 1 else 0)) S := rfl
@[simp] theorem biR_abs (i : Int) (S : Sto) : biR .abs [.int i] S = .ok (.int (if i < 0 then -i else i)) S := rfl
@[simp] theorem biR_min (i j : Int) (S : Sto) : biR .min [.int i, .int j] S = .ok (.int (if j < i then j else i)) S := rfl
@[simp] theorem biR_max (i j : Int) (S : Sto) : biR .max [.int i, .int j] S = .ok (.int (if j > i then j else i)) S := rfl
@[simp] theorem biR_lenT (xs : List D) (S : Sto) : biR .len [.tup xs] S = .ok (.int xs.length) S := rfl
theorem biR_lenL {k : Nat} {xs : List D} {S : Sto} (h : S[k]? = some xs) : biR .len [.lst k] S = .ok (.int xs.length) S := by simp [biR, itemsOf, h]
@[simp] theorem biR_tupT (xs : List D) (S : Sto) : biR .tuple [.tup xs] S = .ok (.tup xs) S := rfl
theorem biR_tupL {k : Nat} {xs : List D} {S : Sto} (h : S[k]? = some xs) : biR .tuple [.lst k] S = .ok (.tup xs) S := by simp [biR, itemsOf, h]
@[simp] theorem biR_lstT (xs : List D) (S : Sto) : biR .list [.tup xs] S = newL xs S := rfl
theorem biR_lstL {k : Nat} {xs : List D} {S : Sto} (h : S[k]? = some xs) : biR .list [.lst k] S = newL xs S := by simp [biR, itemsOf, h]
@[simp] theorem biR_isInt (d : D) (S : Sto) : biR .isInt [d] S = .ok (.bl (match d with | .int _ => true | .bl _ => true | _ => false)) S := rfl
@[simp] theorem biR_isBool (d : D) (S : Sto) : biR .isBool [d] S = .ok (.bl (match d with | .bl _ => true | _ => false)) S := rfl
@[simp] theorem biR_isTuple (d : D) (S : Sto) : biR .isTuple [d] S = .ok (.bl (match d with | .tup _ => true | _ => false)) S := rfl
@[simp] theorem biR_isStr (d : D) (S : Sto) : biR .isStr [d] S = .ok (.bl (match d with | .str _ => true | _ => false)) S := rfl
end Z
end
section
set_option Elab.async false
set_option linter.all false
set_option autoImplicit false
set_option maxRecDepth 100000
set_option maxHeartbeats 4000000
/-! Y2: loops, calls with lists, in general. -/
namespace Z
open PySem M
variable {Co : Consts} {P : Str → Option Fn}
theorem lcF_map {α : Type} {gd : Gd} {body : D → Sto → R (Option D)} {S : Sto} (f g : α → D) (hc : chk gd S = true) : ∀ (l : List α), (∀ a ∈ l, body (f a) S = .ok (some (g a)) S) → lcF gd body (l.map f) S = .ok (l.map g) S
  | [], _ => by simp [lcF, hc]
  | a :: l, h => by
    simp only [List.map_cons, lcF, hc, if_true]
    rw [h a List.mem_cons_self]
    simp only [R.bind_ok]
    rw [lcF_map f g hc l fun b hb => h b (List.mem_cons_of_mem _ hb)]
    rfl
theorem lcF_filter {α : Type} {gd : Gd} {body : D → Sto → R (Option D)} {S : Sto} (f : α → D) (g : α → Option D) (hc : chk gd S = true) : ∀ (l : List α), (∀ a ∈ l, body (f a) S = .ok (g a) S) → lcF gd body (l.map f) S = .ok (l.filterMap g) S
  | [], _ => by simp [lcF, hc]
  | a :: l, h => by
    simp only [List.map_cons, lcF, hc, if_true]
    rw [h a List.mem_cons_self]
    simp only [R.bind_ok]
    rw [lcF_filter f g hc l fun b hb => h b (List.mem_cons_of_mem _ hb)]
    cases e : g a <;> simp [List.filterMap_cons, e]
@[simp] theorem chk_nil (S : Sto) : chk [] S = true := rfl
theorem chk_at {n : Nat} {xs : List D} {S : Sto} (h : S[n]? = some xs) : chk [(n, xs)] S = true := by
  simp [chk, h, beqs_refl]
/-- a for loop by an invariant over what is done -/
theorem forF_inv {α : Type} {gd : Gd} {body : D → Rho → Sto → F} (f : α → D) (Inv : List α → Rho → Sto → Prop) (l : List α) :
    (hs : ∀ pre a post ρ S, l = pre ++ a :: post → Inv pre ρ S → chk gd S = true ∧ ∃ ρ' S', (body (f a) ρ S = .nx ρ' S' ∨ body (f a) ρ S = .ct ρ' S') ∧ Inv (pre ++ [a]) ρ' S') →
    (hd : ∀ ρ S, Inv l ρ S → chk gd S = true) → ∀ {ρ : Rho} {S : Sto}, Inv [] ρ S → ∃ ρ' S', forF gd body (l.map f) ρ S = .nx ρ' S' ∧ Inv l ρ' S' := by
  intro hs hd
  have key : ∀ (post pre : List α) (ρ : Rho) (S : Sto), l = pre ++ post → Inv pre ρ S → ∃ ρ' S', forF gd body (post.map f) ρ S = .nx ρ' S' ∧ Inv l ρ' S' := by
    intro post
    induction post with
    | nil =>
      intro pre ρ S e h
      rw [List.append_nil] at e
      subst e
      exact ⟨ρ, S, by simp [forF, hd ρ S h], h⟩
    | cons a post ih =>
      intro pre ρ S e h
      obtain ⟨hc, ρ', S', hb, h'⟩ := hs pre a post ρ S e h
      obtain ⟨ρ2, S2, h1, h2⟩ := ih (pre ++ [a]) ρ' S' (by rw [e]; simp) h'
      refine ⟨ρ2, S2, ?_, h2⟩
      simp only [List.map_cons, forF, hc, if_true]
      rcases hb with hb | hb <;> (rw [hb]; simpa using h1)
  intro ρ S h
  exact key l [] ρ S rfl h
/-- a while loop by an invariant with a measure -/
theorem whF_inv {test : Rho → Sto → R Bool} {body : Rho → Sto → F} (Inv : Nat → Rho → Sto → Prop) (Post : Rho → Sto → Prop)
    (h : ∀ k ρ S, Inv k ρ S → (∃ S', test ρ S = .ok false S' ∧ Post ρ S') ∨ (∃ S' ρ2 S2 k', test ρ S = .ok true S' ∧ (body ρ S' = .nx ρ2 S2 ∨ body ρ S' = .ct ρ2 S2) ∧ k' < k ∧ Inv k' ρ2 S2)) :
    ∀ (n k : Nat) (ρ : Rho) (S : Sto), k < n → Inv k ρ S → ∃ ρ' S', whF test body n ρ S = .nx ρ' S' ∧ Post ρ' S'
  | 0, k, ρ, S, hk, _ => absurd hk (Nat.not_lt_zero _)
  | n + 1, k, ρ, S, hk, hi => by
    rcases h k ρ S hi with ⟨S', ht, hp⟩ | ⟨S', ρ2, S2, k', ht, hb, hlt, hi2⟩
    · exact ⟨ρ, S', by simp [whF, ht], hp⟩
    · obtain ⟨ρ3, S3, h1, h2⟩ := whF_inv Inv Post h n k' ρ2 S2 (by omega) hi2
      refine ⟨ρ3, S3, ?_, h2⟩
      simp only [whF, ht, R.toF_ok, if_true]
      rcases hb with hb | hb <;> (rw [hb]; simpa using h1)
theorem newL_ok {xs : List D} {S : Sto} (h : xs.length ≤ 100000) : newL xs S = .ok (.lst S.length) (S ++ [xs]) := by
  unfold newL
  rw [if_pos (Nat.le_trans h (by decide))]
theorem newT_ok {xs : List D} {S : Sto} (h : xs.length ≤ 100000) : newT xs S = .ok (.tup xs) S := by
  unfold newT
  rw [if_pos (Nat.le_trans h (by decide))]
/-- a call with a list that grows the store -/
def Rs (Co : Consts) (P : Str → Option Fn) (m : Nat) (f : Str) (ds : List D) (S : Sto) (d : D) : Prop := ∀ n, m ≤ n → ∃ E, run Co P n f ds S = .ok d (S ++ E)
theorem Rs.call {m n : Nat} {f : Str} {ds : List D} {d : D} {S : Sto} (h : Rs Co P m f ds S d) (hn : m ≤ n) (hp : pures ds = false) : ∃ E, callR (run Co P n) f ds S = .ok d (S ++ E) := by
  obtain ⟨E, e⟩ := h n hn
  refine ⟨E, ?_⟩
  unfold callR
  rw [hp]
  exact e
/-- the last places of a row taken away -/
theorem last_ext {r s : Row} (hr : r.getLast? ≠ some zr) (hs : s.getLast? ≠ some zr) (e : ∀ i, co r i = co s i) : r = s := by
  have le : ∀ {r s : Row}, s.getLast? ≠ some zr → (∀ i, co r i = co s i) → s.length ≤ r.length := fun {r s} hs e => by
    by_cases hl : s.length ≤ r.length
    · exact hl
    · exfalso
      have hpos : 0 < s.length := by omega
      have h1 := e (s.length - 1)
      rw [co_ge (by omega), co_lt (by omega)] at h1
      rw [List.getLast?_eq_getElem?, List.getElem?_eq_getElem (by omega)] at hs
      exact hs (congrArg some h1.symm)
  have hl : r.length = s.length := Nat.le_antisymm (le hr fun i => (e i).symm) (le hs e)
  refine List.ext_getElem hl fun i h1 h2 => ?_
  have := e i
  rwa [co_lt h1, co_lt h2] at this
theorem trim_take {r : Row} {k : Nat} (hk : k ≤ r.length) (h0 : ∀ i, k ≤ i → co r i = zr) (h1 : k = 0 ∨ co r (k - 1) ≠ zr) : r.take k = trim r := by
  refine last_ext ?_ (trim_last r) fun i => ?_
  · rcases h1 with h1 | h1
    · subst h1; simp
    · intro h
      have hk0 : 0 < k := by
        rcases Nat.eq_zero_or_pos k with z | z
        · subst z; simp at h
        · exact z
      rw [List.getLast?_eq_getElem?, List.length_take, Nat.min_eq_left hk, List.getElem?_take_of_lt (by omega), List.getElem?_eq_getElem (by omega)] at h
      rw [co_lt (by omega)] at h1
      exact h1 (Option.some.inj h)
  · rw [congrFun (trim_co r) i]
    by_cases hi : i < k
    · rw [co_lt (by simp; omega), co_lt (by omega)]
      simp
    · rw [co_ge (by simp; omega), h0 i (by omega)]
end Z
namespace Z
open PySem M
theorem eqR_dE (x y : El) (S : Sto) : eqR (dE x) (dE y) S = some (decide (x = y)) := by
  unfold eqR
  simp only [dE, res]
  rw [if_pos ⟨rfl, rfl, rfl⟩]
  exact congrArg some (eqD_dE x y)
theorem eqR_dR (r s : Row) (S : Sto) : eqR (dR r) (dR s) S = some (decide (r = s)) := by
  have h1 := dR_pure r
  have h2 := dR_pure s
  have h3 := flat_dR r
  have h4 := eqD_dR r s
  unfold eqR
  simp only [dR, res] at h1 h2 h3 h4 ⊢
  rw [if_pos ⟨h1, h2, by rw [h3]; rfl⟩, h4]
theorem eqR_int (i j : Int) (S : Sto) : eqR (.int i) (.int j) S = some (decide (i = j)) := by
  unfold eqR
  simp only [res]
  rw [if_pos ⟨rfl, rfl, rfl⟩]
  exact congrArg some (eqv_int i j)
/-- an item of a row -/
theorem at_row {r : Row} {i : Int} (h0 : 0 ≤ i) (h : i < r.length) : atI (r.map dE) i = some (dE (co r i.toNat)) := by
  unfold atI L2.atI L2.ixN
  rw [if_pos h0, if_pos (by simpa using h)]
  have hl : i.toNat < r.length := by omega
  simp [co_lt hl, List.getElem?_eq_getElem hl]
theorem at_int {r : List Int} {i : Int} (h0 : 0 ≤ i) (h : i < r.length) : atI (r.map D.int) i = some (.int (r.getD i.toNat 0)) := by
  unfold atI L2.atI L2.ixN
  rw [if_pos h0, if_pos (by simpa using h)]
  have hl : i.toNat < r.length := by omega
  simp [List.getD_eq_getElem?_getD, List.getElem?_eq_getElem hl]
/-- the last item -/
theorem at_last {r : Row} (h : r ≠ []) : atI (r.map dE) (-1) = some (dE (co r (r.length - 1))) := by
  have hl : 0 < r.length := List.length_pos_iff.mpr h
  unfold atI L2.atI L2.ixN
  rw [if_neg (by decide), if_pos (by simp; omega)]
  have e : (-1 + ((List.map dE r).length : Int)).toNat = r.length - 1 := by simp; omega
  simp only [Option.bind_some, e]
  rw [co_lt (by omega), List.getElem?_map, List.getElem?_eq_getElem (by omega)]; rfl
theorem cut_to {α : Type} {xs : List α} {k : Nat} (h : k ≤ xs.length) : cut xs none (some (k : Int)) = xs.take k := by
  unfold cut
  rw [HT.sIx_none, HT.sIx_nat, Nat.min_eq_left h]
  simp
theorem cut_from {α : Type} {xs : List α} {k : Nat} : cut xs (some (k : Int)) none = xs.drop k := by
  unfold cut
  rw [HT.sIx_none, HT.sIx_nat, List.take_of_length_le (by simp)]
  by_cases h : k ≤ xs.length
  · rw [Nat.min_eq_left h]
  · rw [Nat.min_eq_right (by omega), List.drop_length, List.drop_of_length_le (by omega)]
theorem append_self_none {α : Type} (S : List α) (E : List α) {k : Nat} {x : α} (h : S[k]? = some x) : (S ++ E)[k]? = some x := by
  rw [List.getElem?_append_left (List.getElem?_eq_some_iff.mp h).1]; exact h
end Z
end
section
set_option Elab.async false
set_option linter.all false
set_option autoImplicit false
set_option maxRecDepth 100000
set_option maxHeartbeats 4000000
/-! Y3: stepping through a body. -/
namespace Z
open PySem M
variable {Γ : Calls} {Co : Consts} {s : St} {ss a b : Sts} {ρ ρ1 : Rho} {S S1 : Sto} {d : D} {post : D → Sto → Prop}
/-- the body returns -/
def Ends (Γ : Calls) (Co : Consts) (ss : Sts) (ρ : Rho) (S : Sto) (post : D → Sto → Prop) : Prop := ∃ d S', evSs Γ Co ss ρ S = .rt d S' ∧ post d S'
theorem Ends.seq (ρ1 : Rho) (S1 : Sto) (h : evS Γ Co s ρ S = .nx ρ1 S1) (k : Ends Γ Co ss ρ1 S1 post) : Ends Γ Co (.cons s ss) ρ S post := by
  obtain ⟨d, S', e, p⟩ := k
  exact ⟨d, S', by simp only [evSs, h, F.then_nx, e], p⟩
theorem Ends.set {i : Nat} {e : E} (x : D) (S1 : Sto) (h : evE Γ Co e ρ S = .ok x S1) (k : Ends Γ Co ss (ρ.set i (some x)) S1 post) : Ends Γ Co (.cons (.set i e) ss) ρ S post :=
  Ends.seq _ S1 (by simp only [evS, h, R.toF_ok]) k
theorem Ends.tset {g : G} {e : E} (x : D) (S1 : Sto) (ρ1 : Rho) (h : evE Γ Co e ρ S = .ok x S1) (ha : asg g x ρ = some ρ1) (k : Ends Γ Co ss ρ1 S1 post) : Ends Γ Co (.cons (.tset g e) ss) ρ S post :=
  Ends.seq _ S1 (by simp only [evS, h, R.toF_ok, ha]) k
theorem Ends.par {is : List Nat} {es : Es} (xs : List D) (S1 : Sto) (ρ1 : Rho) (h : evEs Γ Co es ρ S = .ok xs S1) (ha : setAll is xs ρ = some ρ1) (k : Ends Γ Co ss ρ1 S1 post) : Ends Γ Co (.cons (.par is es) ss) ρ S post :=
  Ends.seq _ S1 (by simp only [evS, h, R.toF_ok, ha]) k
theorem Ends.ex {e : E} (x : D) (S1 : Sto) (h : evE Γ Co e ρ S = .ok x S1) (k : Ends Γ Co ss ρ S1 post) : Ends Γ Co (.cons (.ex e) ss) ρ S post :=
  Ends.seq _ S1 (by simp only [evS, h, R.toF_ok]) k
theorem Ends.ret {e : E} (x : D) (S1 : Sto) (h : evE Γ Co e ρ S = .ok x S1) (p : post x S1) : Ends Γ Co (.cons (.ret e) ss) ρ S post :=
  ⟨x, S1, by simp only [evSs, evS, h, R.toF_ok, F.then_rt], p⟩
theorem Ends.iteT {t : T} (S1 : Sto) (h : evT Γ Co t ρ S = .ok true S1) (k : Ends Γ Co a ρ S1 post) : Ends Γ Co (.cons (.ite t a b) ss) ρ S post := by
  obtain ⟨d, S', e, p⟩ := k
  exact ⟨d, S', by simp only [evSs, evS, h, R.toF_ok, if_true, e, F.then_rt], p⟩
theorem Ends.iteF {t : T} (S1 : Sto) (h : evT Γ Co t ρ S = .ok false S1) (k : Ends Γ Co ss ρ S1 post) : Ends Γ Co (.cons (.ite t a .nil) ss) ρ S post := by
  obtain ⟨d, S', e, p⟩ := k
  exact ⟨d, S', by simp only [evSs, evS, h, R.toF_ok, Bool.false_eq_true, if_false, F.then_nx, e], p⟩
theorem Ends.wh {t : T} {bd : Sts} (Inv : Nat → Rho → Sto → Prop) (k0 : Nat) (Post : Rho → Sto → Prop) (h0 : k0 < 2 ^ 80) (hi : Inv k0 ρ S)
    (h : ∀ k ρ S, Inv k ρ S → (∃ S', evT Γ Co t ρ S = .ok false S' ∧ Post ρ S') ∨ (∃ S' ρ2 S2 k', evT Γ Co t ρ S = .ok true S' ∧ (evSs Γ Co bd ρ S' = .nx ρ2 S2 ∨ evSs Γ Co bd ρ S' = .ct ρ2 S2) ∧ k' < k ∧ Inv k' ρ2 S2))
    (k : ∀ ρ1 S1, Post ρ1 S1 → Ends Γ Co ss ρ1 S1 post) : Ends Γ Co (.cons (.wh t bd) ss) ρ S post := by
  obtain ⟨ρ1, S1, h1, h2⟩ := whF_inv (test := evT Γ Co t) (body := fun ρ S => evSs Γ Co bd ρ S) Inv Post h turns k0 ρ S h0 hi
  exact Ends.seq ρ1 S1 (by simp only [evS, h1]) (k ρ1 S1 h2)
theorem Ends.fo {α : Type} {g : G} {it : I} {bd : Sts} (gd : Gd) (f : α → D) (l : List α) (S1 : Sto) (hit : evI Γ Co it ρ S = .ok (gd, l.map f) S1) (Inv : List α → Rho → Sto → Prop) (h0 : Inv [] ρ S1)
    (hs : ∀ pre a post ρ S, l = pre ++ a :: post → Inv pre ρ S → chk gd S = true ∧ ∃ ρa ρ' S', asg g (f a) ρ = some ρa ∧ (evSs Γ Co bd ρa S = .nx ρ' S' ∨ evSs Γ Co bd ρa S = .ct ρ' S') ∧ Inv (pre ++ [a]) ρ' S')
    (hd : ∀ ρ S, Inv l ρ S → chk gd S = true) (k : ∀ ρ1 S1, Inv l ρ1 S1 → Ends Γ Co ss ρ1 S1 post) : Ends Γ Co (.cons (.fo g it bd) ss) ρ S post := by
  obtain ⟨ρ1, S2, h1, h2⟩ := forF_inv (gd := gd) (body := fun x ρ S => match asg g x ρ with
      | none => .bad
      | some ρ => evSs Γ Co bd ρ S) f Inv l (fun pre a post ρ S e hi => by
    obtain ⟨hc, ρa, ρ', S', h1, h2, h3⟩ := hs pre a post ρ S e hi
    exact ⟨hc, ρ', S', by simp only [h1]; exact h2, h3⟩) hd h0
  exact Ends.seq ρ1 S2 (by simp only [evS, hit, R.toF_ok]; exact h1) (k ρ1 S2 h2)
/-- a pure call -/
theorem Rt.by {Co : Consts} {P : Str → Option Fn} {m : Nat} {f : Str} {np nv : Nat} {body : Sts} {ds : List D} {d : D} (hr : ∀ n S, run Co P (n + 1) f ds S = runFn (run Co P n) Co ⟨np, nv, body⟩ ds S) (hl : ds.length = np) (pa : pures ds = true) (pr : d.pure = true)
    (h : ∀ n, m ≤ n → Ends (run Co P n) Co body (ds.map some ++ List.replicate (nv - np) none) [] fun x _ => x = d) : Rt Co P (m + 1) f ds d := by
  refine ⟨pa, pr, fun n hn => ?_⟩
  obtain ⟨k, rfl⟩ : ∃ k, n = k + 1 := ⟨n - 1, by omega⟩
  rw [hr]
  obtain ⟨x, S', e, rfl⟩ := h k (by omega)
  exact ⟨S', by simp only [runFn, hl, if_true, e]⟩
theorem Rs.by {Co : Consts} {P : Str → Option Fn} {m : Nat} {f : Str} {np nv : Nat} {body : Sts} {ds : List D} {d : D} {S : Sto} (hr : ∀ n S, run Co P (n + 1) f ds S = runFn (run Co P n) Co ⟨np, nv, body⟩ ds S) (hl : ds.length = np)
    (h : ∀ n, m ≤ n → Ends (run Co P n) Co body (ds.map some ++ List.replicate (nv - np) none) S fun x S' => x = d ∧ ∃ E, S' = S ++ E) : Rs Co P (m + 1) f ds S d := by
  intro n hn
  obtain ⟨k, rfl⟩ : ∃ k, n = k + 1 := ⟨n - 1, by omega⟩
  rw [hr]
  obtain ⟨x, S', e, rfl, E, rfl⟩ := h k (by omega)
  exact ⟨E, by simp only [runFn, hl, if_true, e]⟩
/-- .. and as a pure one -/
theorem Rs.rt {Co : Consts} {P : Str → Option Fn} {m : Nat} {f : Str} {ds : List D} {d : D} (h : Rs Co P m f ds [] d) (pa : pures ds = true) (pr : d.pure = true) : Rt Co P m f ds d := ⟨pa, pr, fun n hn => by
  obtain ⟨E, e⟩ := h n hn
  exact ⟨_, e⟩⟩
end Z
namespace Z
theorem rangeD_map : ∀ (lo : Int) (n : Nat), rangeD lo n = (List.range n).map fun i : Nat => D.int (lo + i)
  | lo, 0 => rfl
  | lo, n + 1 => by
    rw [rangeD, rangeD_map (lo + 1) n, List.range_succ_eq_map, List.map_cons, List.map_map]
    simp only [Int.natCast_zero, Int.add_zero, List.cons.injEq, true_and]
    refine List.map_congr_left fun i _ => ?_
    simp only [Function.comp, D.int.injEq]
    rw [Nat.succ_eq_add_one]
    omega
theorem range_nat (n : Nat) : rangeD 0 n = (List.range n).map fun i : Nat => D.int i := by
  rw [rangeD_map]
  simp
theorem bnd_nat {n : Nat} (h : n ≤ 100000000) : bndOk (n : Int) := ⟨by omega, by omega⟩
end Z
namespace Z
section
variable {Γ : Calls} {Co : Consts} {e e2 e3 : E} {i j k : Int} {ρ : Rho} {S S1 S2 S3 : Sto}
/- (at an int that is a Nat's cast, evI must not be unfolded: the kernel would count the bounds) -/
theorem evI_r1' (hl : evE Γ Co e ρ S = .ok (.int j) S1) (hb : bndOk j) : evI Γ Co (.range1 e) ρ S = .ok ([], rangeD 0 j.toNat) S1 := by
  simp only [evI, hl, R.bind_ok]
  rw [if_pos hb]
theorem evI_r2' (h1 : evE Γ Co e ρ S = .ok (.int i) S1) (h2 : evE Γ Co e2 ρ S1 = .ok (.int j) S2) (hb : bndOk i ∧ bndOk j) : evI Γ Co (.range2 e e2) ρ S = .ok ([], rangeD i (j - i).toNat) S2 := by
  simp only [evI, h1, h2, R.bind_ok]
  rw [if_pos hb]
theorem evI_r3' (h1 : evE Γ Co e ρ S = .ok (.int i) S1) (h2 : evE Γ Co e2 ρ S1 = .ok (.int j) S2) (h3 : evE Γ Co e3 ρ S2 = .ok (.int k) S3) (hb : bndOk i ∧ bndOk j ∧ k = -1) : evI Γ Co (.range3 e e2 e3) ρ S = .ok ([], stepD (-1) i (i - j).toNat) S3 := by
  simp only [evI, h1, h2, h3, R.bind_ok]
  rw [if_pos hb]
theorem evI_r1 {n : Nat} (hl : evE Γ Co e ρ S = .ok (.int n) S1) (h : n ≤ 100000) : evI Γ Co (.range1 e) ρ S = .ok ([], (List.range n).map fun i : Nat => D.int i) S1 :=
  (evI_r1' hl (bnd_nat (Nat.le_trans h (by decide)))).trans (by rw [← range_nat n]; rfl)
end
end Z
namespace Z
section
variable {Γ : Calls} {Co : Consts} {ρ : Rho} {S S1 : Sto}
/-- [.. for .. in ..] that leaves the store -/
theorem evE_lc {α : Type} {elt : E} {tg : G} {it : I} {own : List Nat} {gd : Gd} (f g : α → D) (l : List α) (hit : evI Γ Co it ρ S = .ok (gd, l.map f) S1) (hc : chk gd S1 = true) (hl : l.length ≤ 100000)
    (h : ∀ a ∈ l, ∃ ρa, asg tg (f a) (wipeR ρ own) = some ρa ∧ evE Γ Co elt ρa S1 = .ok (g a) S1) : evE Γ Co (.lc elt tg it .yes own) ρ S = .ok (.lst S1.length) (S1 ++ [l.map g]) := by
  simp only [evE, hit, R.bind_ok]
  rw [lcF_map (S := S1) f g hc l fun a ha => by
    obtain ⟨ρa, h1, h2⟩ := h a ha
    simp only [h1, evT, R.bind_ok, if_true, h2]]
  simp only [R.bind_ok]
  rw [newL_ok (by simpa using hl)]
  rfl
theorem filterMap_if {α β : Type} (b : α → Bool) (g : α → β) : ∀ l : List α, l.filterMap (fun a => if b a = true then some (g a) else none) = (l.filter b).map g
  | [] => rfl
  | a :: l => by
    rw [List.filterMap_cons, List.filter_cons]
    cases e : b a <;> simp [filterMap_if b g l]
theorem evE_lcF {α : Type} {elt : E} {tg : G} {it : I} {t : T} {own : List Nat} {gd : Gd} (f g : α → D) (b : α → Bool) (l : List α) (hit : evI Γ Co it ρ S = .ok (gd, l.map f) S1) (hc : chk gd S1 = true) (hl : l.length ≤ 100000)
    (h : ∀ a ∈ l, ∃ ρa, asg tg (f a) (wipeR ρ own) = some ρa ∧ evT Γ Co t ρa S1 = .ok (b a) S1 ∧ (b a = true → evE Γ Co elt ρa S1 = .ok (g a) S1)) : evE Γ Co (.lc elt tg it t own) ρ S = .ok (.lst S1.length) (S1 ++ [(l.filter b).map g]) := by
  simp only [evE, hit, R.bind_ok]
  rw [lcF_filter (S := S1) f (fun a => if b a = true then some (g a) else none) hc l fun a ha => by
    obtain ⟨ρa, h1, h2, h3⟩ := h a ha
    simp only [h1, h2, R.bind_ok]
    cases e : b a with
    | false => simp
    | true => simp [h3 e]]
  simp only [R.bind_ok]
  rw [filterMap_if, newL_ok (by simp only [List.length_map]; exact Nat.le_trans (List.length_filter_le _ _) hl)]
  rfl
theorem zipD_map {α β : Type} (f : α → D) (g : β → D) : ∀ (a : List α) (b : List β), zipD (a.map f) (b.map g) = (a.zip b).map fun p => D.tup [f p.1, g p.2]
  | [], _ => by simp [zipD]
  | _ :: _, [] => by simp [zipD]
  | x :: a, y :: b => by simp [zipD, zipD_map f g a b]
theorem enumD_map {α : Type} (f : α → D) : ∀ (k : Int) (a : List α), enumD k (a.map f) = (a.zipIdx).map fun p => D.tup [.int (k + p.2), f p.1]
  | _, [] => by simp [enumD]
  | k, x :: a => by
    rw [List.map_cons, enumD, enumD_map f (k + 1) a, List.zipIdx_cons, List.map_cons]
    simp only [Int.natCast_zero, Int.add_zero, List.cons.injEq, true_and]
    rw [List.zipIdx_succ, List.map_map]
    refine List.map_congr_left fun p _ => ?_
    simp only [Function.comp, D.tup.injEq, List.cons.injEq, D.int.injEq, and_true]
    omega
theorem enum0_map {α : Type} (f : α → D) (a : List α) : enumD 0 (a.map f) = (a.zipIdx).map fun p => D.tup [.int (p.2 : Int), f p.1] := by
  rw [enumD_map]; simp
theorem stepD_map : ∀ (n : Nat) (lo : Int), stepD (-1) lo n = (List.range n).map fun i : Nat => D.int (lo - i)
  | 0, _ => rfl
  | n + 1, lo => by
    rw [stepD, stepD_map n, List.range_succ_eq_map, List.map_cons, List.map_map]
    simp only [Int.natCast_zero, Int.sub_zero, List.cons.injEq, true_and]
    refine List.map_congr_left fun i _ => ?_
    simp only [Function.comp, D.int.injEq]
    rw [Nat.succ_eq_add_one]
    omega
end
end Z
namespace Z
theorem binR_mulL {m : Nat} {k : Int} {xs : List D} {S : Sto} (h : S[m]? = some xs) (h1 : -(2 ^ 63) ≤ k) (h2 : k < 2 ^ 63) : binR .mul (.lst m) (.int k) S = newL (rep k.toNat xs) S := by
  simp only [binR, h]
  rw [if_pos ⟨h1, h2⟩]
theorem rep_one {α : Type} (k : Nat) (x : α) : rep k [x] = List.replicate k x := by
  unfold rep
  induction k with
  | zero => rfl
  | succ k ih => rw [List.replicate_succ, List.flatten_cons, ih, List.replicate_succ]; rfl
theorem binR_addL {m n : Nat} {xs ys : List D} {S : Sto} (h : S[m]? = some xs) (h' : S[n]? = some ys) : binR .add (.lst m) (.lst n) S = newL (xs ++ ys) S := by
  simp only [binR, h, h']
theorem ixR_L {m : Nat} {i : Int} {xs : List D} {x : D} {S : Sto} (h : S[m]? = some xs) (hi : atI xs i = some x) : ixR (.lst m) (.int i) S = .ok x S := by
  simp only [ixR, itemsOf, h, hi, optR_some]
theorem ixR_T {i : Int} {xs : List D} {x : D} {S : Sto} (hi : atI xs i = some x) : ixR (.tup xs) (.int i) S = .ok x S := by
  simp only [ixR, itemsOf, hi, optR_some]
theorem atI_nat {α : Type} {xs : List α} {i : Nat} {x : α} (h : xs[i]? = some x) : atI xs (i : Int) = some x := by
  have hl := (List.getElem?_eq_some_iff.mp h).1
  unfold atI L2.atI L2.ixN
  rw [if_pos (by omega), if_pos (by omega)]
  simpa using h
end Z
namespace Z
theorem Ends.retE {Γ : Calls} {Co : Consts} {ss : Sts} {ρ : Rho} {S : Sto} {post : D → Sto → Prop} {e : E} (x : D) (h : ∃ S1, evE Γ Co e ρ S = .ok x S1) (p : ∀ S1, post x S1) : Ends Γ Co (.cons (.ret e) ss) ρ S post := by
  obtain ⟨S1, h⟩ := h
  exact Ends.ret x S1 h (p S1)
end Z
end
section
set_option Elab.async false
set_option linter.all false
set_option autoImplicit false
set_option maxRecDepth 100000
set_option maxHeartbeats 4000000
namespace Z.K01
open PySem Z M
abbrev Rc := Rt co pf
/-- in the bounds of the multiplications -/
structure Sm (x : El) : Prop where
  a : -(2 ^ 64) < x.1
  b : x.1 < 2 ^ 64
  c : -(2 ^ 64) < x.2
  d : x.2 < 2 ^ 64
theorem mkL {i j : Int} (h : -(2 ^ 64) < i) (h' : i < 2 ^ 64) : mulOk i j := .inl ⟨h, h'⟩
theorem mkR {i j : Int} (h : -(2 ^ 64) < j) (h' : j < 2 ^ 64) : mulOk i j := .inr (.inl ⟨h, h'⟩)
theorem mul1 {x : El} (s : Sm x) (j : Int) : mulOk x.1 j := mkL s.a s.b
theorem mul2 {x : El} (s : Sm x) (j : Int) : mulOk x.2 j := mkL s.c s.d
theorem mul3 {x : El} (s : Sm x) (j : Int) : mulOk j x.1 := mkR s.a s.b
theorem mul4 {x : El} (s : Sm x) (j : Int) : mulOk j x.2 := mkR s.c s.d
section
variable {p c : Int} {iv : List Int}
theorem added_grounds_ok (hp : 0 < p) (x y : El) : Rc 1 "added_grounds" [dG p c, dE x, dE y] (dE (rd p (ad x y))) :=
  Rt.of (fun n S => r_added_grounds n _ S) rfl rfl fun n _ => by simp [runFn, evSs, evS, evE, evEs, evT, evI, evO, ixR, itemsOf, atI, L2.atI, L2.ixN, binR, intB, newT_ok, asg, asgs, b_added_grounds, dG, dE, hp, rd, ad]
theorem often_grounds_ok (hp : 0 < p) {x : El} (hx : Sm x) (k : Int) : Rc 1 "often_grounds" [dG p c, dE x, .int k] (dE (rd p (ml c x (k, 0)))) :=
  Rt.of (fun n S => r_often_grounds n _ S) rfl rfl fun n _ => by simp [runFn, evSs, evS, evE, evEs, evT, evI, evO, ixR, itemsOf, atI, L2.atI, L2.ixN, binR, intB, newT_ok, asg, asgs, b_often_grounds, dG, dE, hp, rd, ml, mul1 hx, mul2 hx]
theorem multiplied_grounds_ok (hp : 0 < p) (hc : -(2 ^ 64) < c) (hc' : c < 2 ^ 64) {x y : El} (hx : Sm x) : Rc 1 "multiplied_grounds" [dG p c, dE x, dE y] (dE (rd p (ml c x y))) :=
  Rt.of (fun n S => r_multiplied_grounds n _ S) rfl rfl fun n _ => by simp [runFn, evSs, evS, evE, evEs, evT, evI, evO, ixR, itemsOf, atI, L2.atI, L2.ixN, binR, intB, newT_ok, asg, asgs, b_multiplied_grounds, dG, dE, hp, rd, ml, mul1 hx, mul2 hx, mkL hc hc']
theorem turned_thing_ok (hp : 0 < p) (hc : -(2 ^ 64) < c) (hc' : c < 2 ^ 64) (x : El) : Rc 1 "turned_thing" [dG p c, dE x] (dE (rd p (cj c x))) :=
  Rt.of (fun n S => r_turned_thing n _ S) rfl rfl fun n _ => by simp [runFn, evSs, evS, evE, evEs, evT, evI, evO, ixR, itemsOf, atI, L2.atI, L2.ixN, binR, intB, newT_ok, asg, asgs, b_turned_thing, dG, dE, hp, rd, cj, mkL hc hc']
def nm (c : Int) (x : El) : Int := x.1 * x.1 - c * (x.1 * x.2) + x.2 * x.2
theorem norm_number_ok (hp : 0 < p) (hc : -(2 ^ 64) < c) (hc' : c < 2 ^ 64) {x : El} (hx : Sm x) : Rc 1 "norm_number" [dG p c, dE x] (.int (nm c x % p)) :=
  Rt.of (fun n S => r_norm_number n _ S) rfl rfl fun n _ => by
    simp [runFn, evSs, evS, evE, evEs, evT, evI, evO, ixR, itemsOf, atI, L2.atI, L2.ixN, binR, intB, newT_ok, asg, asgs, b_norm_number, dG, dE, hp, rd, nm, mkL hc hc', mul1 hx, mul2 hx]
    congr 1; grind
end
end Z.K01
namespace Z.K01
open PySem Z M
section
variable {p c : Int} {iv : List Int}
theorem law_plus_ok (hp : 0 < p) (x y : El) : Rc 1 "_law_plus" [dF p c iv, dE x, dE y] (dE (rd p (ad x y))) :=
  Rt.of (fun n S => r__law_plus n _ S) (by simp [runFn, evSs, evS, evE, evEs, evT, evI, evO, ixR, itemsOf, atI, L2.atI, L2.ixN, binR, intB, newT_ok, asg, asgs, dF, pures, D.pure]) rfl fun n _ => by simp [runFn, evSs, evS, evE, evEs, evT, evI, evO, ixR, itemsOf, atI, L2.atI, L2.ixN, binR, intB, newT_ok, asg, asgs, b__law_plus, dF, dI, dE, hp, rd, ad]
theorem law_less_ok (hp : 0 < p) (x y : El) : Rc 1 "_law_less" [dF p c iv, dE x, dE y] (dE (rd p (sb x y))) :=
  Rt.of (fun n S => r__law_less n _ S) (by simp [runFn, evSs, evS, evE, evEs, evT, evI, evO, ixR, itemsOf, atI, L2.atI, L2.ixN, binR, intB, newT_ok, asg, asgs, dF, pures, D.pure]) rfl fun n _ => by simp [runFn, evSs, evS, evE, evEs, evT, evI, evO, ixR, itemsOf, atI, L2.atI, L2.ixN, binR, intB, newT_ok, asg, asgs, b__law_less, dF, dI, dE, hp, rd, sb]
theorem law_by_ok (hp : 0 < p) (hc : -(2 ^ 64) < c) (hc' : c < 2 ^ 64) {x y : El} (hx : Sm x) : Rc 1 "_law_by" [dF p c iv, dE x, dE y] (dE (rd p (ml c x y))) :=
  Rt.of (fun n S => r__law_by n _ S) (by simp [runFn, evSs, evS, evE, evEs, evT, evI, evO, ixR, itemsOf, atI, L2.atI, L2.ixN, binR, intB, newT_ok, asg, asgs, dF, pures, D.pure]) rfl fun n _ => by simp [runFn, evSs, evS, evE, evEs, evT, evI, evO, ixR, itemsOf, atI, L2.atI, L2.ixN, binR, intB, newT_ok, asg, asgs, b__law_by, dF, dI, dE, hp, rd, ml, mul1 hx, mul2 hx, mkL hc hc']
theorem law_often_ok (hp : 0 < p) {x : El} (hx : Sm x) (k : Int) : Rc 1 "_law_often" [dF p c iv, dE x, .int k] (dE (rd p (ml c x (k, 0)))) :=
  Rt.of (fun n S => r__law_often n _ S) (by simp [runFn, evSs, evS, evE, evEs, evT, evI, evO, ixR, itemsOf, atI, L2.atI, L2.ixN, binR, intB, newT_ok, asg, asgs, dF, pures, D.pure]) rfl fun n _ => by simp [runFn, evSs, evS, evE, evEs, evT, evI, evO, ixR, itemsOf, atI, L2.atI, L2.ixN, binR, intB, newT_ok, asg, asgs, b__law_often, dF, dI, dE, hp, rd, ml, mul1 hx, mul2 hx]
theorem law_turned_ok (hp : 0 < p) (hc : -(2 ^ 64) < c) (hc' : c < 2 ^ 64) (x : El) : Rc 1 "_law_turned" [dF p c iv, dE x] (dE (rd p (cj c x))) :=
  Rt.of (fun n S => r__law_turned n _ S) (by simp [runFn, evSs, evS, evE, evEs, evT, evI, evO, ixR, itemsOf, atI, L2.atI, L2.ixN, binR, intB, newT_ok, asg, asgs, dF, pures, D.pure]) rfl fun n _ => by simp [runFn, evSs, evS, evE, evEs, evT, evI, evO, ixR, itemsOf, atI, L2.atI, L2.ixN, binR, intB, newT_ok, asg, asgs, b__law_turned, dF, dI, dE, hp, rd, cj, mkL hc hc']
theorem law_norm_ok (hp : 0 < p) (hc : -(2 ^ 64) < c) (hc' : c < 2 ^ 64) {x : El} (hx : Sm x) : Rc 1 "_law_norm" [dF p c iv, dE x] (.int (nm c x % p)) :=
  Rt.of (fun n S => r__law_norm n _ S) (by simp [runFn, evSs, evS, evE, evEs, evT, evI, evO, ixR, itemsOf, atI, L2.atI, L2.ixN, binR, intB, newT_ok, asg, asgs, dF, pures, D.pure]) rfl fun n _ => by
    simp [runFn, evSs, evS, evE, evEs, evT, evI, evO, ixR, itemsOf, atI, L2.atI, L2.ixN, binR, intB, newT_ok, asg, asgs, b__law_norm, dF, dI, dE, hp, nm, mkL hc hc', mul1 hx, mul2 hx, mul4 hx]
    congr 1; grind
end
end Z.K01
end
section
set_option Elab.async false
set_option linter.all false
set_option autoImplicit false
set_option maxRecDepth 100000
set_option maxHeartbeats 4000000
namespace Z.K01
open PySem Z M
theorem co_NOUGHT : co "NOUGHT" = some (dE zr) := by kernel_rfl
theorem co_ONE : co "ONE" = some (dE (1, 0)) := by kernel_rfl
theorem co_ONE_ROW : co "ONE_ROW" = some (dR [(1, 0)]) := by kernel_rfl
/-- a row as a tuple or as a list of the store -/
def IsRow (S : Sto) (d : D) (r : Row) : Prop := d = dR r ∨ ∃ k, d = .lst k ∧ S[k]? = some (r.map dE)
theorem IsRow.items {S : Sto} {d : D} {r : Row} (h : IsRow S d r) : itemsOf S d = some (r.map dE) := by
  rcases h with rfl | ⟨k, rfl, h⟩
  · rfl
  · exact h
theorem IsRow.len {S : Sto} {d : D} {r : Row} (h : IsRow S d r) : biR .len [d] S = .ok (.int r.length) S := by
  rcases h with rfl | ⟨k, rfl, h⟩
  · simp [evE, evEs, evT, evI, evO, binR, intB, asg, asgs, cmpR, truthR, biR, dR, itemsOf]
  · simp [evE, evEs, evT, evI, evO, binR, intB, asg, asgs, cmpR, truthR, biR, h, itemsOf]
theorem IsRow.ix {S : Sto} {d : D} {r : Row} (h : IsRow S d r) {i : Int} (h0 : 0 ≤ i) (hi : i < r.length) : ixR d (.int i) S = .ok (dE (M.co r i.toNat)) S := by
  unfold ixR
  simp only [h.items, at_row h0 hi, optR_some]
theorem IsRow.tupTo {S : Sto} {d : D} {r : Row} (h : IsRow S d r) {k : Nat} (hk : k ≤ r.length) (hl : r.length ≤ 100000) : ∃ E x, slR d none (some (k : Int)) S = .ok x (S ++ E) ∧ biR .tuple [x] (S ++ E) = .ok (dR (r.take k)) (S ++ E) := by
  rcases h with rfl | ⟨j, rfl, h⟩
  · refine ⟨[], .tup (cut (r.map dE) none (some (k : Int))), ?_, ?_⟩
    · simp only [dR, slR, List.append_nil]
    · rw [cut_to (by simpa using hk)]
      simp [evE, evEs, evT, evI, evO, binR, intB, asg, asgs, cmpR, truthR, biR, dR, List.map_take]
  · refine ⟨[(r.map dE).take k], .lst S.length, ?_, ?_⟩
    · simp only [slR, h]
      rw [cut_to (by simpa using hk), newL_ok (by simp [evE, evEs, evT, evI, evO, binR, intB, asg, asgs, cmpR, truthR]; omega)]
    · simp [evE, evEs, evT, evI, evO, binR, intB, asg, asgs, cmpR, truthR, biR, dR, itemsOf, List.map_take]
theorem row_trimmed_ok {S : Sto} {d : D} {r : Row} (h : IsRow S d r) (hl : r.length ≤ 100000) : Rs co pf 1 "row_trimmed" [d] S (dR (trim r)) := by
  refine Rs.by (fun n S => r_row_trimmed n _ S) rfl fun n hn => ?_
  unfold b_row_trimmed
  refine Ends.set (.int r.length) S (by simp [evE, evEs, evT, evI, evO, binR, intB, asg, asgs, cmpR, truthR, h.len]) ?_
  refine Ends.wh (fun k ρ S' => S' = S ∧ ρ = [some d, some (.int k)] ∧ k ≤ r.length ∧ ∀ i, k ≤ i → M.co r i = zr) r.length
    (fun ρ S' => ∃ k : Nat, S' = S ∧ ρ = [some d, some (.int k)] ∧ k ≤ r.length ∧ (∀ i, k ≤ i → M.co r i = zr) ∧ (k = 0 ∨ M.co r (k - 1) ≠ zr)) (by omega) ⟨rfl, rfl, Nat.le_refl _, fun i hi => co_ge hi⟩ ?_ ?_
  · rintro k ρ S' ⟨rfl, rfl, hk, hz⟩
    by_cases hk0 : k = 0
    · left
      subst hk0
      exact ⟨S', by simp [evE, evEs, evT, evI, evO, binR, intB, asg, asgs, cmpR, truthR], 0, rfl, rfl, hk, hz, .inl rfl⟩
    · have e1 : ixR d (.int ((k : Int) - 1)) S' = .ok (dE (M.co r (k - 1))) S' := by
        rw [h.ix (by omega) (by omega), show ((k : Int) - 1).toNat = k - 1 by omega]
      have e2 : 0 < k := by omega
      by_cases hx : M.co r (k - 1) = zr
      · right
        refine ⟨S', [some d, some (.int ((k - 1 : Nat) : Int))], S', k - 1, by simp [evE, evEs, evT, evI, evO, binR, intB, asg, asgs, cmpR, truthR, e1, e2, co_NOUGHT, eqR_dE, hx], .inl (by simp [evE, evEs, evT, evI, evO, binR, intB, asg, asgs, cmpR, truthR, evSs, evS, augR]; omega), by omega, rfl, rfl, by omega, ?_⟩
        intro i hi
        by_cases hi2 : i = k - 1
        · rw [hi2]; exact hx
        · exact hz i (by omega)
      · left
        exact ⟨S', by simp [evE, evEs, evT, evI, evO, binR, intB, asg, asgs, cmpR, truthR, e1, e2, co_NOUGHT, eqR_dE, hx], k, rfl, rfl, hk, hz, .inr hx⟩
  · rintro ρ1 S1 ⟨k, rfl, rfl, hk, hz, h3⟩
    obtain ⟨E, x, h1, h2⟩ := h.tupTo hk hl
    rw [← trim_take hk hz h3]
    exact Ends.ret _ _ (by simp [evE, evEs, evT, evI, evO, binR, intB, asg, asgs, cmpR, truthR, h1, h2]) ⟨rfl, E, rfl⟩
theorem law_trim_ok {S : Sto} {d : D} {r : Row} (h : IsRow S d r) (hl : r.length ≤ 100000) : Rs co pf 1 "_law_trim" [d] S (dR (trim r)) := by
  refine Rs.by (fun n S => r__law_trim n _ S) rfl fun n hn => ?_
  unfold b__law_trim
  refine Ends.set (.int r.length) S (by simp [evE, evEs, evT, evI, evO, binR, intB, asg, asgs, cmpR, truthR, h.len]) ?_
  refine Ends.fo [] (fun i : Nat => D.int i) (List.range r.length) S (evI_r1 (by simp [evE, evEs, evT, evI, evO, binR, intB, asg, asgs, cmpR, truthR, h.len]) (by omega))
    (fun pre ρ S' => ∃ (k : Nat) (o : Option D), S' = S ∧ ρ = [some d, some (.int k), o] ∧ k ≤ r.length ∧ (∀ i, k ≤ i → M.co r i = zr) ∧ (k + pre.length ≤ r.length ∨ k = 0 ∨ M.co r (k - 1) ≠ zr)) ?_ ?_ (fun _ _ _ => rfl) ?_
  · exact ⟨r.length, _, rfl, rfl, Nat.le_refl _, fun i hi => co_ge hi, .inl (by simp [evE, evEs, evT, evI, evO, binR, intB, asg, asgs, cmpR, truthR])⟩
  · rintro pre a post ρ S' e ⟨k, o, rfl, rfl, hk, hz, hp⟩
    refine ⟨rfl, [some d, some (.int k), some (.int a)], ?_⟩
    by_cases hk0 : k = 0
    · subst hk0
      exact ⟨_, S', by simp [evE, evEs, evT, evI, evO, binR, intB, asg, asgs, cmpR, truthR], .inl (by simp [evE, evEs, evT, evI, evO, binR, intB, asg, asgs, cmpR, truthR, evSs, evS]; rfl), 0, _, rfl, rfl, hk, hz, .inr (.inl rfl)⟩
    · have e1 : ixR d (.int ((k : Int) - 1)) S' = .ok (dE (M.co r (k - 1))) S' := by
        rw [h.ix (by omega) (by omega), show ((k : Int) - 1).toNat = k - 1 by omega]
      have e2 : 0 < k := by omega
      have e3 : eqR (dE (M.co r (k - 1))) (.tup [.int 0, .int 0]) S' = some (decide (M.co r (k - 1) = zr)) := eqR_dE _ zr S'
      by_cases hx : M.co r (k - 1) = zr
      · refine ⟨[some d, some (.int ((k - 1 : Nat) : Int)), some (.int a)], S', by simp [evE, evEs, evT, evI, evO, binR, intB, asg, asgs, cmpR, truthR], .inl (by simp [evE, evEs, evT, evI, evO, binR, intB, asg, asgs, cmpR, truthR, evSs, evS, augR, e1, e2, eqR_dE zr zr S', show eqR (dE zr) (.tup [.int 0, .int 0]) S' = some true from eqR_dE zr zr S', hx, newT_ok]; omega), k - 1, _, rfl, rfl, by omega, ?_, ?_⟩
        · intro i hi
          by_cases hi2 : i = k - 1
          · rw [hi2]; exact hx
          · exact hz i (by omega)
        · rcases hp with hp | hp | hp
          · left; simp [evE, evEs, evT, evI, evO, binR, intB, asg, asgs, cmpR, truthR]; omega
          · exact absurd hp hk0
          · exact absurd hx hp
      · exact ⟨[some d, some (.int k), some (.int a)], S', by simp [evE, evEs, evT, evI, evO, binR, intB, asg, asgs, cmpR, truthR], .inl (by simp [evE, evEs, evT, evI, evO, binR, intB, asg, asgs, cmpR, truthR, evSs, evS, e1, e2, e3, hx, newT_ok]), k, _, rfl, rfl, hk, hz, .inr (.inr hx)⟩
  · rintro ρ1 S1 ⟨k, o, rfl, rfl, hk, hz, h3⟩
    obtain ⟨E, x, h1, h2⟩ := h.tupTo hk hl
    have h4 : k = 0 ∨ M.co r (k - 1) ≠ zr := by
      rcases h3 with h3 | h3
      · left; simp [evE, evEs, evT, evI, evO, binR, intB, asg, asgs, cmpR, truthR] at h3; omega
      · exact h3
    rw [← trim_take hk hz h4]
    exact Ends.ret _ _ (by simp [evE, evEs, evT, evI, evO, binR, intB, asg, asgs, cmpR, truthR, h1, h2]) ⟨rfl, E, rfl⟩
end Z.K01
end
section
set_option Elab.async false
set_option linter.all false
set_option autoImplicit false
set_option maxRecDepth 100000
set_option maxHeartbeats 4000000
namespace Z.K01
open PySem Z M
def gi (iv : List Int) (n : Nat) : Int := iv.getD n 0
/-- what is known of a prime -/
structure Gr (p c : Int) (iv : List Int) : Prop where
  p1 : 5 ≤ p
  p2 : p ≤ 97
  c0 : 0 ≤ c
  c1 : c < p
  len : iv.length = p.toNat
  ground : Rc 3 "ground_of" [.int p] (dG p c)
  field : Rc 1 "_law_field" [.int p] (dF p c iv)
  inv : ∀ n : Int, 0 ≤ n → n < p → Rc 1 "inverse" [.int p, .int n] (.int (gi iv n.toNat))
  unit : ∀ n : Int, 0 < n → n < p → (n * gi iv n.toNat) % p = 1
  norm : ∀ x : El, rd p x = x → x ≠ zr → nm c x % p ≠ 0
  ivr : ∀ n : Nat, 0 ≤ gi iv n ∧ gi iv n < p
theorem map_at' {α β : Type} {f g : α → β} {l : List α} (h : l.map f = l.map g) {x : α} (hx : x ∈ l) : f x = g x := Tab.map_at h x hx
theorem rd_range {p : Int} (hp : 0 < p) {x : El} (h : rd p x = x) : (0 ≤ x.1 ∧ x.1 < p) ∧ (0 ≤ x.2 ∧ x.2 < p) := by
  have h1 : x.1 % p = x.1 := congrArg Prod.fst h
  have h2 : x.2 % p = x.2 := congrArg Prod.snd h
  have a := Int.emod_nonneg x.1 (show p ≠ 0 by omega)
  have b := Int.emod_lt_of_pos x.1 hp
  have c := Int.emod_nonneg x.2 (show p ≠ 0 by omega)
  have d := Int.emod_lt_of_pos x.2 hp
  omega
theorem rc_of_all {f : Str} {ds : List D} {d : D} {k : Nat} (pa : pures ds = true) (pr : d.pure = true) (h : ∀ m, valR (run co pf (m + k) f ds []) = some d) : Rc k f ds d := ⟨pa, pr, fun n hn => by
  obtain ⟨m, rfl⟩ : ∃ m, n = m + k := ⟨n - k, by omega⟩
  exact valR_ex (h m)⟩
theorem powm_range {p : Int} (hp : 1 < p) : ∀ (k : Nat) (b a : Int), 0 ≤ powm p k b a ∧ powm p k b a < p
  | 0, b, a => by unfold powm; omega
  | k + 1, b, a => by
    unfold powm
    exact ⟨Int.emod_nonneg _ (by omega), Int.emod_lt_of_pos _ (by omega)⟩
theorem ivs_get {p : Int} {n : Nat} (h : n < p.toNat) : gi (ivs p) n = ivOf p n := by
  unfold gi ivs
  rw [List.getD_eq_getElem?_getD, List.getElem?_map, List.getElem?_range h]
  rfl
theorem cOf_range {p : Int} (hp : 0 < p) : 0 ≤ cOf p ∧ cOf p < p := by
  unfold cOf
  cases e : (List.range p.toNat).find? fun c : Nat => !((List.range p.toNat).any fun e : Nat => ((e : Int) * (e : Int)) % p == ((c : Int) * (c : Int) - 4) % p) with
  | none => simp [runFn, evSs, evS, evE, evEs, evT, evI, evO, ixR, itemsOf, atI, L2.atI, L2.ixN, binR, intB, newT_ok, asg, asgs]; omega
  | some c =>
    have := List.mem_of_find?_eq_some e
    simp only [List.mem_range] at this
    simp [runFn, evSs, evS, evE, evEs, evT, evI, evO, ixR, itemsOf, atI, L2.atI, L2.ixN, binR, intB, newT_ok, asg, asgs]
    omega
theorem gr_of {p : Int} (h : p ∈ primes) : Gr p (cOf p) (ivs p) := by
  have hp : 5 ≤ p ∧ p ≤ 97 := by
    simp only [primes, List.mem_cons, List.not_mem_nil, or_false] at h
    omega
  have hc := cOf_range (p := p) (by omega)
  have hl : (ivs p).length = p.toNat := by unfold ivs; simp [runFn, evSs, evS, evE, evEs, evT, evI, evO, ixR, itemsOf, atI, L2.atI, L2.ixN, binR, intB, newT_ok, asg, asgs]
  refine ⟨hp.1, hp.2, hc.1, hc.2, hl, rc_of_all rfl rfl fun m => map_at' (ground_all m) h, rc_of_all rfl ?_ fun m => map_at' (field_all m) h, fun n h0 h1 => ?_, fun n h0 h1 => ?_, fun x hx hne => ?_, fun n => ?_⟩
  · simp [runFn, evSs, evS, evE, evEs, evT, evI, evO, ixR, itemsOf, atI, L2.atI, L2.ixN, binR, intB, newT_ok, asg, asgs, dF, D.pure, pures]
  · have hn : n.toNat < p.toNat := by omega
    refine rc_of_all rfl rfl fun m => ?_
    have e := map_at' (inv_all m) h
    have e2 := congrArg (fun l : List (Option D) => l[n.toNat]?) e
    simp only [List.getElem?_map, List.getElem?_range hn, Option.map_some] at e2
    rw [List.getElem?_eq_getElem (by omega)] at e2
    simp only [Option.map_some, Option.some.injEq] at e2
    rw [show ((n.toNat : Nat) : Int) = n by omega] at e2
    unfold gi
    rw [e2, List.getD_eq_getElem?_getD, List.getElem?_eq_getElem (by omega)]
    rfl
  · have e := List.all_eq_true.mp unit_all p h
    have e2 := List.all_eq_true.mp e n.toNat (List.mem_range.mpr (by omega))
    rw [ivs_get (by omega)]
    simp only [Bool.or_eq_true, beq_iff_eq] at e2
    rcases e2 with e2 | e2
    · omega
    · rw [show ((n.toNat : Nat) : Int) = n by omega] at e2 ⊢
      exact e2
  · have r := rd_range (p := p) (by omega) hx
    have e := List.all_eq_true.mp norm_all p h
    have e2 := List.all_eq_true.mp e x.1.toNat (List.mem_range.mpr (by omega))
    have e3 := List.all_eq_true.mp e2 x.2.toNat (List.mem_range.mpr (by omega))
    simp only [Bool.or_eq_true, Bool.and_eq_true, beq_iff_eq, bne_iff_ne] at e3
    rw [show ((x.1.toNat : Nat) : Int) = x.1 by omega, show ((x.2.toNat : Nat) : Int) = x.2 by omega] at e3
    rcases e3 with ⟨a, b⟩ | e3
    · exact absurd (Prod.ext (by show x.1 = 0; omega) (by show x.2 = 0; omega)) hne
    · exact e3
  · by_cases hn : n < p.toNat
    · rw [ivs_get hn]
      exact powm_range (by omega) _ _ _
    · unfold gi
      rw [List.getD_eq_getElem?_getD, List.getElem?_eq_none (by omega)]
      simp [runFn, evSs, evS, evE, evEs, evT, evI, evO, ixR, itemsOf, atI, L2.atI, L2.ixN, binR, intB, newT_ok, asg, asgs]; omega
section
variable {p c : Int} {iv : List Int}
theorem Gr.pp (G : Gr p c iv) : 0 < p := by have := G.p1; omega
theorem Gr.ca (G : Gr p c iv) : -(2 ^ 64) < c := by have := G.c0; omega
theorem Gr.cb (G : Gr p c iv) : c < 2 ^ 64 := by have := G.c1; have := G.p2; omega
theorem Gr.sm (G : Gr p c iv) {x : El} (h : rd p x = x) : Sm x := by
  have := rd_range G.pp h
  have := G.p2
  exact ⟨by omega, by omega, by omega, by omega⟩
theorem Gr.rr (G : Gr p c iv) (x : El) : rd p (rd p x) = rd p x := rd_rd G.pp
/-- the inverse -/
def bk (p c : Int) (iv : List Int) (x : El) : El := rd p (ml c (rd p (cj c x)) (gi iv (nm c x % p).toNat, 0))
theorem bk_rd (G : Gr p c iv) (x : El) : rd p (bk p c iv x) = bk p c iv x := G.rr _
theorem Q_int {p a b : Int} (h : a % p = b % p) : Q p (a, 0) (b, 0) := rd_Q (by simp only [rd, h])
theorem bk_inv (G : Gr p c iv) {x : El} (hx : rd p x = x) (hne : x ≠ zr) : Q p (ml c x (bk p c iv x)) (1, 0) := by
  have hn := G.norm x hx hne
  have h0 := Int.emod_nonneg (nm c x) (show p ≠ 0 by have := G.p1; omega)
  have h1 := Int.emod_lt_of_pos (nm c x) G.pp
  have hu := G.unit (nm c x % p) (by omega) h1
  have e1 : Q p (ml c x (bk p c iv x)) (ml c x (ml c (cj c x) (gi iv (nm c x % p).toNat, 0))) := Q.refl.ml (Q.rd.trans (Q.rd.ml Q.refl))
  refine e1.trans ?_
  have e2 : ml c x (ml c (cj c x) (gi iv (nm c x % p).toNat, 0)) = (nm c x * gi iv (nm c x % p).toNat, 0) := by
    simp only [ml, cj, nm]; ext <;> simp [runFn, evSs, evS, evE, evEs, evT, evI, evO, ixR, itemsOf, atI, L2.atI, L2.ixN, binR, intB, newT_ok, asg, asgs] <;> grind
  rw [e2]
  refine Q_int ?_
  generalize gi iv (nm c x % p).toNat = v at hu
  rw [Int.mul_emod, ← Int.emod_emod_of_dvd (nm c x) (Int.dvd_refl p), ← Int.mul_emod, hu]
  have := G.p1
  exact (Int.emod_eq_of_lt (by omega) (by omega)).symm
theorem inverted_ok (G : Gr p c iv) {x : El} (hx : rd p x = x) : Rc 2 "inverted" [dG p c, dE x] (dE (bk p c iv x)) :=
  Rt.of (fun n S => r_inverted n _ S) rfl rfl fun n hn => by
    have h1 := (turned_thing_ok (c := c) G.pp G.ca G.cb x).call hn
    have h2 := (norm_number_ok (p := p) (c := c) G.pp G.ca G.cb (G.sm hx)).call hn
    have h3 := (G.inv (nm c x % p) (Int.emod_nonneg _ (by have := G.p1; omega)) (Int.emod_lt_of_pos _ G.pp)).call hn
    have h4 := (often_grounds_ok (p := p) (c := c) G.pp (G.sm (G.rr (cj c x))) (gi iv (nm c x % p).toNat)).call hn
    simp only [dG] at h1 h2 h3 h4
    simp only [b_inverted, runFn, evSs, evS, evE, evEs, dG, List.map_cons, List.map_nil, List.cons_append, List.getElem?_cons_zero, List.getElem?_cons_succ, R.bind_ok, h1, h2]
    simp [runFn, evSs, evS, evE, evEs, evT, evI, evO, ixR, itemsOf, atI, L2.atI, L2.ixN, binR, intB, newT_ok, asg, asgs, h3, h4, bk]
theorem law_back_ok (G : Gr p c iv) {x : El} (hx : rd p x = x) : Rc 2 "_law_back" [dF p c iv, dE x] (dE (bk p c iv x)) :=
  Rt.by (fun n S => r__law_back n _ S) rfl (by simp [runFn, evSs, evS, evE, evEs, evT, evI, evO, ixR, itemsOf, atI, L2.atI, L2.ixN, binR, intB, newT_ok, asg, asgs, dF, pures, D.pure]) rfl fun n hn => by
    have h1 := (law_turned_ok (c := c) (iv := iv) G.pp G.ca G.cb x).call hn
    have h2 := (law_norm_ok (p := p) (c := c) (iv := iv) G.pp G.ca G.cb (G.sm hx)).call hn
    have h4 := (law_often_ok (p := p) (c := c) (iv := iv) G.pp (G.sm (G.rr (cj c x))) (gi iv (nm c x % p).toNat)).call hn
    have a := Int.emod_nonneg (nm c x) (show p ≠ 0 by have := G.p1; omega)
    have b := Int.emod_lt_of_pos (nm c x) G.pp
    have h3 : ∀ S, ixR (dI iv) (.int (nm c x % p)) S = .ok (.int (gi iv (nm c x % p).toNat)) S := fun S => by
      simp only [ixR, itemsOf, dI]
      rw [at_int a (by have := G.len; omega)]; rfl
    have h5 : ∀ S, ixR (dF p c iv) (.int 2) S = .ok (dI iv) S := fun S => rfl
    unfold b__law_back
    refine Ends.ret (dE (bk p c iv x)) [] ?_ rfl
    simp only [evE, evEs, List.map_cons, List.map_nil, List.cons_append, List.nil_append, List.getElem?_cons_zero, List.getElem?_cons_succ, R.bind_ok, h1, h2, h5, h3, h4]
    rfl
end
end Z.K01
end
section
set_option Elab.async false
set_option linter.all false
set_option autoImplicit false
/-! M3: what the program's row functions compute. -/
namespace M
variable {p c : Int}
def Red (p : Int) (r : Row) : Prop := ∀ x ∈ r, rd p x = x
def addL (p : Int) (a b : Row) : Row := (a.zip b).map (fun q => rd p (ad q.1 q.2)) ++ a.drop b.length
theorem co_addL : ∀ {a b : Row}, b.length ≤ a.length → PE p (co (addL p a b)) (sad (co a) (co b))
  | a, [], _ => fun i => by
    have : addL p a [] = a := by simp [addL]
    rw [this]
    simp only [sad, co_nil, ad_zr]
    exact Q.refl
  | [], y :: b, h => by simp at h
  | x :: a, y :: b, h => fun i => by
    have ih := co_addL (a := a) (b := b) (by simpa using h)
    have e : addL p (x :: a) (y :: b) = rd p (ad x y) :: addL p a b := by simp [addL]
    rw [e]
    cases i with
    | zero => simp only [co, sad, List.getD_cons_zero]; exact Q.rd
    | succ i => have := ih i; simpa [co, sad] using this
theorem addL_red (hp : 0 < p) {a b : Row} (ha : Red p a) : Red p (addL p a b) := fun x hx => by
  unfold addL at hx
  rcases List.mem_append.mp hx with h | h
  · simp only [List.mem_map] at h
    obtain ⟨q, _, rfl⟩ := h
    exact rd_rd hp
  · exact ha x (List.mem_of_mem_drop h)
theorem addL_len {a b : Row} (h : b.length ≤ a.length) : (addL p a b).length = a.length := by
  unfold addL; simp; omega
/-- the sum, canonical -/
def addR (p : Int) (a b : Row) : Row := trim (if a.length < b.length then addL p b a else addL p a b)
theorem addR_can (hp : 0 < p) {a b : Row} (ha : Red p a) (hb : Red p b) : Can p (addR p a b) := by
  unfold addR
  split
  · exact can_trim (addL_red hp hb)
  · exact can_trim (addL_red hp ha)
theorem addR_co {a b : Row} : PE p (co (addR p a b)) (sad (co a) (co b)) := by
  unfold addR
  rw [trim_co]
  split
  · refine (co_addL (by omega)).trans (PE.of_eq ?_)
    funext i; simp [sad, ad_comm]
  · exact co_addL (by omega)
/-- any canonical row with those places is it -/
theorem can_eq {f : Sq} {r s : Row} (hr : Can p r) (hs : Can p s) (h1 : PE p (co r) f) (h2 : PE p (co s) f) : r = s := can_ext hr hs (h1.trans h2.symm)
theorem co_map_range (f : Nat → El) (n : Nat) (i : Nat) : co ((List.range n).map f) i = if i < n then f i else zr := by
  split
  · rename_i h
    rw [co_lt (by simpa using h)]
    simp
  · rename_i h
    rw [co_ge (by simpa using h)]
theorem Can.red' {r : Row} (h : Can p r) : Red p r := h.red
theorem rd_co (hp : 0 < p) {r : Row} (h : Red p r) (i : Nat) : rd p (co r i) = co r i := by
  by_cases hi : i < r.length
  · rw [co_lt hi]; exact h _ (List.getElem_mem hi)
  · rw [co_ge (Nat.le_of_not_lt hi)]; simp [rd]
/-- the other's sum -/
def addR2 (p : Int) (a b : Row) : Row := trim ((List.range (max a.length b.length)).map fun i => rd p (ad (co a i) (co b i)))
theorem addR2_eq (hp : 0 < p) {a b : Row} (ha : Red p a) (hb : Red p b) : addR2 p a b = addR p a b := by
  refine can_eq (can_trim fun x hx => ?_) (addR_can hp ha hb) ?_ addR_co
  · simp only [List.mem_map] at hx
    obtain ⟨i, _, rfl⟩ := hx
    exact rd_rd hp
  · intro i
    unfold addR2
    rw [trim_co, co_map_range]
    split
    · exact Q.rd
    · rename_i h
      rw [sad, co_ge (r := a) (by omega), co_ge (r := b) (by omega), ad_zr]
      exact Q.refl
end M
namespace M
variable {p c : Int}
theorem co_snoc (r : Row) (y : El) : co (r ++ [y]) = fun i => if i = r.length then y else co r i := by
  funext i
  split
  · rename_i h
    subst h
    rw [co_lt (by simp), List.getElem_append_right (by omega)]
    simp
  · rename_i h
    by_cases hi : i < r.length
    · rw [co_lt (by simp; omega), co_lt hi, List.getElem_append_left hi]
    · rw [co_ge (by simp; omega), co_ge (by omega)]
/-- the partial product grows by one place -/
theorem part_snoc (f : Sq) (n : Nat) (x y : El) (b : Row) : sad f (sXn n (sml c x (co (b ++ [y])))) = fun i => if i = n + b.length then ad (sad f (sXn n (sml c x (co b))) i) (ml c x y) else sad f (sXn n (sml c x (co b))) i := by
  funext i
  rw [co_snoc]
  simp only [sad, sXn, sml]
  by_cases h : n ≤ i
  · rw [if_pos h, if_pos h]
    by_cases h2 : i = n + b.length
    · rw [if_pos h2, if_pos (by omega)]
      have : co b (i - n) = zr := co_ge (by omega)
      rw [this, ml_zr, ad_zr]
    · rw [if_neg h2, if_neg (by omega)]
  · rw [if_neg h, if_neg h, if_neg (by omega)]
theorem part_nil (f : Sq) (n : Nat) (x : El) : sad f (sXn n (sml c x (co []))) = f := by
  funext i
  simp only [sad, sXn, sml, co_nil, ml_zr]
  split <;> exact ad_zr
/-- the product, canonical -/
def mulR (p c : Int) (a b : Row) : Row := trim ((List.range (a.length + b.length - 1)).map fun i => rd p (lm c a (co b) i))
theorem mulR_can (hp : 0 < p) {a b : Row} : Can p (mulR p c a b) := can_trim fun x hx => by
  simp only [List.mem_map] at hx
  obtain ⟨i, _, rfl⟩ := hx
  exact rd_rd hp
theorem lm_nil (b : Row) : lm c b (co []) = fun _ => zr := by
  rw [pr_comm]; rfl
theorem mulR_co {a b : Row} : PE p (co (mulR p c a b)) (lm c a (co b)) := by
  intro i
  unfold mulR
  rw [trim_co, co_map_range]
  split
  · exact Q.rd
  · rename_i h
    by_cases hb : b = []
    · subst hb; rw [lm_nil]; exact Q.refl
    · have hl : 0 < b.length := List.length_pos_iff.mpr hb
      rw [lm_ge (n := b.length) (fun j hj => co_ge hj) a i (by omega)]
      exact Q.refl
theorem mulR_eq (hp : 0 < p) {a b F : Row} (hF : F.length = a.length + b.length - 1) (h : PE p (co F) (lm c a (co b))) : trim (F.map (rd p)) = mulR p c a b := by
  refine can_eq (can_trim fun x hx => ?_) (mulR_can hp) ?_ mulR_co
  · simp only [List.mem_map] at hx
    obtain ⟨y, _, rfl⟩ := hx
    exact rd_rd hp
  · intro i
    rw [trim_co]
    have e : co (F.map (rd p)) i = rd p (co F i) := by
      by_cases hi : i < F.length
      · rw [co_lt (by simpa using hi), co_lt hi]; simp
      · rw [co_ge (by simpa using hi), co_ge (by omega)]; simp [rd]
    rw [e]
    exact Q.rd.trans (h i)
theorem co_set {r : Row} {j : Nat} {y : El} (h : j < r.length) : co (r.set j y) = fun i => if i = j then y else co r i := by
  funext i
  split
  · rename_i e; subst e
    rw [co_lt (by simpa using h)]; simp
  · rename_i e
    by_cases hi : i < r.length
    · rw [co_lt (by simpa using hi), co_lt hi, List.getElem_set_ne (by omega)]
    · rw [co_ge (by simpa using hi), co_ge (by omega)]
end M
end
section
set_option Elab.async false
set_option linter.all false
set_option autoImplicit false
set_option maxRecDepth 100000
set_option maxHeartbeats 4000000
namespace Z.K01
open PySem Z M
section
variable {p c : Int} {iv : List Int}
theorem zip_rows (a b : Row) : zipD (a.map dE) (b.map dE) = (a.zip b).map fun q => D.tup [dE q.1, dE q.2] := zipD_map dE dE a b
/-- rows_added, the longer ahead -/
theorem rows_added_tail (hp : 0 < p) {n : Nat} (hn : 1 ≤ n) {a b : Row} {o3 o4 o5 : Option D} (hb : b.length ≤ a.length) (ha : a.length ≤ 1000) :
    Ends (run T.Co pf n) T.Co (match b_rows_added with | .cons _ ss => ss | .nil => .nil) [some (dG p c), some (dR a), some (dR b), o3, o4, o5] [] fun x _ => x = dR (trim (addL p a b)) := by
  unfold b_rows_added
  refine Ends.set (.lst 0) [(a.zip b).map fun q => dE (rd p (ad q.1 q.2))] ?_ ?_
  · refine evE_lc (gd := []) (S1 := []) (fun q : El × El => D.tup [dE q.1, dE q.2]) (fun q => dE (rd p (ad q.1 q.2))) (a.zip b) ?_ rfl (by simp; omega) fun q hq => ?_
    · simp [evI, evE, dR, zip_rows]
    · refine ⟨[some (dG p c), some (dR a), some (dR b), o3, some (dE q.1), some (dE q.2)], by simp [asg, asgs, wipeR], ?_⟩
      simp [evE, evEs, (added_grounds_ok (c := c) hp q.1 q.2).call hn]
  · have e1 : cut (a.map dE) (some (b.length : Int)) none = (a.drop b.length).map dE := by rw [cut_from, List.map_drop]
    have hl : (addL p a b).map dE = ((a.zip b).map fun q => dE (rd p (ad q.1 q.2))) ++ (a.drop b.length).map dE := by simp [addL, List.map_map, Function.comp_def]
    have h1 := (row_trimmed_ok (S := [((a.zip b).map fun q => dE (rd p (ad q.1 q.2))), (a.drop b.length).map dE, (addL p a b).map dE]) (d := .lst 2) (r := addL p a b) (.inr ⟨2, rfl, rfl⟩) (by rw [addL_len hb]; omega)).call hn (by rfl)
    obtain ⟨E, h1⟩ := h1
    have n1 : ∀ S, newL ((a.drop b.length).map dE) S = .ok (.lst S.length) (S ++ [(a.drop b.length).map dE]) := fun S => newL_ok (by simp; omega)
    have n2 : ∀ S, newL ((addL p a b).map dE) S = .ok (.lst S.length) (S ++ [(addL p a b).map dE]) := fun S => newL_ok (by simp [addL_len hb]; omega)
    refine Ends.ret (dR (trim (addL p a b))) ([((a.zip b).map fun q => dE (rd p (ad q.1 q.2))), (a.drop b.length).map dE, (addL p a b).map dE] ++ E) ?_ rfl
    simp only [evE, evEs, evO, List.set_cons_succ, List.set_cons_zero, List.getElem?_cons_zero, List.getElem?_cons_succ, R.bind_ok, biR_lenT, slR, dR, List.length_map, e1, biR_lstT, n1, binR, List.length_cons, List.length_nil, List.cons_append, List.nil_append, ← hl, n2]
    exact h1
theorem rows_added_ok (hp : 0 < p) {a b : Row} (ha : a.length ≤ 1000) (hb : b.length ≤ 1000) : Rc 2 "rows_added" [dG p c, dR a, dR b] (dR (addR p a b)) :=
  Rt.by (fun n S => r_rows_added n _ S) rfl (by simp [dG, pures, D.pure]) (by simp) fun n hn => by
    unfold addR
    by_cases h : a.length < b.length
    · rw [if_pos h]
      have := rows_added_tail (c := c) hp hn (o3 := none) (o4 := none) (o5 := none) (a := b) (b := a) (by omega) hb
      unfold b_rows_added at this ⊢
      refine Ends.seq [some (dG p c), some (dR b), some (dR a), none, none, none] [] ?_ this
      simp [evS, evSs, evT, evE, evEs, dR, cmpR, truthR, h, setAll]
    · rw [if_neg h]
      have := rows_added_tail (c := c) hp hn (o3 := none) (o4 := none) (o5 := none) (a := a) (b := b) (by omega) ha
      unfold b_rows_added at this ⊢
      refine Ends.iteF [] ?_ this
      simp [evT, evE, evEs, dR, cmpR, truthR, h]
end
end Z.K01
end
section
set_option Elab.async false
set_option linter.all false
set_option autoImplicit false
set_option maxRecDepth 100000
set_option maxHeartbeats 4000000
namespace Z.K01
open PySem Z M
section
variable {p c : Int} {iv : List Int}
theorem dF_pure : (dF p c iv).pure = true := by simp [dF, D.pure, pures]
theorem pad_get {r : Row} {k i : Nat} (h : i < r.length + k) : (r.map dE ++ List.replicate k (dE zr))[i]? = some (dE (M.co r i)) := by
  by_cases hi : i < r.length
  · rw [List.getElem?_append_left (by simpa using hi), List.getElem?_map, List.getElem?_eq_getElem hi, co_lt hi]; rfl
  · rw [List.getElem?_append_right (by simpa using hi), List.getElem?_replicate, if_pos (by simp; omega), co_ge (by omega)]
theorem law_rows_plus_ok (hp : 0 < p) {a b : Row} (ha : a.length ≤ 1000) (hb : b.length ≤ 1000) : Rc 2 "_law_rows_plus" [dF p c iv, dR a, dR b] (dR (addR2 p a b)) :=
  Rt.by (fun n S => r__law_rows_plus n _ S) rfl (by simp [pures, dF_pure]) (by simp) fun n hn => by
    unfold b__law_rows_plus addR2
    generalize hm : max a.length b.length = m
    have hm' : m ≤ 1000 := by omega
    refine Ends.set (.int (m : Nat)) [] ?_ ?_
    · simp [evE, evEs, dR]; split <;> omega
    show Ends (run co pf n) co _ [some (dF p c iv), some (dR a), some (dR b), some (.int m), none] [] _
    have la : ∀ S, newL (a.map dE) S = .ok (.lst S.length) (S ++ [a.map dE]) := fun S => newL_ok (by simp; omega)
    have lb : ∀ S, newL (b.map dE) S = .ok (.lst S.length) (S ++ [b.map dE]) := fun S => newL_ok (by simp; omega)
    have l1 : ∀ S, newL [dE zr] S = .ok (.lst S.length) (S ++ [[dE zr]]) := fun S => newL_ok (by simp)
    have lr : ∀ k S, k ≤ 1000 → newL (List.replicate k (dE zr)) S = .ok (.lst S.length) (S ++ [List.replicate k (dE zr)]) := fun k S h => newL_ok (by simp; omega)
    have lpa : ∀ S, newL (a.map dE ++ List.replicate (m - a.length) (dE zr)) S = .ok (.lst S.length) (S ++ [a.map dE ++ List.replicate (m - a.length) (dE zr)]) := fun S => newL_ok (by simp; omega)
    have lpb : ∀ S, newL (b.map dE ++ List.replicate (m - b.length) (dE zr)) S = .ok (.lst S.length) (S ++ [b.map dE ++ List.replicate (m - b.length) (dE zr)]) := fun S => newL_ok (by simp; omega)
    have t0 : ∀ S, newT [D.int 0, D.int 0] S = .ok (dE zr) S := fun S => newT_ok (by simp)
    generalize hA : a.map dE ++ List.replicate (m - a.length) (dE zr) = A at lpa
    generalize hB : b.map dE ++ List.replicate (m - b.length) (dE zr) = B at lpb
    have pad : ∀ (r : Row) (C : List D) (i : Nat) (ρ : Rho) (S : Sto), r.length ≤ m → r.map dE ++ List.replicate (m - r.length) (dE zr) = C → (∀ S, newL (r.map dE) S = .ok (.lst S.length) (S ++ [r.map dE])) →
        (∀ S, newL C S = .ok (.lst S.length) (S ++ [C])) → ρ[i]? = some (some (dR r)) → ρ[3]? = some (some (.int m)) →
        evE (run co pf n) co (.bin .add (.bi .list (.cons (.v i) .nil)) (.bin .mul (.lst (.cons (.tup (.cons (.c (.int 0)) (.cons (.c (.int 0)) .nil))) .nil)) (.bin .sub (.v 3) (.bi .len (.cons (.v i) .nil))))) ρ S = .ok (.lst (S.length + 3)) (S ++ [r.map dE, [dE zr], List.replicate (m - r.length) (dE zr), C]) := by
      intro r C i ρ S hr hC lr1 lc1 hi h3
      simp only [evE, evEs, hi, h3, R.bind_ok, dR, biR_lstT, lr1, t0, l1, biR_lenT, List.length_map]
      have e1 : binR .sub (.int m) (.int r.length) (S ++ [r.map dE] ++ [[dE zr]]) = .ok (.int ((m : Int) - r.length)) (S ++ [r.map dE] ++ [[dE zr]]) := rfl
      rw [e1]
      simp only [R.bind_ok]
      rw [binR_mulL (xs := [dE zr]) (by simp) (by omega) (by omega), rep_one, show ((m : Int) - r.length).toNat = m - r.length by omega, lr _ _ (by omega)]
      simp only [R.bind_ok]
      rw [binR_addL (xs := r.map dE) (ys := List.replicate (m - r.length) (dE zr)) (by simp) (by simp), hC, lc1]
      simp
    have ea := pad a A 1 ([some (dF p c iv), some (dR a), some (dR b), some (.int m), none]) [] (by omega) hA la lpa rfl rfl
    have eb := pad b B 2 ([some (dF p c iv), some (dR a), some (dR b), some (.int m), none]) [a.map dE, [dE zr], List.replicate (m - a.length) (dE zr), A] (by omega) hB lb lpb rfl rfl
    simp only [List.length_nil, Nat.zero_add, List.nil_append, List.length_cons, Nat.reduceAdd, List.cons_append] at ea eb
    refine Ends.tset (.tup [.lst 3, .lst 7]) [a.map dE, [dE zr], List.replicate (m - a.length) (dE zr), A, b.map dE, [dE zr], List.replicate (m - b.length) (dE zr), B] [some (dF p c iv), some (.lst 3), some (.lst 7), some (.int m), none] ?_ (by simp [asg, asgs]) ?_
    · rw [evE]
      simp only [evEs]
      show (((evE (run co pf n) co _ [some (dF p c iv), some (dR a), some (dR b), some (.int m), none] []).bind _).bind _) = _
      rw [ea]
      simp only [R.bind_ok]
      rw [eb]
      simp only [R.bind_ok]
      exact newT_ok (by simp)
    · show Ends (run co pf n) co _ [some (dF p c iv), some (.lst 3), some (.lst 7), some (.int m), none] _ _
      generalize hS : [a.map dE, [dE zr], List.replicate (m - a.length) (dE zr), A, b.map dE, [dE zr], List.replicate (m - b.length) (dE zr), B] = S0
      have hl : evE (run co pf n) co (.lc (.call "_law_plus" (.cons (.v 0) (.cons (.ix (.v 1) (.v 4)) (.cons (.ix (.v 2) (.v 4)) .nil)))) (.nm 4) (.range1 (.v 3)) .yes [4]) [some (dF p c iv), some (.lst 3), some (.lst 7), some (.int m), none] S0 =
          .ok (.lst S0.length) (S0 ++ [(List.range m).map fun i => dE (rd p (ad (M.co a i) (M.co b i)))]) := by
        refine evE_lc (gd := []) (S1 := S0) (fun i : Nat => D.int i) _ (List.range m) (evI_r1 (by simp [evE]) (by omega)) rfl (by simp; omega) fun i hi => ?_
        have hi' : i < m := by simpa using hi
        refine ⟨[some (dF p c iv), some (.lst 3), some (.lst 7), some (.int m), some (.int i)], by simp [asg, wipeR], ?_⟩
        have ia : ixR (.lst 3) (.int (i : Int)) S0 = .ok (dE (M.co a i)) S0 := ixR_L (xs := A) (by rw [← hS]; rfl) (atI_nat (by rw [← hA]; exact pad_get (by omega)))
        have ib : ixR (.lst 7) (.int (i : Int)) S0 = .ok (dE (M.co b i)) S0 := ixR_L (xs := B) (by rw [← hS]; rfl) (atI_nat (by rw [← hB]; exact pad_get (by omega)))
        simp [evE, evEs, ia, ib, (law_plus_ok (c := c) (iv := iv) hp (M.co a i) (M.co b i)).call hn]
      obtain ⟨E, h1⟩ := (law_trim_ok (S := S0 ++ [(List.range m).map fun i => dE (rd p (ad (M.co a i) (M.co b i)))]) (d := .lst S0.length) (r := (List.range m).map fun i => rd p (ad (M.co a i) (M.co b i)))
        (.inr ⟨_, rfl, by simp [List.map_map, Function.comp_def]⟩) (by simp; omega)).call hn (by rfl)
      refine Ends.retE _ ⟨S0 ++ [(List.range m).map fun i => dE (rd p (ad (M.co a i) (M.co b i)))] ++ E, ?_⟩ fun _ => rfl
      rw [evE]
      simp only [evEs, hl, R.bind_ok]
      exact h1
end
end Z.K01
end
section
set_option Elab.async false
set_option linter.all false
set_option autoImplicit false
set_option maxRecDepth 100000
set_option maxHeartbeats 4000000
/-! Y4: stepping through a loop's body; lists of ints in the store. -/
namespace Z
open PySem M
variable {Γ : Calls} {Co : Consts} {s : St} {ss a b : Sts} {ρ ρ1 : Rho} {S S1 : Sto} {d : D} {post : Rho → Sto → Prop}
/-- the body goes through (or is cut short by continue) -/
def Nx (Γ : Calls) (Co : Consts) (ss : Sts) (ρ : Rho) (S : Sto) (post : Rho → Sto → Prop) : Prop := ∃ ρ' S', (evSs Γ Co ss ρ S = .nx ρ' S' ∨ evSs Γ Co ss ρ S = .ct ρ' S') ∧ post ρ' S'
theorem Nx.nil (h : post ρ S) : Nx Γ Co .nil ρ S post := ⟨ρ, S, .inl (by simp only [evSs]), h⟩
theorem Nx.seq (ρ1 : Rho) (S1 : Sto) (h : evS Γ Co s ρ S = .nx ρ1 S1) (k : Nx Γ Co ss ρ1 S1 post) : Nx Γ Co (.cons s ss) ρ S post := by
  obtain ⟨ρ', S', e, p⟩ := k
  exact ⟨ρ', S', by simp only [evSs, h, F.then_nx]; exact e, p⟩
theorem Nx.set {i : Nat} {e : E} (x : D) (S1 : Sto) (h : evE Γ Co e ρ S = .ok x S1) (k : Nx Γ Co ss (ρ.set i (some x)) S1 post) : Nx Γ Co (.cons (.set i e) ss) ρ S post :=
  Nx.seq _ S1 (by simp only [evS, h, R.toF_ok]) k
theorem Nx.tset {g : G} {e : E} (x : D) (S1 : Sto) (ρ1 : Rho) (h : evE Γ Co e ρ S = .ok x S1) (ha : asg g x ρ = some ρ1) (k : Nx Γ Co ss ρ1 S1 post) : Nx Γ Co (.cons (.tset g e) ss) ρ S post :=
  Nx.seq _ S1 (by simp only [evS, h, R.toF_ok, ha]) k
theorem Nx.par {is : List Nat} {es : Es} (xs : List D) (S1 : Sto) (ρ1 : Rho) (h : evEs Γ Co es ρ S = .ok xs S1) (ha : setAll is xs ρ = some ρ1) (k : Nx Γ Co ss ρ1 S1 post) : Nx Γ Co (.cons (.par is es) ss) ρ S post :=
  Nx.seq _ S1 (by simp only [evS, h, R.toF_ok, ha]) k
theorem Nx.ex {e : E} (x : D) (S1 : Sto) (h : evE Γ Co e ρ S = .ok x S1) (k : Nx Γ Co ss ρ S1 post) : Nx Γ Co (.cons (.ex e) ss) ρ S post :=
  Nx.seq _ S1 (by simp only [evS, h, R.toF_ok]) k
theorem Nx.iteF {t : T} (S1 : Sto) (h : evT Γ Co t ρ S = .ok false S1) (k : Nx Γ Co ss ρ S1 post) : Nx Γ Co (.cons (.ite t a .nil) ss) ρ S post :=
  Nx.seq ρ S1 (by simp only [evS, h, R.toF_ok, Bool.false_eq_true, if_false, evSs]) k
/-- a loop within -/
theorem fo_nx {α : Type} {g : G} {it : I} {bd : Sts} (gd : Gd) (f : α → D) (l : List α) (S1 : Sto) (hit : evI Γ Co it ρ S = .ok (gd, l.map f) S1) (Inv : List α → Rho → Sto → Prop) (h0 : Inv [] ρ S1)
    (hs : ∀ pre a post ρ S, l = pre ++ a :: post → Inv pre ρ S → chk gd S = true ∧ ∃ ρa, asg g (f a) ρ = some ρa ∧ Nx Γ Co bd ρa S (Inv (pre ++ [a])))
    (hd : ∀ ρ S, Inv l ρ S → chk gd S = true) : ∃ ρ1 S2, evS Γ Co (.fo g it bd) ρ S = .nx ρ1 S2 ∧ Inv l ρ1 S2 := by
  obtain ⟨ρ1, S2, h1, h2⟩ := forF_inv (gd := gd) (body := fun x ρ S => match asg g x ρ with
      | none => .bad
      | some ρ => evSs Γ Co bd ρ S) f Inv l (fun pre a post ρ S e hi => by
    obtain ⟨hc, ρa, h1, ρ', S', h2, h3⟩ := hs pre a post ρ S e hi
    exact ⟨hc, ρ', S', by simp only [h1]; exact h2, h3⟩) hd h0
  exact ⟨ρ1, S2, by simp only [evS, hit, R.toF_ok]; exact h1, h2⟩
theorem Nx.fo {α : Type} {g : G} {it : I} {bd : Sts} (gd : Gd) (f : α → D) (l : List α) (S1 : Sto) (hit : evI Γ Co it ρ S = .ok (gd, l.map f) S1) (Inv : List α → Rho → Sto → Prop) (h0 : Inv [] ρ S1)
    (hs : ∀ pre a post ρ S, l = pre ++ a :: post → Inv pre ρ S → chk gd S = true ∧ ∃ ρa, asg g (f a) ρ = some ρa ∧ Nx Γ Co bd ρa S (Inv (pre ++ [a])))
    (hd : ∀ ρ S, Inv l ρ S → chk gd S = true) (k : ∀ ρ1 S1, Inv l ρ1 S1 → Nx Γ Co ss ρ1 S1 post) : Nx Γ Co (.cons (.fo g it bd) ss) ρ S post := by
  obtain ⟨ρ1, S2, h1, h2⟩ := fo_nx gd f l S1 hit Inv h0 hs hd
  exact Nx.seq ρ1 S2 h1 (k ρ1 S2 h2)
theorem Ends.fo2 {post : D → Sto → Prop} {α : Type} {g : G} {it : I} {bd : Sts} (gd : Gd) (f : α → D) (l : List α) (S1 : Sto) (hit : evI Γ Co it ρ S = .ok (gd, l.map f) S1) (Inv : List α → Rho → Sto → Prop) (h0 : Inv [] ρ S1)
    (hs : ∀ pre a post ρ S, l = pre ++ a :: post → Inv pre ρ S → chk gd S = true ∧ ∃ ρa, asg g (f a) ρ = some ρa ∧ Nx Γ Co bd ρa S (Inv (pre ++ [a])))
    (hd : ∀ ρ S, Inv l ρ S → chk gd S = true) (k : ∀ ρ1 S1, Inv l ρ1 S1 → Ends Γ Co ss ρ1 S1 post) : Ends Γ Co (.cons (.fo g it bd) ss) ρ S post := by
  obtain ⟨ρ1, S2, h1, h2⟩ := fo_nx gd f l S1 hit Inv h0 hs hd
  exact Ends.seq ρ1 S2 h1 (k ρ1 S2 h2)
/-! ### o[i] op= v, o[i] = v -/
theorem ixN_nat {n j : Nat} (h : j < n) : L2.ixN n (j : Int) = some j := by
  unfold L2.ixN
  rw [if_pos (by omega), if_pos (by omega)]
  simp
theorem setIx_nat {n j : Nat} {xs : List D} {v : D} (h : S[n]? = some xs) (hj : j < xs.length) : setIxR (.lst n) (.int j) v S = some (S.set n (xs.set j v)) := by
  simp only [setIxR, h, ixN_nat hj, Option.map_some]
theorem augix_nat {o i e : E} {op : BOp} {n j : Nat} {ls : List Int} {v w : Int} (ho : evE Γ Co o ρ S = .ok (.lst n) S) (hi : evE Γ Co i ρ S = .ok (.int j) S) (he : evE Γ Co e ρ S = .ok (.int v) S) (h : S[n]? = some (ls.map D.int)) (hj : j < ls.length)
    (hw : augR op (.int (ls.getD j 0)) (.int v) S = .ok (.int w) S) : evS Γ Co (.augix o i op e) ρ S = .nx ρ (S.set n ((ls.set j w).map D.int)) := by
  have e1 : ixL (.lst n) (.int j) S = .ok (.int (ls.getD j 0)) S := by
    show ixR (.lst n) (.int j) S = _
    exact ixR_L h (atI_nat (by simp [List.getD_eq_getElem?_getD, List.getElem?_eq_getElem hj]))
  simp only [evS, ho, hi, he, R.toF_ok, e1, hw]
  rw [setIx_nat h (by simpa using hj), List.map_set]
theorem setix_nat {o i e : E} {n j : Nat} {xs : List D} {v : D} {S1 : Sto} (he : evE Γ Co e ρ S = .ok v S1) (ho : evE Γ Co o ρ S1 = .ok (.lst n) S1) (hi : evE Γ Co i ρ S1 = .ok (.int j) S1) (h : S1[n]? = some xs) (hj : j < xs.length) :
    evS Γ Co (.setix o i e) ρ S = .nx ρ (S1.set n (xs.set j v)) := by
  simp only [evS, ho, hi, he, R.toF_ok]
  rw [setIx_nat h hj]
end Z
end
section
set_option Elab.async false
set_option linter.all false
set_option autoImplicit false
set_option maxRecDepth 100000
set_option maxHeartbeats 4000000
namespace Z.K01
open PySem Z M
section
variable {p c : Int} {iv : List Int}
theorem ix_nat {xs : List D} {k i : Nat} {x : D} {S : Sto} (h : S[k]? = some xs) (hi : xs[i]? = some x) : ixR (.lst k) (.int (i : Int)) S = .ok x S := ixR_L h (atI_nat hi)
theorem ixT_nat {xs : List D} {i : Nat} {x : D} {S : Sto} (hi : xs[i]? = some x) : ixR (.tup xs) (.int (i : Int)) S = .ok x S := ixR_T (atI_nat hi)
theorem row_get {r : Row} {i : Nat} (h : i < r.length) : (r.map dE)[i]? = some (dE (M.co r i)) := by
  rw [List.getElem?_map, List.getElem?_eq_getElem h, co_lt h]; rfl
theorem mem_range_split {n a : Nat} {pre post : List Nat} (h : List.range n = pre ++ a :: post) : a = pre.length ∧ a < n := by
  have h1 := congrArg (fun l : List Nat => l[pre.length]?) h
  simp at h1
  have h2 := congrArg List.length h
  simp at h2
  rw [List.getElem?_range (by omega)] at h1
  simp at h1
  omega
theorem take_pre {n : Nat} {pre : List Nat} : True := trivial
/-- the law's product -/
theorem law_rows_by_ok (G : Gr p c iv) {a b : Row} (ca : Red p a) (cb : Red p b) (ha : a.length ≤ 1000) (hb : b.length ≤ 1000) : Rc 2 "_law_rows_by" [dF p c iv, dR a, dR b] (dR (mulR p c a b)) :=
  Rt.by (fun n S => r__law_rows_by n _ S) rfl (by simp [pures, dF_pure]) (by simp) fun n hn => by
    have e0 : ∀ r : Row, eqR (dR r) (.tup []) [] = some (decide (r = [])) := fun r => eqR_dR r [] []
    unfold b__law_rows_by
    by_cases hne : a = [] ∨ b = []
    · refine Ends.iteT [] ?_ ?_
      · rcases hne with rfl | rfl
        · simp [evT, evE, evEs, newT_ok, cmpR, e0, truthR]
        · simp [evT, evE, evEs, newT_ok, cmpR, e0, truthR]
      · refine Ends.ret (dR []) [] (by simp [evE, evEs, newT_ok, dR]) ?_
        rcases hne with rfl | rfl
        · have : mulR p c [] b = [] := can_eq (mulR_can G.pp) can_nil mulR_co (PE.of_eq (by rw [co_nil]; rfl))
          rw [this]
        · have : mulR p c a [] = [] := can_eq (mulR_can G.pp) can_nil mulR_co (PE.of_eq (by rw [lm_nil]; exact co_nil))
          rw [this]
    · have ha0 : a ≠ [] := fun h => hne (.inl h)
      have hb0 : b ≠ [] := fun h => hne (.inr h)
      have la := List.length_pos_iff.mpr ha0
      have lb := List.length_pos_iff.mpr hb0
      refine Ends.iteF [] (by simp [evT, evE, evEs, newT_ok, cmpR, e0, truthR, ha0, hb0]) ?_
      generalize hm : a.length + b.length - 1 = m
      have l1 : ∀ S, newL [dE zr] S = .ok (.lst S.length) (S ++ [[dE zr]]) := fun S => newL_ok (by simp)
      have lr : ∀ S, newL (List.replicate m (dE zr)) S = .ok (.lst S.length) (S ++ [List.replicate m (dE zr)]) := fun S => newL_ok (by simp; omega)
      have t0 : ∀ S, newT [D.int 0, D.int 0] S = .ok (dE zr) S := fun S => newT_ok (by simp)
      have e1 : binR .mul (.lst 0) (.int ((a.length : Int) + b.length - 1)) [[dE zr]] = .ok (.lst 1) [[dE zr], List.replicate m (dE zr)] := by
        rw [binR_mulL (xs := [dE zr]) rfl (by omega) (by omega), rep_one, show ((a.length : Int) + b.length - 1).toNat = m by omega, lr]; rfl
      refine Ends.set (.lst 1) [[dE zr], List.replicate m (dE zr)] ?_ ?_
      · have e2 : ∀ S, binR .add (.int a.length) (.int b.length) S = .ok (.int ((a.length : Int) + b.length)) S := fun S => rfl
        have e3 : ∀ S, binR .sub (.int ((a.length : Int) + b.length)) (.int 1) S = .ok (.int ((a.length : Int) + b.length - 1)) S := fun S => rfl
        simp only [evE, evEs, dR, List.map_cons, List.map_nil, List.cons_append, List.nil_append, List.getElem?_cons_zero, List.getElem?_cons_succ, R.bind_ok, biR_lenT, List.length_map, t0, l1, e2, e3, List.length_nil, e1]
      show Ends (run co pf n) co _ [some (dF p c iv), some (dR a), some (dR b), some (.lst 1), none, none] _ _
      refine Ends.fo2 [] (fun i : Nat => D.int i) (List.range a.length) [[dE zr], List.replicate m (dE zr)] (evI_r1 (by simp [evE, evEs, dR]) (by omega))
        (fun pre ρ S => ∃ (F : Row) (o4 o5 : Option D), ρ = [some (dF p c iv), some (dR a), some (dR b), some (.lst 1), o4, o5] ∧ S = [[dE zr], F.map dE] ∧ F.length = m ∧ Red p F ∧ PE p (M.co F) (lm c (a.take pre.length) (M.co b)))
        ⟨List.replicate m zr, none, none, rfl, by simp, by simp, fun x hx => by rw [List.eq_of_mem_replicate hx]; simp [rd], fun i => by
          have : M.co (List.replicate m zr) i = zr := by
            by_cases hi : i < m
            · rw [co_lt (by simpa using hi)]; simp
            · rw [co_ge (by simpa using hi)]
          rw [this]; simp [lm]; exact Q.refl⟩ ?_ (fun _ _ _ => rfl) ?_
      · rintro pre i post ρ S hi ⟨F, o4, o5, rfl, rfl, hF, rF, hco⟩
        obtain ⟨hi1, hi2⟩ := mem_range_split hi
        refine ⟨rfl, [some (dF p c iv), some (dR a), some (dR b), some (.lst 1), some (.int i), o5], by simp [asg], ?_⟩
        refine Nx.fo [] (fun j : Nat => D.int j) (List.range b.length) [[dE zr], F.map dE] (evI_r1 (by simp [evE, evEs, dR]) (by omega))
          (fun pre2 ρ S => ∃ (F : Row) (o5 : Option D), ρ = [some (dF p c iv), some (dR a), some (dR b), some (.lst 1), some (.int i), o5] ∧ S = [[dE zr], F.map dE] ∧ F.length = m ∧ Red p F ∧
            PE p (M.co F) (sad (lm c (a.take i) (M.co b)) (sXn i (sml c (M.co a i) (M.co (b.take pre2.length))))))
          ⟨F, o5, rfl, rfl, hF, rF, by rw [List.length_nil, List.take_zero, part_nil, hi1]; exact hco⟩ ?_ (fun _ _ _ => rfl) ?_
        · rintro pre2 j post2 ρ S hj ⟨F, o5, rfl, rfl, hF, rF, hco⟩
          obtain ⟨hj1, hj2⟩ := mem_range_split hj
          refine ⟨rfl, [some (dF p c iv), some (dR a), some (dR b), some (.lst 1), some (.int i), some (.int j)], by simp [asg], ?_⟩
          have hk : i + j < m := by omega
          have ea : ∀ S, ixR (dR a) (.int (i : Int)) S = .ok (dE (M.co a i)) S := fun S => ixT_nat (row_get hi2)
          have eb : ∀ S, ixR (dR b) (.int (j : Int)) S = .ok (dE (M.co b j)) S := fun S => ixT_nat (row_get hj2)
          have ef : ixR (.lst 1) (.int ((i + j : Nat) : Int)) [[dE zr], F.map dE] = .ok (dE (M.co F (i + j))) [[dE zr], F.map dE] := ix_nat rfl (row_get (by omega))
          have sa : Sm (M.co a i) := G.sm (rd_co G.pp ca i)
          have hb1 := (law_by_ok (p := p) (c := c) (iv := iv) G.pp G.ca G.cb sa (y := M.co b j)).call hn
          have hp1 := (law_plus_ok (c := c) (iv := iv) G.pp (M.co F (i + j)) (rd p (ml c (M.co a i) (M.co b j)))).call hn
          have ij : ∀ S, binR .add (.int (i : Int)) (.int (j : Int)) S = .ok (.int ((i + j : Nat) : Int)) S := fun S => by simp [binR, intB]
          refine Nx.seq _ _ (setix_nat (n := 1) (j := i + j) (xs := F.map dE) (S1 := [[dE zr], F.map dE]) (v := dE (rd p (ad (M.co F (i + j)) (rd p (ml c (M.co a i) (M.co b j)))))) ?_ (by simp [evE]) (by simp [evE, ij]) rfl (by simpa using (by omega : i + j < F.length))) (Nx.nil ?_)
          · simp only [evE, evEs, List.getElem?_cons_zero, List.getElem?_cons_succ, R.bind_ok, ij, ef, ea, eb, hb1, hp1]
          · refine ⟨F.set (i + j) (rd p (ad (M.co F (i + j)) (rd p (ml c (M.co a i) (M.co b j))))), some (.int j), rfl, by simp [List.map_set], by simpa using hF, ?_, ?_⟩
            · intro x hx
              rcases List.mem_or_eq_of_mem_set hx with h | h
              · exact rF x h
              · rw [h]; exact rd_rd G.pp
            · have e4 : b.take (pre2 ++ [j]).length = b.take pre2.length ++ [M.co b j] := by
                rw [List.length_append, List.length_singleton, ← hj1, co_lt hj2, List.take_add_one, List.getElem?_eq_getElem hj2]; rfl
              rw [e4, part_snoc, co_set (by omega)]
              intro k
              have e5 : (b.take pre2.length).length = j := by simp; omega
              rw [e5]
              dsimp only
              split
              · rename_i hk2
                subst hk2
                exact Q.rd.trans ((hco _).ad Q.rd)
              · exact hco k
        · rintro ρ1 S1 ⟨F, o5, rfl, rfl, hF, rF, hco⟩
          refine Nx.nil ⟨F, some (.int i), o5, rfl, rfl, hF, rF, ?_⟩
          have e4 : a.take (pre ++ [i]).length = a.take i ++ [M.co a i] := by
            rw [List.length_append, List.length_singleton, ← hi1, co_lt hi2, List.take_add_one, List.getElem?_eq_getElem hi2]; rfl
          rw [e4, lm_snoc]
          simp only [List.length_range, List.take_length] at hco
          have e5 : (a.take i).length = i := by simp; omega
          rw [e5]
          exact hco
      · rintro ρ1 S1 ⟨F, o4, o5, rfl, rfl, hF, rF, hco⟩
        simp only [List.length_range, List.take_length] at hco
        have e6 : trim F = mulR p c a b := by
          rw [← mulR_eq G.pp (F := F) (by omega) hco]
          congr 1
          exact ((List.map_congr_left (f := rd p) (g := id) fun x hx => rF x hx).trans (List.map_id F)).symm
        obtain ⟨E, h1⟩ := (law_trim_ok (S := [[dE zr], F.map dE]) (d := .lst 1) (r := F) (.inr ⟨_, rfl, rfl⟩) (by omega)).call hn (by rfl)
        refine Ends.retE _ ⟨[[dE zr], F.map dE] ++ E, ?_⟩ fun _ => rfl
        rw [← e6]
        simp only [evE, evEs, List.getElem?_cons_zero, List.getElem?_cons_succ, R.bind_ok]
        exact h1
end
end Z.K01
end
section
set_option Elab.async false
set_option linter.all false
set_option autoImplicit false
set_option maxRecDepth 100000
set_option maxHeartbeats 8000000
namespace Z.K01
open PySem Z M
section
variable {p c : Int} {iv : List Int}
theorem enum_rows (a : Row) : enumD 0 (a.map dE) = a.zipIdx.map fun q => D.tup [.int (q.2 : Int), dE q.1] := enum0_map dE a
theorem mem_zipIdx_split {a : Row} {q : El × Nat} {pre post : List (El × Nat)} (h : a.zipIdx = pre ++ q :: post) : q.2 = pre.length ∧ q.2 < a.length ∧ q.1 = M.co a q.2 := by
  have h1 := congrArg (fun l : List (El × Nat) => l[pre.length]?) h
  have h2 := congrArg List.length h
  simp at h2
  have hl : pre.length < a.length := by omega
  simp only [List.getElem?_append_right (Nat.le_refl _), Nat.sub_self, List.getElem?_cons_zero] at h1
  rw [List.getElem?_zipIdx, List.getElem?_eq_getElem hl] at h1
  simp at h1
  obtain rfl := h1
  exact ⟨by simp, by simpa using hl, by simp [co_lt hl]⟩
/-- what the three lists say -/
def Vf (c : Int) (ls hs fs : List Int) : Sq := fun k => (ls.getD k 0 - fs.getD k 0, hs.getD k 0 - c * fs.getD k 0)
theorem getD_set {l : List Int} {k j : Nat} {v : Int} (h : k < l.length) : (l.set k v).getD j 0 = if j = k then v else l.getD j 0 := by
  rw [List.getD_eq_getElem?_getD, List.getD_eq_getElem?_getD, List.getElem?_set]
  by_cases e : j = k
  · subst e; simp [h]
  · rw [if_neg (by omega), if_neg e]
theorem Vf_set {ls hs fs : List Int} {k : Nat} {x y : El} (h1 : k < ls.length) (h2 : k < hs.length) (h3 : k < fs.length) :
    Vf c (ls.set k (ls.getD k 0 + x.1 * y.1)) (hs.set k (hs.getD k 0 + (x.1 * y.2 + x.2 * y.1))) (fs.set k (fs.getD k 0 + x.2 * y.2)) = fun i => if i = k then ad (Vf c ls hs fs i) (ml c x y) else Vf c ls hs fs i := by
  funext i
  simp only [Vf, getD_set h1, getD_set h2, getD_set h3]
  by_cases e : i = k
  · subst e
    simp only [if_true, ad, ml]
    ext <;> simp <;> grind
  · simp only [if_neg e]
theorem ez0 {Γ : Calls} {m : Nat} (hm : m ≤ 2000) (ρ : Rho) (S : Sto) (h : ρ[5]? = some (some (.int m))) : evE Γ co (.bin .mul (.lst (.cons (.c (.int 0)) .nil)) (.v 5)) ρ S = .ok (.lst (S.length + 1)) (S ++ [[D.int 0], List.replicate m (D.int 0)]) := by
  simp only [evE, evEs, R.bind_ok, h]
  rw [newL_ok (by simp)]
  simp only [R.bind_ok]
  rw [binR_mulL (xs := [D.int 0]) (by simp) (by omega) (by omega), rep_one, newL_ok (by simp; omega)]
  simp
theorem tri0 {Γ : Calls} {m : Nat} (hm : m ≤ 2000) (ρ : Rho) (h : ρ[5]? = some (some (.int m))) : evE Γ co (.tup (.cons (.bin .mul (.lst (.cons (.c (.int 0)) .nil)) (.v 5)) (.cons (.bin .mul (.lst (.cons (.c (.int 0)) .nil)) (.v 5)) (.cons (.bin .mul (.lst (.cons (.c (.int 0)) .nil)) (.v 5)) .nil)))) ρ [] =
    .ok (.tup [.lst 1, .lst 3, .lst 5]) [[D.int 0], List.replicate m (D.int 0), [D.int 0], List.replicate m (D.int 0), [D.int 0], List.replicate m (D.int 0)] := by
  rw [evE, evEs, ez0 hm ρ _ h, R.bind_ok, evEs, ez0 hm ρ _ h, R.bind_ok, evEs, ez0 hm ρ _ h, R.bind_ok, evEs, R.bind_ok, R.bind_ok, R.bind_ok, R.bind_ok]
  exact newT_ok (by simp)
theorem rows_multiplied_ok (G : Gr p c iv) {a b : Row} (ca : Red p a) (cb : Red p b) (ha : a.length ≤ 1000) (hb : b.length ≤ 1000) : Rc 2 "rows_multiplied" [dG p c, dR a, dR b] (dR (mulR p c a b)) :=
  Rt.by (fun n S => r_rows_multiplied n _ S) rfl (by simp [pures, dG, D.pure]) (by simp) fun n hn => by
    have e0 : ∀ r : Row, eqR (dR r) (.tup []) [] = some (decide (r = [])) := fun r => eqR_dR r [] []
    unfold b_rows_multiplied
    by_cases hne : a = [] ∨ b = []
    · refine Ends.iteT [] ?_ ?_
      · rcases hne with rfl | rfl
        · simp [evT, evE, evEs, newT_ok, cmpR, e0, truthR]
        · simp [evT, evE, evEs, newT_ok, cmpR, e0, truthR]
      · refine Ends.ret (dR []) [] (by simp [evE, evEs, newT_ok, dR]) ?_
        rcases hne with rfl | rfl
        · have : mulR p c [] b = [] := can_eq (mulR_can G.pp) can_nil mulR_co (PE.of_eq (by rw [co_nil]; rfl))
          rw [this]
        · have : mulR p c a [] = [] := can_eq (mulR_can G.pp) can_nil mulR_co (PE.of_eq (by rw [lm_nil]; exact co_nil))
          rw [this]
    · have ha0 : a ≠ [] := fun h => hne (.inl h)
      have hb0 : b ≠ [] := fun h => hne (.inr h)
      have la := List.length_pos_iff.mpr ha0
      have lb := List.length_pos_iff.mpr hb0
      refine Ends.iteF [] (by simp [evT, evE, evEs, newT_ok, cmpR, e0, truthR, ha0, hb0]) ?_
      generalize hm : a.length + b.length - 1 = m
      show Ends (run co pf n) co _ [some (dG p c), some (dR a), some (dR b), none, none, none, none, none, none, none, none, none, none, none, none] _ _
      refine Ends.tset (dG p c) [] [some (dG p c), some (dR a), some (dR b), some (.int p), some (.int c), none, none, none, none, none, none, none, none, none, none] (by simp [evE]) (by simp [dG, asg, asgs]) ?_
      refine Ends.set (.int m) [] ?_ ?_
      · have e2 : ∀ S, binR .add (.int a.length) (.int b.length) S = .ok (.int ((a.length : Int) + b.length)) S := fun S => rfl
        have e3 : ∀ S, binR .sub (.int ((a.length : Int) + b.length)) (.int 1) S = .ok (.int ((a.length : Int) + b.length - 1)) S := fun S => rfl
        simp only [evE, evEs, dR, List.getElem?_cons_zero, List.getElem?_cons_succ, R.bind_ok, biR_lenT, List.length_map, e2, e3]
        rw [show (m : Int) = (a.length : Int) + b.length - 1 by omega]
      show Ends (run co pf n) co _ [some (dG p c), some (dR a), some (dR b), some (.int p), some (.int c), some (.int m), none, none, none, none, none, none, none, none, none] _ _
      have ez := fun ρ h => tri0 (Γ := run co pf n) (m := m) (by omega) ρ h
      have z : List.replicate m (D.int 0) = (List.replicate m (0 : Int)).map D.int := by simp
      generalize hZ : List.replicate m (D.int 0) = Z0 at ez z
      refine Ends.tset (.tup [.lst 1, .lst 3, .lst 5]) [[D.int 0], Z0, [.int 0], Z0, [.int 0], Z0] [some (dG p c), some (dR a), some (dR b), some (.int p), some (.int c), some (.int m), some (.lst 1), some (.lst 3), some (.lst 5), none, none, none, none, none, none] ?_ (by simp [asg, asgs]) ?_
      · exact ez _ rfl
      have V0 : Vf c (List.replicate m 0) (List.replicate m 0) (List.replicate m 0) = lm c [] (M.co b) := by
        funext k
        have : (List.replicate m (0 : Int)).getD k 0 = 0 := by
          rw [List.getD_eq_getElem?_getD, List.getElem?_replicate]; split <;> rfl
        simp only [Vf, this, lm]; simp
      refine Ends.fo2 [] (fun q : El × Nat => D.tup [.int (q.2 : Int), dE q.1]) a.zipIdx [[D.int 0], Z0, [.int 0], Z0, [.int 0], Z0] (by simp [evI, evE, dR, enum_rows])
        (fun pre ρ S => ∃ (ls hs fs : List Int) (o9 o10 o11 o12 o13 o14 : Option D), ρ = [some (dG p c), some (dR a), some (dR b), some (.int p), some (.int c), some (.int m), some (.lst 1), some (.lst 3), some (.lst 5), o9, o10, o11, o12, o13, o14] ∧
          S = [[D.int 0], ls.map .int, [.int 0], hs.map .int, [.int 0], fs.map .int] ∧ ls.length = m ∧ hs.length = m ∧ fs.length = m ∧ Vf c ls hs fs = lm c (a.take pre.length) (M.co b))
        ⟨_, _, _, none, none, none, none, none, none, rfl, by rw [← z], by simp, by simp, by simp, V0⟩ ?_ (fun _ _ _ => rfl) ?_
      · rintro pre ⟨x, i⟩ post ρ S hi ⟨ls, hs, fs, o9, o10, o11, o12, o13, o14, rfl, rfl, h1, h2, h3, hV⟩
        obtain ⟨hi1, hi2, hx⟩ := mem_zipIdx_split hi
        dsimp only at hi1 hi2 hx
        refine ⟨rfl, [some (dG p c), some (dR a), some (dR b), some (.int p), some (.int c), some (.int m), some (.lst 1), some (.lst 3), some (.lst 5), some (.int i), some (.int x.1), some (.int x.2), o12, o13, o14], by simp [asg, asgs, dE], ?_⟩
        have sx : Sm x := by rw [hx]; exact G.sm (rd_co G.pp ca i)
        refine Nx.fo [] (fun q : El × Nat => D.tup [.int (q.2 : Int), dE q.1]) b.zipIdx [[D.int 0], ls.map .int, [.int 0], hs.map .int, [.int 0], fs.map .int] (by simp [evI, evE, dR, enum_rows])
          (fun pre2 ρ S => ∃ (ls hs fs : List Int) (o12 o13 o14 : Option D), ρ = [some (dG p c), some (dR a), some (dR b), some (.int p), some (.int c), some (.int m), some (.lst 1), some (.lst 3), some (.lst 5), some (.int i), some (.int x.1), some (.int x.2), o12, o13, o14] ∧
            S = [[D.int 0], ls.map .int, [.int 0], hs.map .int, [.int 0], fs.map .int] ∧ ls.length = m ∧ hs.length = m ∧ fs.length = m ∧ Vf c ls hs fs = sad (lm c (a.take i) (M.co b)) (sXn i (sml c x (M.co (b.take pre2.length)))))
          ⟨ls, hs, fs, o12, o13, o14, rfl, rfl, h1, h2, h3, by rw [List.length_nil, List.take_zero, part_nil, hi1]; exact hV⟩ ?_ (fun _ _ _ => rfl) ?_
        · rintro pre2 ⟨y, j⟩ post2 ρ S hj ⟨ls, hs, fs, o12, o13, o14, rfl, rfl, h1, h2, h3, hV⟩
          obtain ⟨hj1, hj2, hy⟩ := mem_zipIdx_split hj
          dsimp only at hj1 hj2 hy
          refine ⟨rfl, [some (dG p c), some (dR a), some (dR b), some (.int p), some (.int c), some (.int m), some (.lst 1), some (.lst 3), some (.lst 5), some (.int i), some (.int x.1), some (.int x.2), some (.int j), some (.int y.1), some (.int y.2)], by simp [asg, asgs, dE], ?_⟩
          have hk : i + j < m := by omega
          have ij : ∀ S, binR .add (.int (i : Int)) (.int (j : Int)) S = .ok (.int ((i + j : Nat) : Int)) S := fun S => by simp [binR, intB]
          refine Nx.seq _ _ (augix_nat (n := 1) (j := i + j) (ls := ls) (v := x.1 * y.1) (w := ls.getD (i + j) 0 + x.1 * y.1) (by simp [evE]) (by simp [evE, ij]) (by simp [evE, binR, intB, mul1 sx]) rfl (by omega) rfl) ?_
          refine Nx.seq _ _ (augix_nat (n := 3) (j := i + j) (ls := hs) (v := x.1 * y.2 + x.2 * y.1) (w := hs.getD (i + j) 0 + (x.1 * y.2 + x.2 * y.1)) (by simp [evE]) (by simp [evE, ij]) (by simp [evE, binR, intB, mul1 sx, mul2 sx]) rfl (by omega) rfl) ?_
          refine Nx.seq _ _ (augix_nat (n := 5) (j := i + j) (ls := fs) (v := x.2 * y.2) (w := fs.getD (i + j) 0 + x.2 * y.2) (by simp [evE]) (by simp [evE, ij]) (by simp [evE, binR, intB, mul2 sx]) rfl (by omega) rfl) (Nx.nil ?_)
          refine ⟨ls.set (i + j) (ls.getD (i + j) 0 + x.1 * y.1), hs.set (i + j) (hs.getD (i + j) 0 + (x.1 * y.2 + x.2 * y.1)), fs.set (i + j) (fs.getD (i + j) 0 + x.2 * y.2), some (.int j), some (.int y.1), some (.int y.2), rfl, rfl, by simpa using h1, by simpa using h2, by simpa using h3, ?_⟩
          have e4 : b.take (pre2 ++ [(y, j)]).length = b.take pre2.length ++ [y] := by
            rw [List.length_append, List.length_singleton, ← hj1, hy, co_lt hj2, List.take_add_one, List.getElem?_eq_getElem hj2]; rfl
          rw [Vf_set (by omega) (by omega) (by omega), e4, part_snoc, hV]
          have e5 : (b.take pre2.length).length = j := by simp; omega
          rw [e5]
        · rintro ρ1 S1 ⟨ls, hs, fs, o12, o13, o14, rfl, rfl, h1, h2, h3, hV⟩
          refine Nx.nil ⟨ls, hs, fs, _, _, _, o12, o13, o14, rfl, rfl, h1, h2, h3, ?_⟩
          have e4 : a.take (pre ++ [(x, i)]).length = a.take i ++ [x] := by
            rw [List.length_append, List.length_singleton, ← hi1, hx, co_lt hi2, List.take_add_one, List.getElem?_eq_getElem hi2]; rfl
          rw [e4, lm_snoc]
          simp only [List.length_zipIdx, List.take_length] at hV
          have e5 : (a.take i).length = i := by simp; omega
          rw [e5]
          exact hV
      · rintro ρ1 S1 ⟨ls, hs, fs, o9, o10, o11, o12, o13, o14, rfl, rfl, h1, h2, h3, hV⟩
        simp only [List.length_zipIdx, List.take_length] at hV
        have g6 : ∀ (l : List Int) (i : Nat), i < l.length → (l.map D.int)[i]? = some (.int (l.getD i 0)) := fun l i h => by
          rw [List.getElem?_map, List.getElem?_eq_getElem h, List.getD_eq_getElem?_getD, List.getElem?_eq_getElem h]; rfl
        generalize hS : ([[D.int 0], ls.map .int, [.int 0], hs.map .int, [.int 0], fs.map .int] : Sto) = S0
        have hl : evE (run co pf n) co (.lc (.tup (.cons (.bin .mod (.bin .sub (.ix (.v 6) (.v 9)) (.ix (.v 8) (.v 9))) (.v 3)) (.cons (.bin .mod (.bin .sub (.ix (.v 7) (.v 9)) (.bin .mul (.v 4) (.ix (.v 8) (.v 9)))) (.v 3)) .nil))) (.nm 9) (.range1 (.v 5)) .yes [9])
            [some (dG p c), some (dR a), some (dR b), some (.int p), some (.int c), some (.int m), some (.lst 1), some (.lst 3), some (.lst 5), o9, o10, o11, o12, o13, o14] S0 = .ok (.lst S0.length) (S0 ++ [(List.range m).map fun i => dE (rd p (lm c a (M.co b) i))]) := by
          refine evE_lc (gd := []) (S1 := S0) (fun i : Nat => D.int i) _ (List.range m) (evI_r1 (by simp [evE]) (by omega)) rfl (by simp; omega) fun i hi => ?_
          have hi' : i < m := by simpa using hi
          refine ⟨[some (dG p c), some (dR a), some (dR b), some (.int p), some (.int c), some (.int m), some (.lst 1), some (.lst 3), some (.lst 5), some (.int i), o10, o11, o12, o13, o14], by simp [asg, wipeR], ?_⟩
          have i1 : ixR (.lst 1) (.int (i : Int)) S0 = .ok (.int (ls.getD i 0)) S0 := ix_nat (xs := ls.map .int) (by rw [← hS]; rfl) (g6 ls i (by omega))
          have i2 : ixR (.lst 3) (.int (i : Int)) S0 = .ok (.int (hs.getD i 0)) S0 := ix_nat (xs := hs.map .int) (by rw [← hS]; rfl) (g6 hs i (by omega))
          have i3 : ixR (.lst 5) (.int (i : Int)) S0 = .ok (.int (fs.getD i 0)) S0 := ix_nat (xs := fs.map .int) (by rw [← hS]; rfl) (g6 fs i (by omega))
          rw [← hV]
          simp [-List.getD_eq_getElem?_getD, evE, evEs, i1, i2, i3, binR, intB, G.pp, mkL G.ca G.cb, newT_ok, dE, rd, Vf]
        obtain ⟨E, h7⟩ := (row_trimmed_ok (S := S0 ++ [(List.range m).map fun i => dE (rd p (lm c a (M.co b) i))]) (d := .lst S0.length) (r := (List.range m).map fun i => rd p (lm c a (M.co b) i))
          (.inr ⟨_, rfl, by simp [List.map_map, Function.comp_def]⟩) (by simp; omega)).call hn (by rfl)
        refine Ends.retE (dR (mulR p c a b)) ⟨S0 ++ [(List.range m).map fun i => dE (rd p (lm c a (M.co b) i))] ++ E, ?_⟩ fun _ => rfl
        rw [evE]
        simp only [evEs, hl, R.bind_ok]
        unfold mulR
        rw [hm]
        exact h7
end
end Z.K01
end
section
set_option Elab.async false
set_option linter.all false
set_option autoImplicit false
set_option maxRecDepth 100000
set_option maxHeartbeats 8000000
namespace Z.K01
open PySem Z M
section
variable {p c : Int} {iv : List Int}
theorem pair_plus_ok (G : Gr p c iv) {a b : Row} (ha : a.length ≤ 1000) (hb : b.length ≤ 1000) : Rc 4 "pair_plus" [.int p, dR a, dR b] (dR (addR p a b)) :=
  Rt.by (fun n S => r_pair_plus n _ S) rfl (by simp [pures, D.pure]) (by simp) fun n hn => by
    unfold b_pair_plus
    have h1 := G.ground.call (n := n) (by omega)
    have h2 := (rows_added_ok (c := c) G.pp ha hb).call (n := n) (by omega)
    exact Ends.ret _ [] (by simp [evE, evEs, h1, h2]) rfl
theorem pair_by_ok (G : Gr p c iv) {a b : Row} (ca : Red p a) (cb : Red p b) (ha : a.length ≤ 1000) (hb : b.length ≤ 1000) : Rc 4 "pair_by" [.int p, dR a, dR b] (dR (mulR p c a b)) :=
  Rt.by (fun n S => r_pair_by n _ S) rfl (by simp [pures, D.pure]) (by simp) fun n hn => by
    unfold b_pair_by
    have h1 := G.ground.call (n := n) (by omega)
    have h2 := (rows_multiplied_ok G ca cb ha hb).call (n := n) (by omega)
    exact Ends.ret _ [] (by simp [evE, evEs, h1, h2]) rfl
end
end Z.K01
end
section
set_option Elab.async false
set_option linter.all false
set_option autoImplicit false
set_option maxRecDepth 100000
set_option maxHeartbeats 8000000
namespace Z.K01
open PySem Z M
section
variable {p c : Int} {iv : List Int}
/-- a tuple of what each entry gives -/
theorem evE_tupmap {Γ : Calls} {α : Type} {elt : E} {tg : G} {it : I} {own : List Nat} {ρ : Rho} {S : Sto} (f g : α → D) (l : List α) (hit : evI Γ co it ρ S = .ok ([], l.map f) S) (hl : l.length ≤ 100000)
    (h : ∀ a ∈ l, ∃ ρa, asg tg (f a) (wipeR ρ own) = some ρa ∧ evE Γ co elt ρa S = .ok (g a) S) : evE Γ co (.bi .tuple (.cons (.lc elt tg it .yes own) .nil)) ρ S = .ok (.tup (l.map g)) (S ++ [l.map g]) := by
  rw [evE]
  simp only [evEs]
  rw [evE_lc (gd := []) f g l hit rfl hl h]
  simp only [R.bind_ok]
  exact biR_tupL (by simp)
def cjR (p c : Int) (a : Row) : Row := a.map fun x => rd p (cj c x)
theorem turned_poly_ok (G : Gr p c iv) {a : Row} (ha : a.length ≤ 1000) : Rc 4 "turned_poly" [.int p, dR a] (dR (cjR p c a)) :=
  Rt.by (fun n S => r_turned_poly n _ S) rfl (by simp [pures, D.pure]) (by simp) fun n hn => by
    unfold b_turned_poly
    have h1 := G.ground.call (n := n) (by omega)
    refine Ends.set (dG p c) [] (by simp [evE, evEs, h1]) ?_
    show Ends (run co pf n) co _ [some (.int p), some (dR a), some (dG p c), none] _ _
    refine Ends.ret (dR (cjR p c a)) [(cjR p c a).map dE] ?_ rfl
    have := evE_tupmap (Γ := run co pf n) (elt := .call "turned_thing" (.cons (.v 2) (.cons (.v 3) .nil))) (tg := .nm 3) (it := .e (.v 1)) (own := [3]) (ρ := [some (.int p), some (dR a), some (dG p c), none]) (S := []) dE (fun x => dE (rd p (cj c x))) a (by simp [evI, evE, dR]) (by omega) fun x hx =>
      ⟨[some (.int p), some (dR a), some (dG p c), some (dE x)], by simp [asg, wipeR], by simp [evE, evEs, (turned_thing_ok (c := c) G.pp G.ca G.cb x).call (n := n) (by omega)]⟩
    simp only [cjR, dR, List.map_map] at this ⊢
    exact this
theorem law_turned_row_ok (G : Gr p c iv) {a : Row} (ha : a.length ≤ 1000) : Rc 2 "_law_turned_row" [dF p c iv, dR a] (dR (cjR p c a)) :=
  Rt.by (fun n S => r__law_turned_row n _ S) rfl (by simp [pures, dF_pure]) (by simp) fun n hn => by
    unfold b__law_turned_row
    show Ends (run co pf n) co _ [some (dF p c iv), some (dR a), none] _ _
    refine Ends.ret (dR (cjR p c a)) [(cjR p c a).map dE] ?_ rfl
    have := evE_tupmap (Γ := run co pf n) (elt := .call "_law_turned" (.cons (.v 0) (.cons (.v 2) .nil))) (tg := .nm 2) (it := .e (.v 1)) (own := [2]) (ρ := [some (dF p c iv), some (dR a), none]) (S := []) dE (fun x => dE (rd p (cj c x))) a (by simp [evI, evE, dR]) (by omega) fun x hx =>
      ⟨[some (dF p c iv), some (dR a), some (dE x)], by simp [asg, wipeR], by simp [evE, evEs, (law_turned_ok (c := c) (iv := iv) G.pp G.ca G.cb x).call (n := n) hn]⟩
    simp only [cjR, dR, List.map_map] at this ⊢
    exact this
/-- the value at a thing -/
def wv (p c : Int) (t : El) (r : Row) : El := r.foldl (fun acc e => rd p (ad (rd p (ml c acc t)) e)) zr
theorem wv_snoc (t e : El) (r : Row) : wv p c t (r ++ [e]) = rd p (ad (rd p (ml c (wv p c t r) t)) e) := by simp [wv]
theorem wv_rd (G : Gr p c iv) (t : El) (r : Row) : rd p (wv p c t r) = wv p c t r := by
  rcases List.eq_nil_or_concat r with rfl | ⟨r', e, rfl⟩
  · simp [wv, rd]
  · rw [List.concat_eq_append, wv_snoc]; exact G.rr _
theorem row_worth_ok (G : Gr p c iv) {a : Row} {t : El} (ha : a.length ≤ 1000) : Rc 2 "row_worth" [dG p c, dR a, dE t] (dE (wv p c t a.reverse)) :=
  Rt.by (fun n S => r_row_worth n _ S) rfl (by simp [pures, dG, D.pure]) (by simp) fun n hn => by
    unfold b_row_worth
    refine Ends.set (dE zr) [] (by simp [evE, co_NOUGHT]) ?_
    show Ends (run co pf n) co _ [some (dG p c), some (dR a), some (dE t), some (dE zr), none] _ _
    refine Ends.fo2 [] dE a.reverse [] (by simp [evI, evE, dR, List.map_reverse]) (fun pre ρ S => ∃ o4 : Option D, S = [] ∧ ρ = [some (dG p c), some (dR a), some (dE t), some (dE (wv p c t pre)), o4]) ⟨none, rfl, rfl⟩ ?_ (fun _ _ _ => rfl) ?_
    · rintro pre e post ρ S _ ⟨o4, rfl, rfl⟩
      refine ⟨rfl, [some (dG p c), some (dR a), some (dE t), some (dE (wv p c t pre)), some (dE e)], by simp [asg], ?_⟩
      have h1 := (multiplied_grounds_ok (p := p) (c := c) G.pp G.ca G.cb (G.sm (wv_rd G t pre)) (y := t)).call (n := n) hn
      have h2 := (added_grounds_ok (c := c) G.pp (rd p (ml c (wv p c t pre) t)) e).call (n := n) hn
      refine Nx.set (dE (wv p c t (pre ++ [e]))) [] ?_ (Nx.nil ⟨some (dE e), rfl, rfl⟩)
      rw [wv_snoc]
      simp [evE, evEs, h1, h2]
    · rintro ρ1 S1 ⟨o4, rfl, rfl⟩
      exact Ends.ret (dE (wv p c t a.reverse)) [] (by simp [evE]) rfl
theorem law_worth_ok (G : Gr p c iv) {a : Row} {t : El} (ha : a.length ≤ 1000) : Rc 2 "_law_worth" [dF p c iv, dR a, dE t] (dE (wv p c t a.reverse)) :=
  Rt.by (fun n S => r__law_worth n _ S) rfl (by simp [pures, dF_pure]) (by simp) fun n hn => by
    unfold b__law_worth
    refine Ends.set (dE zr) [] (by simp [evE, evEs, newT_ok, dE]) ?_
    show Ends (run co pf n) co _ [some (dF p c iv), some (dR a), some (dE t), some (dE zr), none] _ _
    refine Ends.fo2 [] dE a.reverse [] (by simp [evI, evE, dR, revR, List.map_reverse]) (fun pre ρ S => ∃ o4 : Option D, S = [] ∧ ρ = [some (dF p c iv), some (dR a), some (dE t), some (dE (wv p c t pre)), o4]) ⟨none, rfl, rfl⟩ ?_ (fun _ _ _ => rfl) ?_
    · rintro pre e post ρ S _ ⟨o4, rfl, rfl⟩
      refine ⟨rfl, [some (dF p c iv), some (dR a), some (dE t), some (dE (wv p c t pre)), some (dE e)], by simp [asg], ?_⟩
      have h1 := (law_by_ok (p := p) (c := c) (iv := iv) G.pp G.ca G.cb (G.sm (wv_rd G t pre)) (y := t)).call (n := n) hn
      have h2 := (law_plus_ok (c := c) (iv := iv) G.pp (rd p (ml c (wv p c t pre) t)) e).call (n := n) hn
      refine Nx.set (dE (wv p c t (pre ++ [e]))) [] ?_ (Nx.nil ⟨some (dE e), rfl, rfl⟩)
      rw [wv_snoc]
      simp [evE, evEs, h1, h2]
    · rintro ρ1 S1 ⟨o4, rfl, rfl⟩
      exact Ends.ret (dE (wv p c t a.reverse)) [] (by simp [evE]) rfl
end
end Z.K01
end
section
set_option Elab.async false
set_option linter.all false
set_option autoImplicit false
set_option maxRecDepth 100000
set_option maxHeartbeats 8000000
namespace Z.K01
open PySem Z M
section
variable {p c : Int} {iv : List Int}
/-- the slope's places -/
def slP (p c : Int) (a : Row) : Row := (List.range (a.length - 1)).map fun i => rd p (ml c (M.co a (i + 1)) (((i + 1 : Nat) : Int), 0))
theorem slP_eq (a : Row) : (a.zipIdx.map fun q => rd p (ml c q.1 ((q.2 : Int), 0))).drop 1 = slP p c a := by
  refine List.ext_getElem (by simp [slP]) fun i h1 h2 => ?_
  have hi : i + 1 < a.length := by simp [slP] at h2; omega
  simp only [slP, List.getElem_drop, List.getElem_map, List.getElem_zipIdx, List.getElem_range, co_lt hi]
  rw [show 0 + (1 + i) = i + 1 by omega]
  congr 3
  omega
theorem row_slope_ok (G : Gr p c iv) {a : Row} (ca : Red p a) (ha : a.length ≤ 1000) : Rc 2 "row_slope" [dG p c, dR a] (dR (trim (slP p c a))) :=
  Rt.by (fun n S => r_row_slope n _ S) rfl (by simp [pures, dG, D.pure]) (by simp) fun n hn => by
    unfold b_row_slope
    show Ends (run co pf n) co _ [some (dG p c), some (dR a), none, none] _ _
    have h0 := evE_lc (Γ := run co pf n) (Co := co) (ρ := [some (dG p c), some (dR a), none, none]) (S := []) (S1 := []) (gd := []) (elt := .call "often_grounds" (.cons (.v 0) (.cons (.v 3) (.cons (.v 2) .nil)))) (tg := .tup (.cons (.nm 2) (.cons (.nm 3) .nil))) (it := .enum (.v 1)) (own := [2, 3])
      (fun q : El × Nat => D.tup [.int (q.2 : Int), dE q.1]) (fun q => dE (rd p (ml c q.1 ((q.2 : Int), 0)))) a.zipIdx (by simp [evI, evE, dR, enum_rows]) rfl (by simp; omega) fun q hq => by
        refine ⟨[some (dG p c), some (dR a), some (.int (q.2 : Int)), some (dE q.1)], by simp [asg, asgs, wipeR], ?_⟩
        have hx : q.1 ∈ a := by
          obtain ⟨x, i⟩ := q
          exact List.fst_mem_of_mem_zipIdx hq
        simp [evE, evEs, (often_grounds_ok (p := p) (c := c) G.pp (G.sm (ca _ hx)) (q.2 : Int)).call (n := n) hn]
    have e1 : (cut (a.zipIdx.map fun q => dE (rd p (ml c q.1 ((q.2 : Int), 0)))) (some 1) none) = (slP p c a).map dE := by
      rw [← slP_eq, show (some (1 : Int)) = some ((1 : Nat) : Int) from rfl, cut_from, List.map_drop, List.map_map]; rfl
    obtain ⟨E, h7⟩ := (row_trimmed_ok (S := [a.zipIdx.map fun q => dE (rd p (ml c q.1 ((q.2 : Int), 0))), (slP p c a).map dE]) (d := .lst 1) (r := slP p c a) (.inr ⟨1, rfl, rfl⟩) (by simp [slP]; omega)).call hn (by rfl)
    refine Ends.retE (dR (trim (slP p c a))) ⟨[a.zipIdx.map fun q => dE (rd p (ml c q.1 ((q.2 : Int), 0))), (slP p c a).map dE] ++ E, ?_⟩ fun _ => rfl
    rw [evE]
    simp only [evEs]
    rw [evE, h0]
    simp only [R.bind_ok, evO, evE, slR, List.length_nil, List.nil_append, List.getElem?_cons_zero, e1]
    rw [newL_ok (by simp [slP]; omega)]
    simp only [R.bind_ok, List.length_cons, List.length_nil, Nat.zero_add, List.cons_append, List.nil_append]
    exact h7
theorem law_slope_ok (G : Gr p c iv) {a : Row} (ca : Red p a) (ha : a.length ≤ 1000) : Rc 2 "_law_slope" [dF p c iv, dR a] (dR (trim (slP p c a))) :=
  Rt.by (fun n S => r__law_slope n _ S) rfl (by simp [pures, dF_pure]) (by simp) fun n hn => by
    unfold b__law_slope
    show Ends (run co pf n) co _ [some (dF p c iv), some (dR a), none] _ _
    have hr : evI (run co pf n) co (.range2 (.c (.int 1)) (.bi .len (.cons (.v 1) .nil))) [some (dF p c iv), some (dR a), none] [] = .ok ([], (List.range (a.length - 1)).map fun i : Nat => D.int ((i + 1 : Nat) : Int)) [] := by
      refine (evI_r2' (i := 1) (j := a.length) (S1 := []) (S2 := []) (by simp [evE]) (by simp [evE, evEs, dR]) ⟨⟨by decide, by decide⟩, bnd_nat (by omega)⟩).trans ?_
      rw [rangeD_map, show ((a.length : Int) - 1).toNat = a.length - 1 by omega]
      congr 2
      refine List.map_congr_left fun i _ => ?_
      congr 1; omega
    have h0 := evE_lc (Γ := run co pf n) (Co := co) (ρ := [some (dF p c iv), some (dR a), none]) (S := []) (S1 := []) (gd := []) (elt := .call "_law_often" (.cons (.v 0) (.cons (.ix (.v 1) (.v 2)) (.cons (.v 2) .nil)))) (tg := .nm 2) (own := [2])
      (fun i : Nat => D.int ((i + 1 : Nat) : Int)) (fun i => dE (rd p (ml c (M.co a (i + 1)) (((i + 1 : Nat) : Int), 0)))) (List.range (a.length - 1)) hr rfl (by simp; omega) fun i hi => by
        have hi' : i + 1 < a.length := by have := List.mem_range.mp hi; omega
        refine ⟨[some (dF p c iv), some (dR a), some (.int ((i + 1 : Nat) : Int))], by simp [asg, wipeR], ?_⟩
        have h1 := (law_often_ok (p := p) (c := c) (iv := iv) G.pp (G.sm (rd_co G.pp ca (i + 1))) ((i + 1 : Nat) : Int)).call (n := n) hn
        have h2 : ∀ S, ixR (dR a) (.int ((i + 1 : Nat) : Int)) S = .ok (dE (M.co a (i + 1))) S := fun S => ixT_nat (row_get hi')
        simp only [evE, evEs, List.getElem?_cons_zero, List.getElem?_cons_succ, R.bind_ok, h2, h1]
    obtain ⟨E, h7⟩ := (law_trim_ok (S := [(slP p c a).map dE]) (d := .lst 0) (r := slP p c a) (.inr ⟨0, rfl, rfl⟩) (by simp [slP]; omega)).call hn (by rfl)
    refine Ends.retE (dR (trim (slP p c a))) ⟨[(slP p c a).map dE] ++ E, ?_⟩ fun _ => rfl
    rw [evE]
    simp only [evEs]
    rw [h0]
    simp only [R.bind_ok, List.length_nil, List.nil_append]
    rw [← h7]
    simp [slP, Function.comp_def]
end
end Z.K01
end
section
set_option Elab.async false
set_option linter.all false
set_option autoImplicit false
set_option maxRecDepth 100000
set_option maxHeartbeats 8000000
namespace Z.K01
open PySem Z M
section
variable {p c : Int} {iv : List Int}
/-- all entries by one thing -/
def oftR (p c : Int) (t : El) (a : Row) : Row := a.map fun x => rd p (ml c x t)
theorem row_often_ok (G : Gr p c iv) {a : Row} {t : El} (ca : Red p a) (ha : a.length ≤ 1000) : Rc 2 "row_often" [dG p c, dR a, dE t] (dR (trim (oftR p c t a))) :=
  Rt.by (fun n S => r_row_often n _ S) rfl (by simp [pures, dG, D.pure]) (by simp) fun n hn => by
    unfold b_row_often
    show Ends (run co pf n) co _ [some (dG p c), some (dR a), some (dE t), none] _ _
    have h0 := evE_lc (Γ := run co pf n) (Co := co) (ρ := [some (dG p c), some (dR a), some (dE t), none]) (S := []) (S1 := []) (gd := []) (elt := .call "multiplied_grounds" (.cons (.v 0) (.cons (.v 3) (.cons (.v 2) .nil)))) (tg := .nm 3) (it := .e (.v 1)) (own := [3])
      dE (fun x => dE (rd p (ml c x t))) a (by simp [evI, evE, dR]) rfl (by omega) fun x hx => by
        refine ⟨[some (dG p c), some (dR a), some (dE t), some (dE x)], by simp [asg, wipeR], ?_⟩
        simp [evE, evEs, (multiplied_grounds_ok (p := p) (c := c) G.pp G.ca G.cb (G.sm (ca x hx)) (y := t)).call (n := n) hn]
    obtain ⟨E, h7⟩ := (row_trimmed_ok (S := [(oftR p c t a).map dE]) (d := .lst 0) (r := oftR p c t a) (.inr ⟨0, rfl, rfl⟩) (by simp [oftR]; omega)).call hn (by rfl)
    refine Ends.retE (dR (trim (oftR p c t a))) ⟨[(oftR p c t a).map dE] ++ E, ?_⟩ fun _ => rfl
    rw [evE]
    simp only [evEs]
    rw [h0]
    simp only [R.bind_ok, List.length_nil, List.nil_append]
    rw [← h7]
    simp [oftR, Function.comp_def]
/-- monic -/
def monR (p c : Int) (iv : List Int) (a : Row) : Row := oftR p c (bk p c iv (M.co a (a.length - 1))) a
theorem monR_can (G : Gr p c iv) {a : Row} (ca : Can p a) : Can p (monR p c iv a) := by
  refine ⟨fun x hx => ?_, fun h => ?_⟩
  · simp only [monR, oftR, List.mem_map] at hx
    obtain ⟨y, _, rfl⟩ := hx
    exact G.rr _
  · by_cases hne : a = []
    · subst hne; simp [monR, oftR] at h
    · have hl : 0 < a.length := List.length_pos_iff.mpr hne
      simp only [monR, oftR, List.getLast?_map, Option.map_eq_some_iff] at h
      obtain ⟨y, hy, h⟩ := h
      have e1 : M.co a (a.length - 1) = y := by
        rw [List.getLast?_eq_getElem?, List.getElem?_eq_getElem (by omega)] at hy
        rw [co_lt (by omega)]; exact Option.some.inj hy
      rw [e1] at h
      have hyz : y ≠ zr := fun e => ca.last (by rw [hy, e])
      have hyr : rd p y = y := ca.red y (List.mem_of_getLast? hy)
      have := (bk_inv G hyr hyz).rd_eq
      rw [h] at this
      have h1 := congrArg Prod.fst this
      simp only [rd] at h1
      have := G.p1
      rw [Int.emod_eq_of_lt (by omega) (by omega)] at h1
      omega
end
end Z.K01
end
section
set_option Elab.async false
set_option linter.all false
set_option autoImplicit false
set_option maxRecDepth 100000
set_option maxHeartbeats 8000000
namespace Z.K01
open PySem Z M
section
variable {p c : Int} {iv : List Int}
theorem rd_one (G : Gr p c iv) : rd p (1, 0) = (1, 0) := by
  have := G.p1
  simp only [rd]
  rw [Int.emod_eq_of_lt (by omega) (by omega)]
  simp
theorem bk_one (G : Gr p c iv) : bk p c iv (1, 0) = (1, 0) := by
  have h := bk_inv G (rd_one G) (by simp)
  rw [one_ml] at h
  rw [← bk_rd G, h.rd_eq, rd_one G]
theorem monR_one (G : Gr p c iv) {a : Row} (ca : Red p a) (h : M.co a (a.length - 1) = (1, 0)) : monR p c iv a = a := by
  unfold monR oftR
  rw [h, bk_one G]
  refine (List.map_congr_left (g := id) fun x hx => ?_).trans (List.map_id a)
  rw [ml_one]; exact ca x hx
theorem row_monic_ok (G : Gr p c iv) {a : Row} (ca : Can p a) (ha : a.length ≤ 1000) : Rc 3 "row_monic" [dG p c, dR a] (dR (monR p c iv a)) :=
  Rt.by (fun n S => r_row_monic n _ S) rfl (by simp [pures, dG, D.pure]) (by simp) fun n hn => by
    have e0 : ∀ r : Row, eqR (dR r) (.tup []) [] = some (decide (r = [])) := fun r => eqR_dR r [] []
    unfold b_row_monic
    show Ends (run co pf n) co _ [some (dG p c), some (dR a)] _ _
    by_cases h0 : a = []
    · subst h0
      exact Ends.iteT [] (by simp [evT, evE, evEs, newT_ok, cmpR, e0, truthR]) (Ends.ret (dR []) [] (by simp [evE]) rfl)
    · have ix1 : ∀ S, ixR (dR a) (.int (-1)) S = .ok (dE (M.co a (a.length - 1))) S := fun S => ixR_T (at_last h0)
      have hl : 0 < a.length := List.length_pos_iff.mpr h0
      by_cases h1 : M.co a (a.length - 1) = (1, 0)
      · rw [monR_one G ca.red h1]
        exact Ends.iteT [] (by simp [evT, evE, evEs, newT_ok, cmpR, e0, truthR, h0, ix1, co_ONE, eqR_dE, h1]) (Ends.ret (dR a) [] (by simp [evE]) rfl)
      · refine Ends.iteF [] (by simp [evT, evE, evEs, newT_ok, cmpR, e0, truthR, h0, ix1, co_ONE, eqR_dE, h1]) ?_
        have h2 := (inverted_ok G (x := M.co a (a.length - 1)) (rd_co G.pp ca.red _)).call (n := n) (by omega)
        have h3 := (row_often_ok G (t := bk p c iv (M.co a (a.length - 1))) ca.red ha).call (n := n) (by omega)
        have h4 : trim (oftR p c (bk p c iv (M.co a (a.length - 1))) a) = monR p c iv a := can_trim_eq (monR_can G ca)
        rw [h4] at h3
        exact Ends.ret (dR (monR p c iv a)) [] (by simp [evE, evEs, ix1, h2, h3]) rfl
theorem law_monic_ok (G : Gr p c iv) {a : Row} (ca : Can p a) (ha : a.length ≤ 1000) : Rc 3 "_law_monic" [dF p c iv, dR a] (dR (monR p c iv a)) :=
  Rt.by (fun n S => r__law_monic n _ S) rfl (by simp [pures, dF_pure]) (by simp) fun n hn => by
    have e0 : ∀ r : Row, eqR (dR r) (.tup []) [] = some (decide (r = [])) := fun r => eqR_dR r [] []
    unfold b__law_monic
    show Ends (run co pf n) co _ [some (dF p c iv), some (dR a), none, none] _ _
    by_cases h0 : a = []
    · subst h0
      exact Ends.iteT [] (by simp [evT, evE, evEs, newT_ok, cmpR, e0, truthR]) (Ends.ret (dR []) [] (by simp [evE, evEs, newT_ok, dR]) rfl)
    · refine Ends.iteF [] (by simp [evT, evE, evEs, newT_ok, cmpR, e0, truthR, h0]) ?_
      have ix1 : ∀ S, ixR (dR a) (.int (-1)) S = .ok (dE (M.co a (a.length - 1))) S := fun S => ixR_T (at_last h0)
      have h2 := (law_back_ok G (x := M.co a (a.length - 1)) (rd_co G.pp ca.red _)).call (n := n) (by omega)
      refine Ends.set (dE (bk p c iv (M.co a (a.length - 1)))) [] (by simp [evE, evEs, ix1, h2]) ?_
      show Ends (run co pf n) co _ [some (dF p c iv), some (dR a), some (dE (bk p c iv (M.co a (a.length - 1)))), none] _ _
      refine Ends.ret (dR (monR p c iv a)) [(monR p c iv a).map dE] ?_ rfl
      have := evE_tupmap (Γ := run co pf n) (elt := .call "_law_by" (.cons (.v 0) (.cons (.v 3) (.cons (.v 2) .nil)))) (tg := .nm 3) (it := .e (.v 1)) (own := [3]) (ρ := [some (dF p c iv), some (dR a), some (dE (bk p c iv (M.co a (a.length - 1)))), none]) (S := []) dE (fun x => dE (rd p (ml c x (bk p c iv (M.co a (a.length - 1)))))) a (by simp [evI, evE, dR]) (by omega) fun x hx =>
        ⟨[some (dF p c iv), some (dR a), some (dE (bk p c iv (M.co a (a.length - 1)))), some (dE x)], by simp [asg, wipeR], by simp [evE, evEs, (law_by_ok (p := p) (c := c) (iv := iv) G.pp G.ca G.cb (G.sm (ca.red x hx)) (y := bk p c iv (M.co a (a.length - 1)))).call (n := n) (by omega)]⟩
      simp only [monR, oftR, dR, List.map_map] at this ⊢
      exact this
end
end Z.K01
end
section
set_option Elab.async false
set_option linter.all false
set_option autoImplicit false
set_option maxRecDepth 100000
set_option maxHeartbeats 8000000
namespace Z.K01
open PySem Z M
section
variable {p c : Int} {iv : List Int}
theorem pair_at_ok (G : Gr p c iv) {a : Row} {t : El} (ha : a.length ≤ 1000) : Rc 4 "pair_at" [.int p, dR a, dE t] (dE (wv p c t a.reverse)) :=
  Rt.by (fun n S => r_pair_at n _ S) rfl (by simp [pures, D.pure]) (by simp) fun n hn => by
    unfold b_pair_at
    have h1 := G.ground.call (n := n) (by omega)
    have h2 := (row_worth_ok (t := t) G ha).call (n := n) (by omega)
    exact Ends.ret _ [] (by simp [evE, evEs, h1, h2]) rfl
theorem pair_derived_ok (G : Gr p c iv) {a : Row} (ca : Red p a) (ha : a.length ≤ 1000) : Rc 4 "pair_derived" [.int p, dR a] (dR (trim (slP p c a))) :=
  Rt.by (fun n S => r_pair_derived n _ S) rfl (by simp [pures, D.pure]) (by simp) fun n hn => by
    unfold b_pair_derived
    have h1 := G.ground.call (n := n) (by omega)
    have h2 := (row_slope_ok G ca ha).call (n := n) (by omega)
    exact Ends.ret _ [] (by simp [evE, evEs, h1, h2]) rfl
/-- the ints as pairs -/
def em (r : List Int) : Row := r.map fun x => (x, 0)
theorem pair_of_ok {r : List Int} (hr : r.length ≤ 1000) : Rc 1 "pair_of" [.int p, dI r] (dR (em r)) :=
  Rt.by (fun n S => r_pair_of n _ S) rfl (by simp [pures, D.pure]) (by simp) fun n hn => by
    unfold b_pair_of
    show Ends (run co pf n) co _ [some (.int p), some (dI r), none] _ _
    refine Ends.ret (dR (em r)) [(em r).map dE] ?_ rfl
    have := evE_tupmap (Γ := run co pf n) (elt := .tup (.cons (.v 2) (.cons (.c (.int 0)) .nil))) (tg := .nm 2) (it := .e (.v 1)) (own := [2]) (ρ := [some (.int p), some (dI r), none]) (S := []) D.int (fun x => dE (x, 0)) r (by simp [evI, evE, dI]) (by omega) fun x hx =>
      ⟨[some (.int p), some (dI r), some (.int x)], by simp [asg, wipeR], by simp [evE, evEs, newT_ok, dE]⟩
    simp only [em, dR, List.map_map] at this ⊢
    exact this
/-- the low numbers of a row -/
theorem law_numbers_ok {a : Row} (ha : a.length ≤ 1000) : Rc 1 "_law_numbers" [dR a] (dI (a.map (·.1))) :=
  Rt.by (fun n S => r__law_numbers n _ S) rfl (by simp [pures]) (by simp) fun n hn => by
    unfold b__law_numbers
    show Ends (run co pf n) co _ [some (dR a), none] _ _
    refine Ends.ret (dI (a.map (·.1))) [(a.map (·.1)).map D.int] ?_ rfl
    have := evE_tupmap (Γ := run co pf n) (elt := .ix (.v 1) (.c (.int 0))) (tg := .nm 1) (it := .e (.v 0)) (own := [1]) (ρ := [some (dR a), none]) (S := []) dE (fun x => D.int x.1) a (by simp [evI, evE, dR]) (by omega) fun x hx =>
      ⟨[some (dR a), some (dE x)], by simp [asg, wipeR], by simp [evE, dE, ixR, itemsOf, atI, L2.atI, L2.ixN]⟩
    simp only [dI, List.map_map] at this ⊢
    exact this
end
end Z.K01
end
section
set_option Elab.async false
set_option linter.all false
set_option autoImplicit false
/-! M4: the inner step of a long division; the length of a rest. -/
namespace M
variable {p c : Int}
theorem sub_snoc (f : Sq) (n : Nat) (x y : El) (b : Row) : ssb f (sXn n (sml c x (co (b ++ [y])))) = fun i => if i = n + b.length then sb (ssb f (sXn n (sml c x (co b))) i) (ml c x y) else ssb f (sXn n (sml c x (co b))) i := by
  funext i
  rw [co_snoc]
  simp only [ssb, sXn, sml]
  by_cases h : n ≤ i
  · rw [if_pos h, if_pos h]
    by_cases h2 : i = n + b.length
    · rw [if_pos h2, if_pos (by omega)]
      have : co b (i - n) = zr := co_ge (by omega)
      rw [this, ml_zr]
      simp [sb]
    · rw [if_neg h2, if_neg (by omega)]
  · rw [if_neg h, if_neg h, if_neg (by omega)]
theorem sub_nil (f : Sq) (n : Nat) (x : El) : ssb f (sXn n (sml c x (co []))) = f := by
  funext i
  simp only [ssb, sXn, sml, co_nil, ml_zr]
  split <;> simp [sb]
theorem trim_short (hp : 0 < p) {r : Row} {n : Nat} (hr : Red p r) (h : ∀ j, n ≤ j → Q p (co r j) zr) : (trim r).length ≤ n := by
  by_cases hl : (trim r).length ≤ n
  · exact hl
  · exfalso
    have h1 := (h ((trim r).length - 1) (by omega)).rd_eq
    rw [rd_co hp hr] at h1
    rw [← trim_co, co_lt (by omega)] at h1
    have h2 := trim_last r
    rw [List.getLast?_eq_getElem?, List.getElem?_eq_getElem (by omega), h1] at h2
    exact h2 (by simp [rd])
theorem red_rev {r : Row} (h : Red p r) : Red p r.reverse := fun x hx => h x (List.mem_reverse.mp hx)
theorem red_snoc {r : Row} {x : El} (h : Red p r) (hx : rd p x = x) : Red p (r ++ [x]) := fun y hy => by
  rcases List.mem_append.mp hy with z | z
  · exact h y z
  · rw [List.mem_singleton.mp z]; exact hx
theorem red_set {r : Row} {j : Nat} {x : El} (h : Red p r) (hx : rd p x = x) : Red p (r.set j x) := fun y hy => by
  rcases List.mem_or_eq_of_mem_set hy with z | z
  · exact h y z
  · rw [z]; exact hx
/-- the end of a long division -/
theorem Dinv.end {L d qs rest : Row} {n : Nat} (hp : 0 < p) (D : Dinv p c L d n 0 qs rest) (hd : d.length = n + 1) (rq : Red p qs) (rr : Red p rest) : DivOk p c L d (trim qs.reverse) (trim rest) := by
  refine D.done hd (can_trim (red_rev rq)) (PE.of_eq (trim_co _)) (can_trim rr) (trim_short hp rr fun j hj => D.hi j (by omega)) fun i _ => ?_
  rw [trim_co]
  exact Q.refl
end M
namespace M
variable {p c : Int}
theorem Dinv.start2 {L d : Row} {n N : Nat} (hL : L.length ≤ N + n) : Dinv p c L d n N [] L := by
  refine ⟨fun i => ?_, fun j hj => by rw [co_ge (by omega)]; exact Q.refl⟩
  rw [lm_zeros]
  simp only [List.reverse_nil, lm, sad, sXn]
  refine Q.of_eq ?_
  split <;> simp [zr_ad]
end M
end
section
set_option Elab.async false
set_option linter.all false
set_option autoImplicit false
set_option maxRecDepth 100000
set_option maxHeartbeats 8000000
namespace Z.K01
open PySem Z M
section
variable {p c : Int} {iv : List Int}
theorem set_row {r : Row} {j : Nat} {x : El} : (r.map dE).set j (dE x) = (r.set j x).map dE := by rw [List.map_set]
/-- the gaps, from above -/
theorem gaps (lo : Int) {Γ : Calls} {e1 : E} {ρ : Rho} {S : Sto} (h1 : evE Γ co e1 ρ S = .ok (.int lo) S) (hb : bndOk lo) :
    evI Γ co (.range3 e1 (.neg (.c (.int 1))) (.neg (.c (.int 1)))) ρ S = .ok ([], (List.range (lo + 1).toNat).map fun i : Nat => D.int (lo - i)) S := by
  refine (evI_r3' (i := lo) (j := -1) (k := -1) (S1 := S) (S2 := S) (S3 := S) h1 (by simp [evE]) (by simp [evE]) ⟨hb, ⟨by decide, by decide⟩, rfl⟩).trans ?_
  rw [stepD_map, show lo - -1 = lo + 1 by omega]
theorem law_parts_ends (G : Gr p c iv) {L d : Row} (cL : Can p L) (cd : Can p d) (hL : L.length ≤ 1000) (hd : d.length ≤ 1000) (hd0 : d ≠ []) {n : Nat} (hn : 2 ≤ n) :
    Ends (run co pf n) co b__law_rows_parts [some (dF p c iv), some (dR L), some (dR d), none, none, none, none, none, none, none] [] fun x _ => ∃ q r, DivOk p c L d q r ∧ x = .tup [dR q, dR r] := by
  obtain ⟨m, hm⟩ : ∃ m, d.length = m + 1 := ⟨d.length - 1, by have := List.length_pos_iff.mpr hd0; omega⟩
  have ld : M.co d (d.length - 1) = M.co d m := by rw [hm]; rfl
  have dz : M.co d m ≠ zr := fun e => cd.last (by rw [List.getLast?_eq_getElem?, List.getElem?_eq_getElem (by omega)]; rw [co_lt (by omega)] at e; rw [← e]; congr 1; simp [hm])
  have dr := rd_co G.pp cd.red m
  have inv := bk_inv G dr dz
  generalize hbk : bk p c iv (M.co d m) = v at inv
  have vr : rd p v = v := by rw [← hbk]; exact bk_rd G _
  unfold b__law_rows_parts
  have h1 := (law_back_ok G (x := M.co d m) dr).call (n := n) hn
  rw [hbk] at h1
  have ix1 : ∀ S, ixR (dR d) (.int (-1)) S = .ok (dE (M.co d m)) S := fun S => by rw [← ld]; exact ixR_T (at_last hd0)
  refine Ends.par [dE v, .lst 0, .int d.length] [L.map dE] [some (dF p c iv), some (dR L), some (dR d), some (dE v), some (.lst 0), some (.int d.length), none, none, none, none] ?_ (by simp [setAll]) ?_
  · have nl : ∀ S, newL (L.map dE) S = .ok (.lst S.length) (S ++ [L.map dE]) := fun S => newL_ok (by simp; omega)
    have e1 : evE (run co pf n) co (.call "_law_back" (.cons (.v 0) (.cons (.ix (.v 2) (.neg (.c (.int 1)))) .nil))) [some (dF p c iv), some (dR L), some (dR d), none, none, none, none, none, none, none] [] = .ok (dE v) [] := by
      simp [evE, evEs, ix1, h1]
    rw [evEs, e1]
    simp [evE, evEs, dR, nl]
  refine Ends.set (.lst 1) [L.map dE, []] (by simp [evE, evEs, newL_ok]) ?_
  show Ends (run co pf n) co _ [some (dF p c iv), some (dR L), some (dR d), some (dE v), some (.lst 0), some (.int d.length), some (.lst 1), none, none, none] _ _
  generalize hlo : (L.length : Int) - d.length = lo
  have hN : L.length ≤ (lo + 1).toNat + m := by omega
  generalize hNN : (lo + 1).toNat = N at hN
  have hb : bndOk lo := ⟨by omega, by omega⟩
  have hg : evI (run co pf n) co (.range3 (.bin .sub (.bi .len (.cons (.v 1) .nil)) (.v 5)) (.neg (.c (.int 1))) (.neg (.c (.int 1)))) [some (dF p c iv), some (dR L), some (dR d), some (dE v), some (.lst 0), some (.int d.length), some (.lst 1), none, none, none] [L.map dE, []] = .ok ([], (List.range N).map fun i : Nat => D.int (lo - i)) [L.map dE, []] := by
    rw [← hNN]
    refine gaps lo ?_ hb
    rw [← hlo]
    simp [evE, evEs, dR, binR, intB]
  refine Ends.fo2 [] (fun i : Nat => D.int (lo - i)) (List.range N) [L.map dE, []] hg
    (fun pre ρ S => ∃ (qs rest : Row) (o7 o8 o9 : Option D), ρ = [some (dF p c iv), some (dR L), some (dR d), some (dE v), some (.lst 0), some (.int d.length), some (.lst 1), o7, o8, o9] ∧ S = [rest.map dE, qs.map dE] ∧ rest.length = L.length ∧ Red p rest ∧ Red p qs ∧ qs.length = pre.length ∧ Dinv p c L d m (N - pre.length) qs rest)
    ⟨[], L, none, none, none, rfl, rfl, rfl, cL.red, (fun _ h => nomatch h), rfl, Dinv.start2 hN⟩ ?_ (fun _ _ _ => rfl) ?_
  · rintro pre k post ρ S hk ⟨qs, rest, o7, o8, o9, rfl, rfl, hrl, rr, rq, hql, DV⟩
    obtain ⟨hk1, hk2⟩ := mem_range_split hk
    obtain ⟨g, hg1⟩ : ∃ g : Nat, N = g + 1 + k := ⟨N - 1 - k, by omega⟩
    have hgk : lo - (k : Int) = (g : Int) := by omega
    have hLN : L.length = N + m := by omega
    rw [hgk]
    refine ⟨rfl, [some (dF p c iv), some (dR L), some (dR d), some (dE v), some (.lst 0), some (.int d.length), some (.lst 1), some (.int g), o8, o9], by simp [asg], ?_⟩
    have hD : N - pre.length = g + 1 := by omega
    rw [hD] at DV
    have hx : rd p (M.co rest (g + m)) = M.co rest (g + m) := rd_co G.pp rr _
    generalize hh : rd p (ml c (M.co rest (g + m)) v) = head
    have hhr : rd p head = head := by rw [← hh]; exact G.rr _
    have hq : Q p (ml c head (M.co d m)) (M.co rest (g + m)) := by
      have a1 : Q p (ml c head (M.co d m)) (ml c (ml c (M.co rest (g + m)) v) (M.co d m)) := by rw [← hh]; exact Q.rd.ml Q.refl
      rw [ml_assoc, ml_comm (x := v)] at a1
      have a2 := (Q.refl (x := M.co rest (g + m)) (p := p)).ml (c := c) inv
      rw [ml_one] at a2
      exact a1.trans a2
    have h2 := (law_by_ok (p := p) (c := c) (iv := iv) G.pp G.ca G.cb (G.sm hx) (y := v)).call (n := n) (by omega)
    rw [hh] at h2
    have ix2 : ixR (.lst 0) (.int ((g + m : Nat) : Int)) [rest.map dE, qs.map dE] = .ok (dE (M.co rest (g + m))) [rest.map dE, qs.map dE] := ix_nat rfl (row_get (by omega))
    have id1 : ∀ S, binR .add (.int (g : Int)) (.int (d.length : Int)) S = .ok (.int ((g : Int) + d.length)) S := fun S => rfl
    have id2 : ∀ S, binR .sub (.int ((g : Int) + d.length)) (.int 1) S = .ok (.int ((g + m : Nat) : Int)) S := fun S => by
      show R.ok (D.int ((g : Int) + d.length - 1)) S = _
      rw [show (g : Int) + d.length - 1 = ((g + m : Nat) : Int) by omega]
    refine Nx.set (dE head) [rest.map dE, qs.map dE] ?_ ?_
    · simp only [evE, evEs, List.getElem?_cons_zero, List.getElem?_cons_succ, R.bind_ok, id1, id2, ix2, h2]
    refine Nx.ex .non [rest.map dE, (qs ++ [head]).map dE] ?_ ?_
    · have hs : qs.length < sizeLine := Nat.lt_of_lt_of_le (show qs.length < 100000 by omega) (by decide)
      simp [evE, evEs, mtR, hs]
    show Nx (run co pf n) co _ [some (dF p c iv), some (dR L), some (dR d), some (dE v), some (.lst 0), some (.int d.length), some (.lst 1), some (.int g), some (dE head), o9] _ _
    refine Nx.fo [] (fun j : Nat => Z.D.int j) (List.range d.length) [rest.map dE, (qs ++ [head]).map dE] (evI_r1 (by simp [evE]) (by omega))
      (fun pre2 ρ S => ∃ (rs : Row) (o9 : Option Z.D), ρ = [some (dF p c iv), some (dR L), some (dR d), some (dE v), some (.lst 0), some (.int d.length), some (.lst 1), some (.int g), some (dE head), o9] ∧ S = [rs.map dE, (qs ++ [head]).map dE] ∧ rs.length = L.length ∧ Red p rs ∧
        PE p (M.co rs) (ssb (M.co rest) (sXn g (sml c head (M.co (d.take pre2.length))))))
      ⟨rest, o9, rfl, rfl, hrl, rr, by rw [List.length_nil, List.take_zero, sub_nil]; exact PE.refl⟩ ?_ (fun _ _ _ => rfl) ?_
    · rintro pre2 j post2 ρ S hj ⟨rs, o9, rfl, rfl, hrs, rrs, hco⟩
      obtain ⟨hj1, hj2⟩ := mem_range_split hj
      refine ⟨rfl, [some (dF p c iv), some (dR L), some (dR d), some (dE v), some (.lst 0), some (.int d.length), some (.lst 1), some (.int g), some (dE head), some (.int j)], by simp [asg], ?_⟩
      have gj : ∀ S, binR .add (.int (g : Int)) (.int (j : Int)) S = .ok (.int ((g + j : Nat) : Int)) S := fun S => by simp [binR, intB]
      have ed : ∀ S, ixR (dR d) (.int (j : Int)) S = .ok (dE (M.co d j)) S := fun S => ixT_nat (row_get hj2)
      have er : ixR (.lst 0) (.int ((g + j : Nat) : Int)) [rs.map dE, (qs ++ [head]).map dE] = .ok (dE (M.co rs (g + j))) [rs.map dE, (qs ++ [head]).map dE] := ix_nat rfl (row_get (by omega))
      have hb1 := (law_by_ok (p := p) (c := c) (iv := iv) G.pp G.ca G.cb (G.sm hhr) (y := M.co d j)).call (n := n) (by omega)
      have hl1 := (law_less_ok (c := c) (iv := iv) G.pp (M.co rs (g + j)) (rd p (ml c head (M.co d j)))).call (n := n) (by omega)
      refine Nx.seq _ _ (setix_nat (n := 0) (j := g + j) (xs := rs.map dE) (S1 := [rs.map dE, (qs ++ [head]).map dE]) (v := dE (rd p (sb (M.co rs (g + j)) (rd p (ml c head (M.co d j)))))) ?_ (by simp [evE]) (by simp [evE, gj]) rfl (by simpa using (by omega : g + j < rs.length))) (Nx.nil ?_)
      · simp only [evE, evEs, List.getElem?_cons_zero, List.getElem?_cons_succ, R.bind_ok, gj, er, ed, hb1, hl1]
      · refine ⟨rs.set (g + j) (rd p (sb (M.co rs (g + j)) (rd p (ml c head (M.co d j))))), some (.int j), rfl, by rw [set_row]; rfl, by simpa using hrs, red_set rrs (G.rr _), ?_⟩
        have e4 : d.take (pre2 ++ [j]).length = d.take pre2.length ++ [M.co d j] := by
          rw [List.length_append, List.length_singleton, ← hj1, co_lt hj2, List.take_add_one, List.getElem?_eq_getElem hj2]; rfl
        rw [e4, sub_snoc, co_set (by omega)]
        intro i
        have e5 : (d.take pre2.length).length = j := by simp; omega
        rw [e5]
        dsimp only
        split
        · rename_i hi
          subst hi
          exact Q.rd.trans ((hco _).sb Q.rd)
        · exact hco i
    · rintro ρ1 S1 ⟨rs, o9, rfl, rfl, hrs, rrs, hco⟩
      simp only [List.length_range, List.take_length] at hco
      refine Nx.nil ⟨qs ++ [head], rs, some (.int g), some (dE head), o9, rfl, rfl, hrs, rrs, red_snoc rq hhr, by simp [hql], ?_⟩
      rw [show N - (pre ++ [k]).length = g by simp; omega]
      exact DV.step hm hq hco
  · rintro ρ1 S1 ⟨qs, rest, o7, o8, o9, rfl, rfl, hrl, rr, rq, hql, DV⟩
    simp only [List.length_range, Nat.sub_self] at DV hql
    have hq2 : qs.length ≤ 1000 := by omega
    obtain ⟨E1, t1⟩ := (law_trim_ok (S := [rest.map dE, qs.map dE, qs.reverse.map dE]) (d := .lst 2) (r := qs.reverse) (.inr ⟨2, rfl, rfl⟩) (by simp; omega)).call (n := n) (by omega) (by rfl)
    obtain ⟨E2, t2⟩ := (law_trim_ok (S := [rest.map dE, qs.map dE, qs.reverse.map dE] ++ E1) (d := .lst 0) (r := rest) (.inr ⟨0, rfl, rfl⟩) (by omega)).call (n := n) (by omega) (by rfl)
    refine Ends.ret (.tup [dR (trim qs.reverse), dR (trim rest)]) ([rest.map dE, qs.map dE, qs.reverse.map dE] ++ E1 ++ E2) ?_ ⟨_, _, DV.end G.pp hm rq rr, rfl⟩
    have rv : revR (.lst 1) [rest.map dE, qs.map dE] = .ok (.lst 2) [rest.map dE, qs.map dE, qs.reverse.map dE] := by
      simp only [revR, List.getElem?_cons_zero, List.getElem?_cons_succ]
      rw [newL_ok (by simp; omega), List.map_reverse]; rfl
    simp only [evE, evEs, List.getElem?_cons_zero, List.getElem?_cons_succ, R.bind_ok, rv, t1, t2]
    exact newT_ok (by simp)
end
end Z.K01
end
section
set_option Elab.async false
set_option linter.all false
set_option autoImplicit false
set_option maxRecDepth 100000
set_option maxHeartbeats 8000000
namespace Z.K01
open PySem Z M
section
variable {p c : Int} {iv : List Int}
theorem hd_of (G : Gr p c iv) {d : Row} (cd : Can p d) (hd0 : d ≠ []) : ∃ m v, Hd p c d m v := by
  have hl := List.length_pos_iff.mpr hd0
  refine ⟨d.length - 1, bk p c iv (M.co d (d.length - 1)), by omega, bk_inv G (rd_co G.pp cd.red _) fun e => cd.last ?_⟩
  rw [List.getLast?_eq_getElem?, List.getElem?_eq_getElem (by omega)]
  rw [co_lt (by omega)] at e
  rw [e]
/-- a def that divides, whatever the depth -/
theorem div_rt {f : Str} {np nv : Nat} {body : Sts} {ds : List Z.D} {m : Nat} {L d : Row} (G : Gr p c iv) (cd : Can p d) (hd0 : d ≠ []) (hr : ∀ n S, run co pf (n + 1) f ds S = runFn (run co pf n) co ⟨np, nv, body⟩ ds S) (hl : ds.length = np) (pa : pures ds = true)
    (h : ∀ n, m ≤ n → Ends (run co pf n) co body (ds.map some ++ List.replicate (nv - np) none) [] fun x _ => ∃ q r, DivOk p c L d q r ∧ x = .tup [dR q, dR r]) : ∃ q r, DivOk p c L d q r ∧ Rc (m + 1) f ds (.tup [dR q, dR r]) := by
  obtain ⟨x, S', e, q, r, D0, rfl⟩ := h m (Nat.le_refl m)
  obtain ⟨k, v, H⟩ := hd_of G cd hd0
  refine ⟨q, r, D0, Rt.by hr hl pa (by simp [Z.D.pure, pures]) fun n hn => ?_⟩
  obtain ⟨x, S2, e2, q2, r2, D2, rfl⟩ := h n hn
  obtain ⟨rfl, rfl⟩ := div_unique H D0 D2
  exact ⟨_, S2, e2, rfl⟩
theorem law_rows_parts_ok (G : Gr p c iv) {L d : Row} (cL : Can p L) (cd : Can p d) (hL : L.length ≤ 1000) (hd : d.length ≤ 1000) (hd0 : d ≠ []) :
    ∃ q r, DivOk p c L d q r ∧ Rc 3 "_law_rows_parts" [dF p c iv, dR L, dR d] (.tup [dR q, dR r]) :=
  div_rt G cd hd0 (fun n S => r__law_rows_parts n _ S) rfl (by simp [pures, dF_pure]) fun n hn => law_parts_ends G cL cd hL hd hd0 hn
end
end Z.K01
end
section
set_option Elab.async false
set_option linter.all false
set_option autoImplicit false
set_option maxRecDepth 100000
set_option maxHeartbeats 8000000
namespace Z.K01
open PySem Z M
section
variable {p c : Int} {iv : List Int}
theorem multiplied_grounds_ok2 (hp : 0 < p) (hc : -(2 ^ 64) < c) (hc' : c < 2 ^ 64) {x y : El} (hy : Sm y) : Rc 1 "multiplied_grounds" [dG p c, dE x, dE y] (dE (rd p (ml c x y))) :=
  Rt.of (fun n S => r_multiplied_grounds n _ S) rfl rfl fun n _ => by simp [runFn, evSs, evS, evE, evEs, evT, evI, evO, ixR, itemsOf, atI, L2.atI, L2.ixN, binR, intB, newT_ok, asg, asgs, b_multiplied_grounds, dG, dE, hp, rd, ml, mul3 hy, mul4 hy, mkL hc hc']
end
end Z.K01
end
section
set_option Elab.async false
set_option linter.all false
set_option autoImplicit false
set_option maxRecDepth 100000
set_option maxHeartbeats 8000000
namespace Z.K01
open PySem Z M
section
variable {p c : Int} {iv : List Int}
def los (r : Row) : List Int := r.map (·.1)
def his (r : Row) : List Int := r.map (·.2)
theorem los_get {r : Row} {i : Nat} (h : i < r.length) : ((los r).map Z.D.int)[i]? = some (.int (M.co r i).1) := by
  rw [List.getElem?_map, los, List.getElem?_map, List.getElem?_eq_getElem h, co_lt h]; rfl
theorem his_get {r : Row} {i : Nat} (h : i < r.length) : ((his r).map Z.D.int)[i]? = some (.int (M.co r i).2) := by
  rw [List.getElem?_map, his, List.getElem?_map, List.getElem?_eq_getElem h, co_lt h]; rfl
theorem los_getD {r : Row} {i : Nat} (h : i < r.length) : (los r).getD i 0 = (M.co r i).1 := by
  rw [List.getD_eq_getElem?_getD, los, List.getElem?_map, List.getElem?_eq_getElem h, co_lt h]; rfl
theorem his_getD {r : Row} {i : Nat} (h : i < r.length) : (his r).getD i 0 = (M.co r i).2 := by
  rw [List.getD_eq_getElem?_getD, his, List.getElem?_map, List.getElem?_eq_getElem h, co_lt h]; rfl
theorem los_set {r : Row} {i : Nat} {x : El} : (los r).set i x.1 = los (r.set i x) := by simp [los, List.map_set]
theorem his_set {r : Row} {i : Nat} {x : El} : (his r).set i x.2 = his (r.set i x) := by simp [his, List.map_set]
theorem low_list {Γ : Calls} (a : Row) (ha : a.length ≤ 1000) {ρ : Rho} {S : Sto} (h1 : ρ[1]? = some (some (dR a))) (h7 : 7 < ρ.length) (h8 : 8 < ρ.length) :
    evE Γ co (.lc (.v 7) (.tup (.cons (.nm 7) (.cons (.nm 8) .nil))) (.e (.v 1)) .yes [7, 8]) ρ S = .ok (.lst S.length) (S ++ [(los a).map Z.D.int]) := by
  have := evE_lc (Γ := Γ) (Co := co) (ρ := ρ) (S := S) (S1 := S) (gd := []) (elt := .v 7) (tg := .tup (.cons (.nm 7) (.cons (.nm 8) .nil))) (it := .e (.v 1)) (own := [7, 8]) dE (fun x => Z.D.int x.1) a (by simp [evI, evE, h1, dR]) rfl (by omega) fun x hx =>
    ⟨((wipeR ρ [7, 8]).set 7 (some (.int x.1))).set 8 (some (.int x.2)), by simp [asg, asgs, dE], by simp [evE, wipeR, h7, h8]⟩
  rw [this]
  simp [los, Function.comp_def]
theorem high_list {Γ : Calls} (a : Row) (ha : a.length ≤ 1000) {ρ : Rho} {S : Sto} (h1 : ρ[1]? = some (some (dR a))) (h7 : 7 < ρ.length) (h8 : 8 < ρ.length) :
    evE Γ co (.lc (.v 8) (.tup (.cons (.nm 7) (.cons (.nm 8) .nil))) (.e (.v 1)) .yes [7, 8]) ρ S = .ok (.lst S.length) (S ++ [(his a).map Z.D.int]) := by
  have := evE_lc (Γ := Γ) (Co := co) (ρ := ρ) (S := S) (S1 := S) (gd := []) (elt := .v 8) (tg := .tup (.cons (.nm 7) (.cons (.nm 8) .nil))) (it := .e (.v 1)) (own := [7, 8]) dE (fun x => Z.D.int x.2) a (by simp [evI, evE, h1, dR]) rfl (by omega) fun x hx =>
    ⟨((wipeR ρ [7, 8]).set 7 (some (.int x.1))).set 8 (some (.int x.2)), by simp [asg, asgs, dE], by simp [evE, wipeR, h7, h8]⟩
  rw [this]
  simp [his, Function.comp_def]
end
end Z.K01
end
section
set_option Elab.async false
set_option linter.all false
set_option autoImplicit false
set_option maxRecDepth 100000
set_option maxHeartbeats 8000000
namespace Z.K01
open PySem Z M
section
variable {p c : Int} {iv : List Int}
/-- lows and highs lose head times d's entry -/
theorem sub_pair {rest : Row} {k : Nat} {h y : El} (hk : k < rest.length) :
    (los rest).set k ((los rest).getD k 0 - (h.1 * y.1 - h.2 * y.2)) = los (rest.set k (sb (M.co rest k) (ml c h y))) ∧
    (his rest).set k ((his rest).getD k 0 - (h.1 * y.2 + h.2 * y.1 - c * h.2 * y.2)) = his (rest.set k (sb (M.co rest k) (ml c h y))) := by
  constructor
  · rw [los_getD hk, ← los_set]; rfl
  · rw [his_getD hk, ← his_set]
    congr 1
    simp only [sb, ml]
    grind
end
end Z.K01
end
section
set_option Elab.async false
set_option linter.all false
set_option autoImplicit false
set_option maxRecDepth 100000
set_option maxHeartbeats 4000000
/-! Y5: more rules. -/
namespace Z
open PySem M
variable {Γ : Calls} {Co : Consts} {s : St} {ss a b : Sts} {ρ ρ1 : Rho} {S S1 : Sto} {d : D} {t : T}
/-- a loop under a test -/
theorem Nx.iteFo {post : Rho → Sto → Prop} {α : Type} {g : G} {it : I} {bd : Sts} (S0 : Sto) (ht : evT Γ Co t ρ S = .ok true S0) (gd : Gd) (f : α → D) (l : List α) (S1 : Sto) (hit : evI Γ Co it ρ S0 = .ok (gd, l.map f) S1) (Inv : List α → Rho → Sto → Prop) (h0 : Inv [] ρ S1)
    (hs : ∀ pre a post ρ S, l = pre ++ a :: post → Inv pre ρ S → chk gd S = true ∧ ∃ ρa, asg g (f a) ρ = some ρa ∧ Nx Γ Co bd ρa S (Inv (pre ++ [a])))
    (hd : ∀ ρ S, Inv l ρ S → chk gd S = true) (k : ∀ ρ1 S1, Inv l ρ1 S1 → Nx Γ Co ss ρ1 S1 post) : Nx Γ Co (.cons (.ite t (.cons (.fo g it bd) .nil) b) ss) ρ S post := by
  obtain ⟨ρ1, S2, h1, h2⟩ := fo_nx gd f l S1 hit Inv h0 hs hd
  refine Nx.seq ρ1 S2 ?_ (k ρ1 S2 h2)
  rw [evS]
  simp only [ht, R.toF_ok, if_true]
  rw [evSs, h1]
  simp only [F.then_nx, evSs]
/-- a branch that goes on, in a loop's body -/
theorem Nx.iteT {post : Rho → Sto → Prop} (S0 : Sto) (ht : evT Γ Co t ρ S = .ok true S0) (ρ1 : Rho) (S1 : Sto) (h : evSs Γ Co a ρ S0 = .nx ρ1 S1) (k : Nx Γ Co ss ρ1 S1 post) : Nx Γ Co (.cons (.ite t a b) ss) ρ S post := by
  refine Nx.seq ρ1 S1 ?_ k
  rw [evS]
  simp only [ht, R.toF_ok, if_true, h]
theorem Nx.iteE {post : Rho → Sto → Prop} (S0 : Sto) (ht : evT Γ Co t ρ S = .ok false S0) (ρ1 : Rho) (S1 : Sto) (h : evSs Γ Co b ρ S0 = .nx ρ1 S1) (k : Nx Γ Co ss ρ1 S1 post) : Nx Γ Co (.cons (.ite t a b) ss) ρ S post := by
  refine Nx.seq ρ1 S1 ?_ k
  rw [evS]
  simp only [ht, R.toF_ok, Bool.false_eq_true, if_false, h]
/-- a test that ends it -/
theorem Ends.iteR {post : D → Sto → Prop} {S0 : Sto} (ht : evT Γ Co t ρ S = .ok true S0) (x : D) (S1 : Sto) (h : evSs Γ Co a ρ S0 = .rt x S1) (p : post x S1) : Ends Γ Co (.cons (.ite t a b) ss) ρ S post := by
  refine ⟨x, S1, ?_, p⟩
  rw [evSs, evS]
  simp only [ht, R.toF_ok, if_true, h]
  rfl
/-- a for loop that may end the def -/
theorem forF_rt {α : Type} {gd : Gd} {body : D → Rho → Sto → F} (f : α → D) (Inv : List α → Rho → Sto → Prop) (Qq : D → Sto → Prop) (l : List α)
    (hs : ∀ pre a post ρ S, l = pre ++ a :: post → Inv pre ρ S → chk gd S = true ∧ ((∃ x S', body (f a) ρ S = .rt x S' ∧ Qq x S') ∨ ∃ ρ' S', (body (f a) ρ S = .nx ρ' S' ∨ body (f a) ρ S = .ct ρ' S') ∧ Inv (pre ++ [a]) ρ' S'))
    (hd : ∀ ρ S, Inv l ρ S → chk gd S = true) : ∀ (post pre : List α) (ρ : Rho) (S : Sto), l = pre ++ post → Inv pre ρ S → (∃ x S', forF gd body (post.map f) ρ S = .rt x S' ∧ Qq x S') ∨ ∃ ρ' S', forF gd body (post.map f) ρ S = .nx ρ' S' ∧ Inv l ρ' S'
  | [], pre, ρ, S, e, h => by
    rw [List.append_nil] at e
    subst e
    exact .inr ⟨ρ, S, by simp [forF, hd ρ S h], h⟩
  | a :: post, pre, ρ, S, e, h => by
    obtain ⟨hc, hb⟩ := hs pre a post ρ S e h
    rcases hb with ⟨x, S', hb, hq⟩ | ⟨ρ', S', hb, h'⟩
    · left
      refine ⟨x, S', ?_, hq⟩
      simp only [List.map_cons, forF, hc, if_true]
      rw [hb]; rfl
    · have ih := forF_rt f Inv Qq l hs hd post (pre ++ [a]) ρ' S' (by rw [e]; simp) h'
      simp only [List.map_cons, forF, hc, if_true]
      rcases hb with hb | hb <;> (rw [hb]; simpa using ih)
theorem Ends.foR {post : D → Sto → Prop} {α : Type} {g : G} {it : I} {bd : Sts} (gd : Gd) (f : α → D) (l : List α) (S1 : Sto) (hit : evI Γ Co it ρ S = .ok (gd, l.map f) S1) (Inv : List α → Rho → Sto → Prop) (h0 : Inv [] ρ S1)
    (hs : ∀ pre a ps ρ S, l = pre ++ a :: ps → Inv pre ρ S → chk gd S = true ∧ ∃ ρa, asg g (f a) ρ = some ρa ∧ (Ends Γ Co bd ρa S post ∨ Nx Γ Co bd ρa S (Inv (pre ++ [a]))))
    (hd : ∀ ρ S, Inv l ρ S → chk gd S = true) (k : ∀ ρ1 S1, Inv l ρ1 S1 → Ends Γ Co ss ρ1 S1 post) : Ends Γ Co (.cons (.fo g it bd) ss) ρ S post := by
  have key := forF_rt (gd := gd) (body := fun x ρ S => match asg g x ρ with
      | none => .bad
      | some ρ => evSs Γ Co bd ρ S) f Inv post l (fun pre a ps ρ S e hi => by
    obtain ⟨hc, ρa, h1, h2⟩ := hs pre a ps ρ S e hi
    refine ⟨hc, ?_⟩
    rcases h2 with ⟨x, S', h2, h3⟩ | ⟨ρ', S', h2, h3⟩
    · exact .inl ⟨x, S', by simp only [h1]; exact h2, h3⟩
    · exact .inr ⟨ρ', S', by simp only [h1]; exact h2, h3⟩) hd l [] ρ S1 rfl h0
  rcases key with ⟨x, S', h1, h2⟩ | ⟨ρ1, S2, h1, h2⟩
  · have e2 : evS Γ Co (.fo g it bd) ρ S = .rt x S' := by simp only [evS, hit, R.toF_ok]; exact h1
    refine ⟨x, S', ?_, h2⟩
    rw [evSs, e2]; rfl
  · exact Ends.seq ρ1 S2 (by simp only [evS, hit, R.toF_ok]; exact h1) (k ρ1 S2 h2)
end Z
end
section
set_option Elab.async false
set_option linter.all false
set_option autoImplicit false
set_option maxRecDepth 100000
set_option maxHeartbeats 8000000
namespace Z.K01
open PySem Z M
section
variable {p c : Int} {iv : List Int}
theorem row_parts_ends (G : Gr p c iv) {L d : Row} (cL : Can p L) (cd : Can p d) (hL : L.length ≤ 1000) (hd : d.length ≤ 1000) (hd0 : d ≠ []) {n : Nat} (hn : 2 ≤ n) :
    Ends (run co pf n) co b_row_parts [some (dG p c), some (dR L), some (dR d), none, none, none, none, none, none, none, none, none, none, none, none, none, none] [] fun x _ => ∃ q r, DivOk p c L d q r ∧ x = .tup [dR q, dR r] := by
  obtain ⟨m, hm⟩ : ∃ m, d.length = m + 1 := ⟨d.length - 1, by have := List.length_pos_iff.mpr hd0; omega⟩
  have ld : M.co d (d.length - 1) = M.co d m := by rw [hm]; rfl
  have dz : M.co d m ≠ zr := fun e => cd.last (by rw [List.getLast?_eq_getElem?, List.getElem?_eq_getElem (by omega)]; rw [co_lt (by omega)] at e; rw [← e]; congr 1; simp [hm])
  have dr := rd_co G.pp cd.red m
  have inv := bk_inv G dr dz
  have h1 := (inverted_ok G (x := M.co d m) dr).call (n := n) hn
  generalize hbk : bk p c iv (M.co d m) = v at inv h1
  have vr : rd p v = v := by rw [← hbk]; exact bk_rd G _
  unfold b_row_parts
  refine Ends.tset (dG p c) [] [some (dG p c), some (dR L), some (dR d), some (.int p), some (.int c), none, none, none, none, none, none, none, none, none, none, none, none] (by simp [evE]) (by simp [dG, asg, asgs]) ?_
  have ix1 : ∀ S, ixR (dR d) (.int (-1)) S = .ok (dE (M.co d m)) S := fun S => by rw [← ld]; exact ixR_T (at_last hd0)
  refine Ends.par [dE v, .int m] [] [some (dG p c), some (dR L), some (dR d), some (.int p), some (.int c), some (dE v), some (.int m), none, none, none, none, none, none, none, none, none, none] ?_ (by simp [setAll]) ?_
  · have e1 : evE (run co pf n) co (.call "inverted" (.cons (.v 0) (.cons (.ix (.v 2) (.neg (.c (.int 1)))) .nil))) [some (dG p c), some (dR L), some (dR d), some (.int p), some (.int c), none, none, none, none, none, none, none, none, none, none, none, none] [] = .ok (dE v) [] := by
      simp [evE, evEs, ix1, h1]
    have e2 : ∀ S, binR .sub (.int (d.length : Int)) (.int 1) S = .ok (.int (m : Int)) S := fun S => by
      show R.ok (Z.D.int ((d.length : Int) - 1)) S = _
      rw [show (d.length : Int) - 1 = (m : Int) by omega]
    rw [evEs, e1]
    simp [evE, evEs, dR, e2]
  refine Ends.tset (.tup [.lst 0, .lst 1, .lst 2]) [(los L).map Z.D.int, (his L).map Z.D.int, []] [some (dG p c), some (dR L), some (dR d), some (.int p), some (.int c), some (dE v), some (.int m), none, none, some (.lst 0), some (.lst 1), some (.lst 2), none, none, none, none, none] ?_ (by simp [asg, asgs]) ?_
  · rw [evE]
    simp only [evEs]
    rw [low_list L hL rfl (by simp) (by simp)]
    simp only [R.bind_ok]
    rw [high_list L hL rfl (by simp) (by simp)]
    simp only [R.bind_ok, evE, evEs]
    rw [newL_ok (by simp)]
    simp only [R.bind_ok]
    exact newT_ok (by simp)
  generalize hlo : (L.length : Int) - d.length = lo
  have hN : L.length ≤ (lo + 1).toNat + m := by omega
  generalize hNN : (lo + 1).toNat = N at hN
  have hb : bndOk lo := ⟨by omega, by omega⟩
  refine Ends.fo2 [] (fun i : Nat => Z.D.int (lo - i)) (List.range N) [(los L).map Z.D.int, (his L).map Z.D.int, []] ?_
    (fun pre ρ S => ∃ (qs rest : Row) (o7 o8 o12 o13 o14 o15 : Option Z.D), ρ = [some (dG p c), some (dR L), some (dR d), some (.int p), some (.int c), some (dE v), some (.int m), o7, o8, some (.lst 0), some (.lst 1), some (.lst 2), o12, o13, o14, o15, none] ∧ S = [(los rest).map Z.D.int, (his rest).map Z.D.int, qs.map dE] ∧ rest.length = L.length ∧ Red p qs ∧ qs.length = pre.length ∧ Dinv p c L d m (N - pre.length) qs rest)
    ⟨[], L, none, none, none, none, none, none, rfl, rfl, rfl, (fun _ h => nomatch h), rfl, Dinv.start2 hN⟩ ?_ (fun _ _ _ => rfl) ?_
  · rw [← hNN]
    refine gaps lo ?_ hb
    rw [← hlo]
    simp [evE, evEs, dR, binR, intB]
  · rintro pre k post ρ S hk ⟨qs, rest, o7, o8, o12, o13, o14, o15, rfl, rfl, hrl, rq, hql, DV⟩
    obtain ⟨hk1, hk2⟩ := mem_range_split hk
    obtain ⟨g, hg1⟩ : ∃ g : Nat, N = g + 1 + k := ⟨N - 1 - k, by omega⟩
    have hgk : lo - (k : Int) = (g : Int) := by omega
    have hLN : L.length = N + m := by omega
    rw [hgk]
    refine ⟨rfl, [some (dG p c), some (dR L), some (dR d), some (.int p), some (.int c), some (dE v), some (.int m), o7, o8, some (.lst 0), some (.lst 1), some (.lst 2), some (.int g), o13, o14, o15, none], by simp [asg], ?_⟩
    have hD : N - pre.length = g + 1 := by omega
    rw [hD] at DV
    generalize hh : rd p (ml c (M.co rest (g + m)) v) = head
    have hhr : rd p head = head := by rw [← hh]; exact G.rr _
    have hq : Q p (ml c head (M.co d m)) (M.co rest (g + m)) := by
      have a1 : Q p (ml c head (M.co d m)) (ml c (ml c (M.co rest (g + m)) v) (M.co d m)) := by rw [← hh]; exact Q.rd.ml Q.refl
      rw [ml_assoc, ml_comm (x := v)] at a1
      have a2 := (Q.refl (x := M.co rest (g + m)) (p := p)).ml (c := c) inv
      rw [ml_one] at a2
      exact a1.trans a2
    have h2 := (multiplied_grounds_ok2 (p := p) (c := c) G.pp G.ca G.cb (x := M.co rest (g + m)) (G.sm vr)).call (n := n) (by omega)
    rw [hh] at h2
    have gm : ∀ S, binR .add (.int (g : Int)) (.int (m : Int)) S = .ok (.int ((g + m : Nat) : Int)) S := fun S => by simp [binR, intB]
    have il : ixR (.lst 0) (.int ((g + m : Nat) : Int)) [(los rest).map Z.D.int, (his rest).map Z.D.int, qs.map dE] = .ok (.int (M.co rest (g + m)).1) [(los rest).map Z.D.int, (his rest).map Z.D.int, qs.map dE] := ix_nat rfl (los_get (by omega))
    have ih2 : ixR (.lst 1) (.int ((g + m : Nat) : Int)) [(los rest).map Z.D.int, (his rest).map Z.D.int, qs.map dE] = .ok (.int (M.co rest (g + m)).2) [(los rest).map Z.D.int, (his rest).map Z.D.int, qs.map dE] := ix_nat rfl (his_get (by omega))
    refine Nx.tset (dE head) [(los rest).map Z.D.int, (his rest).map Z.D.int, qs.map dE] [some (dG p c), some (dR L), some (dR d), some (.int p), some (.int c), some (dE v), some (.int m), o7, o8, some (.lst 0), some (.lst 1), some (.lst 2), some (.int g), some (.int head.1), some (.int head.2), o15, none] ?_ (by simp [asg, asgs, dE]) ?_
    · simp only [evE, evEs, List.getElem?_cons_zero, List.getElem?_cons_succ, R.bind_ok, gm, il, ih2]
      rw [newT_ok (by simp)]
      simp only [R.bind_ok]
      exact h2 _
    refine Nx.ex .non [(los rest).map Z.D.int, (his rest).map Z.D.int, (qs ++ [head]).map dE] ?_ ?_
    · have hs : qs.length < sizeLine := Nat.lt_of_lt_of_le (show qs.length < 100000 by omega) (by decide)
      simp [evE, evEs, mtR, hs, newT_ok, dE]
    have e3 : ∀ S, eqR (.tup [.int head.1, .int head.2]) (dE zr) S = some (decide (head = zr)) := fun S => eqR_dE head zr S
    have tst : evT (run co pf n) co (.val (.cmp .ne (.tup (.cons (.v 13) (.cons (.v 14) .nil))) (.g "NOUGHT"))) [some (dG p c), some (dR L), some (dR d), some (.int p), some (.int c), some (dE v), some (.int m), o7, o8, some (.lst 0), some (.lst 1), some (.lst 2), some (.int g), some (.int head.1), some (.int head.2), o15, none] [(los rest).map Z.D.int, (his rest).map Z.D.int, (qs ++ [head]).map dE] = .ok (!decide (head = zr)) [(los rest).map Z.D.int, (his rest).map Z.D.int, (qs ++ [head]).map dE] := by
      simp only [evT, evE, evEs, List.getElem?_cons_zero, List.getElem?_cons_succ, R.bind_ok]
      rw [newT_ok (by simp)]
      simp only [R.bind_ok, co_NOUGHT, optR_some, cmpR, e3, Option.map_some, truthR]
    have sh := G.sm hhr
    by_cases hx : head = zr
    · refine Nx.iteF _ (by rw [tst, hx]; rfl) (Nx.nil ⟨qs ++ [head], rest, o7, o8, _, _, _, o15, rfl, rfl, hrl, red_snoc rq hhr, by simp [hql], ?_⟩)
      rw [show N - (pre ++ [k]).length = g by simp; omega]
      refine DV.step hm hq (PE.of_eq ?_)
      funext i
      rw [hx]
      simp only [ssb, sXn, sml, zr_ml]
      split <;> simp [sb]
    · refine Nx.iteFo [(los rest).map Z.D.int, (his rest).map Z.D.int, (qs ++ [head]).map dE] (by rw [tst]; simp [hx]) [] (fun q : El × Nat => Z.D.tup [.int (q.2 : Int), dE q.1]) d.zipIdx [(los rest).map Z.D.int, (his rest).map Z.D.int, (qs ++ [head]).map dE] (by simp [evI, evE, dR, enum0_map, itemsOf])
        (fun pre2 ρ S => ∃ (rs : Row) (o7 o8 o15 : Option Z.D), ρ = [some (dG p c), some (dR L), some (dR d), some (.int p), some (.int c), some (dE v), some (.int m), o7, o8, some (.lst 0), some (.lst 1), some (.lst 2), some (.int g), some (.int head.1), some (.int head.2), o15, none] ∧ S = [(los rs).map Z.D.int, (his rs).map Z.D.int, (qs ++ [head]).map dE] ∧ rs.length = L.length ∧
          PE p (M.co rs) (ssb (M.co rest) (sXn g (sml c head (M.co (d.take pre2.length))))))
        ⟨rest, o7, o8, o15, rfl, rfl, hrl, by rw [List.length_nil, List.take_zero, sub_nil]; exact PE.refl⟩ ?_ (fun _ _ _ => rfl) ?_
      · rintro pre2 ⟨y, j⟩ post2 ρ S hj ⟨rs, o7, o8, o15, rfl, rfl, hrs, hco⟩
        obtain ⟨hj1, hj2, hyd⟩ := mem_zipIdx_split hj
        dsimp only at hj1 hj2 hyd
        refine ⟨rfl, [some (dG p c), some (dR L), some (dR d), some (.int p), some (.int c), some (dE v), some (.int m), some (.int y.1), some (.int y.2), some (.lst 0), some (.lst 1), some (.lst 2), some (.int g), some (.int head.1), some (.int head.2), some (.int j), none], by simp [asg, asgs, dE], ?_⟩
        have sy : Sm y := by rw [hyd]; exact G.sm (rd_co G.pp cd.red j)
        have gj : ∀ S, binR .add (.int (g : Int)) (.int (j : Int)) S = .ok (.int ((g + j : Nat) : Int)) S := fun S => by simp [binR, intB]
        have hk : g + j < rs.length := by omega
        have he1 : ∀ S, binR .mul (.int head.1) (.int y.1) S = .ok (.int (head.1 * y.1)) S := fun S => by simp [binR, intB, mul1 sh]
        have he2 : ∀ S, binR .mul (.int head.2) (.int y.2) S = .ok (.int (head.2 * y.2)) S := fun S => by simp [binR, intB, mul2 sh]
        have he3 : ∀ S, binR .mul (.int head.1) (.int y.2) S = .ok (.int (head.1 * y.2)) S := fun S => by simp [binR, intB, mul1 sh]
        have he4 : ∀ S, binR .mul (.int head.2) (.int y.1) S = .ok (.int (head.2 * y.1)) S := fun S => by simp [binR, intB, mul2 sh]
        have he5 : ∀ S, binR .mul (.int c) (.int head.2) S = .ok (.int (c * head.2)) S := fun S => by simp [binR, intB, mkL G.ca G.cb]
        have he6 : ∀ S, binR .mul (.int (c * head.2)) (.int y.2) S = .ok (.int (c * head.2 * y.2)) S := fun S => by simp [binR, intB, mul4 sy]
        have sb1 : ∀ (a b : Int) S, binR .sub (.int a) (.int b) S = .ok (.int (a - b)) S := fun a b S => rfl
        have ad1 : ∀ (a b : Int) S, binR .add (.int a) (.int b) S = .ok (.int (a + b)) S := fun a b S => rfl
        refine Nx.seq _ [((los rs).set (g + j) ((los rs).getD (g + j) 0 - (head.1 * y.1 - head.2 * y.2))).map Z.D.int, (his rs).map Z.D.int, (qs ++ [head]).map dE] (augix_nat (n := 0) (j := g + j) (ls := los rs) (v := head.1 * y.1 - head.2 * y.2) (by simp [evE]) (by simp [evE, gj]) ?_ rfl (by simpa [los] using hk) rfl) ?_
        · simp only [evE, List.getElem?_cons_zero, List.getElem?_cons_succ, R.bind_ok, he1, he2, sb1]
        refine Nx.seq _ [((los rs).set (g + j) ((los rs).getD (g + j) 0 - (head.1 * y.1 - head.2 * y.2))).map Z.D.int, ((his rs).set (g + j) ((his rs).getD (g + j) 0 - (head.1 * y.2 + head.2 * y.1 - c * head.2 * y.2))).map Z.D.int, (qs ++ [head]).map dE] (augix_nat (n := 1) (j := g + j) (ls := his rs) (v := head.1 * y.2 + head.2 * y.1 - c * head.2 * y.2) (by simp [evE]) (by simp [evE, gj]) ?_ rfl (by simpa [his] using hk) rfl) (Nx.nil ?_)
        · simp only [evE, List.getElem?_cons_zero, List.getElem?_cons_succ, R.bind_ok, he3, he4, he5, he6, sb1, ad1]
        · refine ⟨rs.set (g + j) (sb (M.co rs (g + j)) (ml c head y)), _, _, _, rfl, ?_, by simpa using hrs, ?_⟩
          · rw [(sub_pair (c := c) (h := head) (y := y) hk).1, (sub_pair (c := c) (h := head) (y := y) hk).2]
          have e4 : d.take (pre2 ++ [(y, j)]).length = d.take pre2.length ++ [y] := by
            rw [List.length_append, List.length_singleton, ← hj1, hyd, co_lt hj2, List.take_add_one, List.getElem?_eq_getElem hj2]; rfl
          rw [e4, sub_snoc, co_set hk]
          intro i
          have e5 : (d.take pre2.length).length = j := by simp; omega
          rw [e5]
          dsimp only
          split
          · rename_i hi
            subst hi
            exact (hco _).sb Q.refl
          · exact hco i
      · rintro ρ1 S1 ⟨rs, o7, o8, o15, rfl, rfl, hrs, hco⟩
        simp only [List.length_zipIdx, List.take_length] at hco
        refine Nx.nil ⟨qs ++ [head], rs, o7, o8, _, _, _, o15, rfl, rfl, hrs, red_snoc rq hhr, by simp [hql], ?_⟩
        rw [show N - (pre ++ [k]).length = g by simp; omega]
        exact DV.step hm hq hco
  · rintro ρ1 S1 ⟨qs, rest, o7, o8, o12, o13, o14, o15, rfl, rfl, hrl, rq, hql, DV⟩
    simp only [List.length_range, Nat.sub_self] at DV hql
    have hq2 : qs.length ≤ 1000 := by omega
    generalize hk : min m L.length = k
    refine Ends.set (.lst 3) [(los rest).map Z.D.int, (his rest).map Z.D.int, qs.map dE, ((List.range k).map fun i => rd p (M.co rest i)).map dE] ?_ ?_
    · have e1 : evI (run co pf n) co (.range1 (.bi .min (.cons (.v 6) (.cons (.bi .len (.cons (.v 1) .nil)) .nil)))) [some (dG p c), some (dR L), some (dR d), some (.int p), some (.int c), some (dE v), some (.int m), o7, o8, some (.lst 0), some (.lst 1), some (.lst 2), o12, o13, o14, o15, none] [(los rest).map Z.D.int, (his rest).map Z.D.int, qs.map dE] = .ok ([], (List.range k).map fun i : Nat => Z.D.int i) [(los rest).map Z.D.int, (his rest).map Z.D.int, qs.map dE] := by
        refine evI_r1 ?_ (by omega)
        simp only [evE, evEs, List.getElem?_cons_zero, List.getElem?_cons_succ, R.bind_ok, dR, biR_lenT, biR_min, List.length_map]
        congr 2
        split <;> omega
      rw [evE_lc (fun i : Nat => Z.D.int i) (fun i => dE (rd p (M.co rest i))) (List.range k) e1 rfl (by simp; omega) fun i hi => ?_]
      · simp only [List.map_map]; rfl
      · have hi2 := List.mem_range.mp hi
        refine ⟨[some (dG p c), some (dR L), some (dR d), some (.int p), some (.int c), some (dE v), some (.int m), o7, o8, some (.lst 0), some (.lst 1), some (.lst 2), o12, o13, o14, some (.int i), none], by simp [asg, wipeR], ?_⟩
        have il : ixR (.lst 0) (.int (i : Int)) [(los rest).map Z.D.int, (his rest).map Z.D.int, qs.map dE] = .ok (.int (M.co rest i).1) [(los rest).map Z.D.int, (his rest).map Z.D.int, qs.map dE] := ix_nat rfl (los_get (by omega))
        have ih2 : ixR (.lst 1) (.int (i : Int)) [(los rest).map Z.D.int, (his rest).map Z.D.int, qs.map dE] = .ok (.int (M.co rest i).2) [(los rest).map Z.D.int, (his rest).map Z.D.int, qs.map dE] := ix_nat rfl (his_get (by omega))
        have md : ∀ (a : Int) S, binR .mod (.int a) (.int p) S = .ok (.int (a % p)) S := fun a S => by simp [binR, intB, G.pp]
        simp only [evE, evEs, List.getElem?_cons_zero, List.getElem?_cons_succ, R.bind_ok, il, ih2, md]
        exact newT_ok (by simp)
    show Ends (run co pf n) co _ [some (dG p c), some (dR L), some (dR d), some (.int p), some (.int c), some (dE v), some (.int m), o7, o8, some (.lst 0), some (.lst 1), some (.lst 2), o12, o13, o14, o15, some (.lst 3)] _ _
    generalize hT : ((List.range k).map fun i => rd p (M.co rest i)) = T16
    have lT : T16.length = k := by rw [← hT]; simp
    have cT : ∀ i, M.co T16 i = if i < k then rd p (M.co rest i) else zr := fun i => by rw [← hT]; exact co_map_range _ _ _
    have rT : Red p T16 := fun x hx => by
      rw [← hT] at hx
      simp only [List.mem_map] at hx
      obtain ⟨i, _, rfl⟩ := hx
      exact G.rr _
    obtain ⟨E1, t1⟩ := (row_trimmed_ok (S := [(los rest).map Z.D.int, (his rest).map Z.D.int, qs.map dE, T16.map dE, qs.reverse.map dE]) (d := .lst 4) (r := qs.reverse) (.inr ⟨4, rfl, rfl⟩) (by simp; omega)).call (n := n) (by omega) (by rfl)
    obtain ⟨E2, t2⟩ := (row_trimmed_ok (S := [(los rest).map Z.D.int, (his rest).map Z.D.int, qs.map dE, T16.map dE, qs.reverse.map dE] ++ E1) (d := .lst 3) (r := T16) (.inr ⟨3, rfl, rfl⟩) (by omega)).call (n := n) (by omega) (by rfl)
    refine Ends.ret (.tup [dR (trim qs.reverse), dR (trim T16)]) ([(los rest).map Z.D.int, (his rest).map Z.D.int, qs.map dE, T16.map dE, qs.reverse.map dE] ++ E1 ++ E2) ?_ ⟨_, _, ?_, rfl⟩
    · have rv : revR (.lst 2) [(los rest).map Z.D.int, (his rest).map Z.D.int, qs.map dE, T16.map dE] = .ok (.lst 4) [(los rest).map Z.D.int, (his rest).map Z.D.int, qs.map dE, T16.map dE, qs.reverse.map dE] := by
        simp only [revR, List.getElem?_cons_zero, List.getElem?_cons_succ]
        rw [newL_ok (by simp; omega), List.map_reverse]; rfl
      simp only [evE, evEs, List.getElem?_cons_zero, List.getElem?_cons_succ, R.bind_ok, rv, t1, t2]
      exact newT_ok (by simp)
    · refine DV.done hm (can_trim (red_rev rq)) (PE.of_eq (trim_co _)) (can_trim rT) (Nat.le_trans (trim_len _) (by omega)) fun i hi => ?_
      rw [trim_co, cT]
      split
      · exact Q.rd
      · rw [co_ge (r := rest) (by omega)]; exact Q.refl
theorem row_parts_ok (G : Gr p c iv) {L d : Row} (cL : Can p L) (cd : Can p d) (hL : L.length ≤ 1000) (hd : d.length ≤ 1000) (hd0 : d ≠ []) :
    ∃ q r, DivOk p c L d q r ∧ Rc 3 "row_parts" [dG p c, dR L, dR d] (.tup [dR q, dR r]) :=
  div_rt G cd hd0 (fun n S => r_row_parts n _ S) rfl (by simp [pures, dG, D.pure]) fun n hn => row_parts_ends G cL cd hL hd hd0 hn
end
end Z.K01
end
section
set_option Elab.async false
set_option linter.all false
set_option autoImplicit false
/-! M5: the rest and the quotient as functions; greatest divisors; the rest of a power. -/
namespace M
variable {p c : Int}
open Classical in
noncomputable def qr (p c : Int) (L d : Row) : Row × Row := if h : ∃ x : Row × Row, DivOk p c L d x.1 x.2 then choose h else ([], [])
noncomputable def qut (p c : Int) (L d : Row) : Row := (qr p c L d).1
noncomputable def rst (p c : Int) (L d : Row) : Row := (qr p c L d).2
theorem qr_ok {L d q r : Row} (D : DivOk p c L d q r) : DivOk p c L d (qut p c L d) (rst p c L d) := by
  have h : ∃ x : Row × Row, DivOk p c L d x.1 x.2 := ⟨(q, r), D⟩
  unfold qut rst qr
  rw [dif_pos h]
  exact Classical.choose_spec h
theorem qr_eq {L d q r : Row} {n : Nat} {v : El} (H : Hd p c d n v) (D : DivOk p c L d q r) : qut p c L d = q ∧ rst p c L d = r := div_unique H (qr_ok D) D
noncomputable def gcdN (p c : Int) : Nat → Row → Row → Row
  | 0, a, _ => a
  | n + 1, a, b => if b = [] then a else gcdN p c n b (rst p c a b)
theorem gcdN_nil (n : Nat) (a : Row) : gcdN p c n a [] = a := by cases n <;> simp [gcdN]
theorem gcdN_step {n : Nat} {a b : Row} (hb : b ≠ []) : gcdN p c (n + 1) a b = gcdN p c n b (rst p c a b) := by simp [gcdN, hb]
/-- what a rest of a power is -/
structure PwOk (p c : Int) (a d : Row) (n : Nat) (r : Row) : Prop where
  can : Can p r
  len : r.length < d.length
  eq : Eqm p c d (co r) (co (rpow c a n))
open Classical in
noncomputable def pwr (p c : Int) (a d : Row) (n : Nat) : Row := if h : ∃ r : Row, PwOk p c a d n r then choose h else []
theorem pwr_eq {a d r : Row} {n k : Nat} {v : El} (H : Hd p c d k v) (h : PwOk p c a d n r) : pwr p c a d n = r := by
  have h' : ∃ r : Row, PwOk p c a d n r := ⟨r, h⟩
  have h2 : PwOk p c a d n (pwr p c a d n) := by
    unfold pwr
    rw [dif_pos h']
    exact Classical.choose_spec h'
  exact rest_unique H h2.can h.can h2.len h.len (h2.eq.trans h.eq.symm)
theorem pw_zero {a d q r : Row} (D : DivOk p c [(1, 0)] d q r) : PwOk p c a d 0 r := ⟨D.cr, D.len, D.eqm.symm⟩
theorem rpow_one (a : Row) : co (rpow c a 1) = co a := by
  show co (rmul c a [(1, 0)]) = _
  rw [co_rmul, co_one, lm_dl]
theorem pw_one {a d q r : Row} (D : DivOk p c a d q r) : PwOk p c a d 1 r := ⟨D.cr, D.len, by rw [rpow_one]; exact D.eqm.symm⟩
/-- the rest of a product of two rests -/
theorem pw_mul {a d x y q r : Row} {i j : Nat} (hx : PwOk p c a d i x) (hy : PwOk p c a d j y) (D : DivOk p c (mulR p c x y) d q r) : PwOk p c a d (i + j) r :=
  ⟨D.cr, D.len, D.eqm.symm.trans (Eqm.trans (Eqm.of_pe mulR_co) (by rw [rpow_add]; exact Eqm.mul hx.eq hy.eq))⟩
/-- of the rest of a row -/
theorem pw_rest {a d a' q : Row} {n : Nat} {r : Row} (D : DivOk p c a d q a') (h : PwOk p c a' d n r) : PwOk p c a d n r := by
  refine ⟨h.can, h.len, h.eq.trans ?_⟩
  have e := D.eqm.symm
  clear h
  induction n with
  | zero => exact Eqm.of_pe PE.refl
  | succ n ih =>
    simp only [rpow]
    rw [co_rmul, co_rmul]
    exact Eqm.mul e ih
/-- the conjugates of a row -/
def cjS (c : Int) (f : Sq) : Sq := fun i => cj c (f i)
theorem cj_lm (f : Sq) : ∀ a : Row, lm c (a.map (cj c)) (cjS c f) = cjS c (lm c a f)
  | [] => by funext i; simp [lm, cjS, cj]
  | x :: a => by
    funext i
    simp only [List.map_cons, lm, cj_lm f a, sad, sml, cjS]
    rw [cj_ad, cj_ml]
    cases i with
    | zero => simp [sX, cj]
    | succ i => simp [sX, cjS]
theorem co_map_cj (a : Row) : co (a.map (cj c)) = cjS c (co a) := by
  funext i
  by_cases hi : i < a.length
  · rw [co_lt (by simpa using hi), cjS, co_lt hi]; simp
  · rw [co_ge (by simpa using hi), cjS, co_ge (by omega)]; simp [cj]
theorem PE.cjS {f g : Sq} (h : PE p f g) : PE p (M.cjS c f) (M.cjS c g) := fun i => (h i).cj
end M
end
section
set_option Elab.async false
set_option linter.all false
set_option autoImplicit false
set_option maxRecDepth 100000
set_option maxHeartbeats 8000000
namespace Z.K01
open PySem Z M
section
variable {p c : Int} {iv : List Int}
theorem ln_pos {d : Row} (h : d ≠ []) : 0 < d.length := List.length_pos_iff.mpr h
theorem qr_of (G : Gr p c iv) {L d q r : Row} (cd : Can p d) (hd0 : d ≠ []) (h : DivOk p c L d q r) : qut p c L d = q ∧ rst p c L d = r := by
  obtain ⟨k, v, H⟩ := hd_of G cd hd0
  exact qr_eq H h
theorem row_parts_fn (G : Gr p c iv) {L d : Row} (cL : Can p L) (cd : Can p d) (hL : L.length ≤ 1000) (hd : d.length ≤ 1000) (hd0 : d ≠ []) :
    Rc 3 "row_parts" [dG p c, dR L, dR d] (.tup [dR (qut p c L d), dR (rst p c L d)]) := by
  obtain ⟨q, r, h, R⟩ := row_parts_ok G cL cd hL hd hd0
  obtain ⟨rfl, rfl⟩ := qr_of G cd hd0 h
  exact R
theorem law_parts_fn (G : Gr p c iv) {L d : Row} (cL : Can p L) (cd : Can p d) (hL : L.length ≤ 1000) (hd : d.length ≤ 1000) (hd0 : d ≠ []) :
    Rc 3 "_law_rows_parts" [dF p c iv, dR L, dR d] (.tup [dR (qut p c L d), dR (rst p c L d)]) := by
  obtain ⟨q, r, h, R⟩ := law_rows_parts_ok G cL cd hL hd hd0
  obtain ⟨rfl, rfl⟩ := qr_of G cd hd0 h
  exact R
theorem div_fn (G : Gr p c iv) {L d : Row} (cL : Can p L) (cd : Can p d) (hL : L.length ≤ 1000) (hd : d.length ≤ 1000) (hd0 : d ≠ []) :
    DivOk p c L d (qut p c L d) (rst p c L d) := by
  obtain ⟨q, r, h, R⟩ := row_parts_ok G cL cd hL hd hd0
  exact qr_ok h
/-- the length of a quotient -/
theorem qut_len (G : Gr p c iv) {L d : Row} (cL : Can p L) (cd : Can p d) (hL : L.length ≤ 1000) (hd : d.length ≤ 1000) (hd0 : d ≠ []) : True := trivial
theorem ix_one (a b : Z.D) (S : Sto) : ixR (.tup [a, b]) (.int 1) S = .ok b S := rfl
theorem ix_zero (a b : Z.D) (S : Sto) : ixR (.tup [a, b]) (.int 0) S = .ok a S := rfl
theorem row_rest_ok (G : Gr p c iv) {L d : Row} (cL : Can p L) (cd : Can p d) (hL : L.length ≤ 1000) (hd : d.length ≤ 1000) (hd0 : d ≠ []) :
    Rc 4 "row_rest" [dG p c, dR L, dR d] (dR (rst p c L d)) :=
  Rt.by (fun n S => r_row_rest n _ S) rfl (by simp [pures, dG, D.pure]) (by simp) fun n hn => by
    unfold b_row_rest
    show Ends (run co pf n) co _ [some (dG p c), some (dR L), some (dR d)] _ _
    have ht : evT (run co pf n) co (.val (.cmp .lt (.bi .len (.cons (.v 1) .nil)) (.bi .len (.cons (.v 2) .nil)))) [some (dG p c), some (dR L), some (dR d)] [] = .ok (decide ((L.length : Int) < d.length)) [] := by
      simp [evT, evE, evEs, dR, cmpR, truthR]
    by_cases hl : L.length < d.length
    · refine Ends.iteT [] (by rw [ht]; simp [hl]) (Ends.ret (dR L) [] (by simp [evE]) ?_)
      rw [(qr_of G cd hd0 (div_small cL hl)).2]
    · refine Ends.iteF [] (by rw [ht]; simp; omega) ?_
      have h1 := (row_parts_fn G cL cd hL hd hd0).call (n := n) (by omega)
      exact Ends.ret _ [] (by simp [evE, evEs, h1, ix_one]) rfl
theorem dR_nil (S : Sto) (b : Row) : eqR (dR b) (.tup []) S = some (decide (b = [])) := eqR_dR b [] S
theorem rows_greatest_ok (G : Gr p c iv) {a b : Row} (ca : Can p a) (cb : Can p b) (ha : a.length ≤ 1000) (hb : b.length ≤ 80) :
    Rc 5 "rows_greatest" [dG p c, dR a, dR b] (dR (monR p c iv (gcdN p c 80 a b))) :=
  Rt.by (fun n S => r_rows_greatest n _ S) rfl (by simp [pures, dG, D.pure]) (by simp) fun n hn => by
    unfold b_rows_greatest
    show Ends (run co pf n) co _ [some (dG p c), some (dR a), some (dR b)] _ _
    refine Ends.wh (fun k ρ S => ∃ l r : Row, S = [] ∧ ρ = [some (dG p c), some (dR l), some (dR r)] ∧ Can p l ∧ Can p r ∧ l.length ≤ 1000 ∧ r.length ≤ k ∧ k ≤ 80 ∧ gcdN p c 80 a b = gcdN p c k l r) 80
      (fun ρ S => ∃ l : Row, S = [] ∧ ρ = [some (dG p c), some (dR l), some (dR [])] ∧ Can p l ∧ l.length ≤ 1000 ∧ gcdN p c 80 a b = l) (by decide) ⟨a, b, rfl, rfl, ca, cb, ha, hb, by omega, rfl⟩ ?_ ?_
    · rintro k ρ S ⟨l, r, rfl, rfl, cl, cr, hl, hr, hk, e⟩
      have ht : evT (run co pf n) co (.val (.cmp .ne (.v 2) (.tup .nil))) [some (dG p c), some (dR l), some (dR r)] [] = .ok (!decide (r = [])) [] := by
        simp only [evT, evE, evEs, List.getElem?_cons_zero, List.getElem?_cons_succ, R.bind_ok]
        rw [newT_ok (by simp)]
        simp only [R.bind_ok, cmpR, dR_nil, Option.map_some, optR_some, truthR]
      by_cases h0 : r = []
      · left
        subst h0
        exact ⟨[], by rw [ht]; rfl, l, rfl, rfl, cl, hl, by rw [e, gcdN_nil]⟩
      · right
        have hlen := ln_pos h0
        have D := div_fn G cl cr hl (by omega) h0
        have h1 := (row_rest_ok G cl cr hl (by omega) h0).call (n := n) (by omega)
        have hlr := D.len
        obtain ⟨k', rfl⟩ : ∃ k', k = k' + 1 := ⟨k - 1, by omega⟩
        refine ⟨[], [some (dG p c), some (dR r), some (dR (rst p c l r))], [], k', by rw [ht]; simp [h0], .inl ?_, by omega, r, _, rfl, rfl, cr, D.cr, by omega, by omega, by omega, by rw [e, gcdN_step h0]⟩
        simp [evSs, evS, evE, evEs, h1, setAll]
    · rintro ρ1 S1 ⟨l, rfl, rfl, cl, hl, e⟩
      have h1 := (row_monic_ok G cl hl).call (n := n) (by omega)
      refine Ends.ret (dR (monR p c iv l)) [] (by simp [evE, evEs, h1]) ?_
      rw [e]
theorem law_common_ok (G : Gr p c iv) {a b : Row} (ca : Can p a) (cb : Can p b) (ha : a.length ≤ 1000) (hb : b.length ≤ 1000) :
    Rc 4 "_law_common" [dF p c iv, dR a, dR b] (dR (monR p c iv (gcdN p c 80 a b))) :=
  Rt.by (fun n S => r__law_common n _ S) rfl (by simp [pures, dF_pure]) (by simp) fun n hn => by
    unfold b__law_common
    show Ends (run co pf n) co _ [some (dF p c iv), some (dR a), some (dR b), none] _ _
    refine Ends.foR [] (fun i : Nat => Z.D.int i) (List.range 80) [] (evI_r1 (by simp [evE]) (by omega))
      (fun pre ρ S => ∃ (l r : Row) (o : Option Z.D), S = [] ∧ ρ = [some (dF p c iv), some (dR l), some (dR r), o] ∧ Can p l ∧ Can p r ∧ l.length ≤ 1000 ∧ r.length ≤ 1000 ∧ pre.length ≤ 80 ∧ gcdN p c 80 a b = gcdN p c (80 - pre.length) l r)
      ⟨a, b, none, rfl, rfl, ca, cb, ha, hb, by simp, rfl⟩ ?_ (fun _ _ _ => rfl) ?_
    · rintro pre k ps ρ S hk ⟨l, r, o, rfl, rfl, cl, cr, hl, hr, h80, e⟩
      obtain ⟨hk1, hk2⟩ := mem_range_split hk
      refine ⟨rfl, [some (dF p c iv), some (dR l), some (dR r), some (.int k)], by simp [asg], ?_⟩
      have ht : evT (run co pf n) co (.val (.cmp .eq (.v 2) (.tup .nil))) [some (dF p c iv), some (dR l), some (dR r), some (.int k)] [] = .ok (decide (r = [])) [] := by
        simp only [evT, evE, evEs, List.getElem?_cons_zero, List.getElem?_cons_succ, R.bind_ok]
        rw [newT_ok (by simp)]
        simp only [R.bind_ok, cmpR, dR_nil, Option.map_some, optR_some, truthR]
      by_cases h0 : r = []
      · left
        subst h0
        have h1 := (law_monic_ok G cl hl).call (n := n) (by omega)
        refine Ends.iteT [] (by rw [ht]; rfl) (Ends.ret (dR (monR p c iv l)) [] (by simp [evE, evEs, h1]) ?_)
        rw [e, gcdN_nil]
      · right
        have D := div_fn G cl cr hl hr h0
        have h1 := (law_parts_fn G cl cr hl hr h0).call (n := n) (by omega)
        have hlr := D.len
        refine Nx.iteF [] (by rw [ht]; simp [h0]) (Nx.par [dR r, dR (rst p c l r)] [] [some (dF p c iv), some (dR r), some (dR (rst p c l r)), some (.int k)] (by simp [evE, evEs, h1, ix_one]) (by simp [setAll]) (Nx.nil ⟨r, _, _, rfl, rfl, cr, D.cr, hr, by omega, by simp; omega, ?_⟩))
        rw [e, show 80 - pre.length = (80 - (pre ++ [k]).length) + 1 by simp; omega, gcdN_step h0]
    · rintro ρ1 S1 ⟨l, r, o, rfl, rfl, cl, cr, hl, hr, h80, e⟩
      rw [List.length_range, Nat.sub_self, show gcdN p c 0 l r = l from rfl] at e
      have h1 := (law_monic_ok G cl hl).call (n := n) (by omega)
      refine Ends.ret (dR (monR p c iv l)) [] (by simp [evE, evEs, h1]) ?_
      rw [e]
theorem pair_parts_ok (G : Gr p c iv) {L d : Row} (cL : Can p L) (cd : Can p d) (hL : L.length ≤ 1000) (hd : d.length ≤ 1000) (hd0 : d ≠ []) : Rc 5 "pair_parts" [.int p, dR L, dR d] (.tup [dR (qut p c L d), dR (rst p c L d)]) :=
  Rt.by (fun n S => r_pair_parts n _ S) rfl (by simp [pures, D.pure]) (by simp [pures, D.pure]) fun n hn => by
    unfold b_pair_parts
    have h1 := G.ground.call (n := n) (by omega)
    have h2 := (row_parts_fn G cL cd hL hd hd0).call (n := n) (by omega)
    exact Ends.ret _ [] (by simp [evE, evEs, h1, h2]) rfl
theorem pair_common_ok (G : Gr p c iv) {a b : Row} (ca : Can p a) (cb : Can p b) (ha : a.length ≤ 1000) (hb : b.length ≤ 80) : Rc 6 "pair_common" [.int p, dR a, dR b] (dR (monR p c iv (gcdN p c 80 a b))) :=
  Rt.by (fun n S => r_pair_common n _ S) rfl (by simp [pures, D.pure]) (by simp) fun n hn => by
    unfold b_pair_common
    have h1 := G.ground.call (n := n) (by omega)
    have h2 := (rows_greatest_ok G ca cb ha hb).call (n := n) (by omega)
    exact Ends.ret _ [] (by simp [evE, evEs, h1, h2]) rfl
end
end Z.K01
end
section
set_option Elab.async false
set_option linter.all false
set_option autoImplicit false
set_option maxRecDepth 100000
set_option maxHeartbeats 8000000
namespace Z.K01
open PySem Z M
section
variable {p c : Int} {iv : List Int}
def bv (v b : Nat) : Nat := 2 * v + b
theorem shifts_nat (k : Nat) : ∀ l : List Nat, shifts k (l.map fun b : Nat => Z.D.int b) = l.map fun b : Nat => Z.D.int b
  | [] => rfl
  | x :: l => by simp only [List.map_cons, shifts, D.shift, shifts_nat k l]
theorem figures_run {n : Nat} (hn : 1 ≤ n) {t : Nat} (ht : t < 2 ^ 80) : ∃ (bs : List Nat) (S1 : Sto) (k : Nat), run co pf n "figures" [.int t] [] = .ok (.lst k) S1 ∧ S1[k]? = some (bs.map fun b : Nat => Z.D.int b) ∧ bs.foldl bv 0 = t ∧ (∀ b ∈ bs, b < 2) ∧ bs.length ≤ 80 := by
  obtain ⟨k, rfl⟩ : ∃ k, n = k + 1 := ⟨n - 1, by omega⟩
  have key : Ends (run co pf k) co b_figures [some (.int t), none] [] fun x S1 => ∃ (bs : List Nat) (k : Nat), x = .lst k ∧ S1[k]? = some (bs.map fun b : Nat => Z.D.int b) ∧ bs.foldl bv 0 = t ∧ (∀ b ∈ bs, b < 2) ∧ bs.length ≤ 80 := by
    unfold b_figures
    refine Ends.set (.lst 0) [[]] (by simp [evE, evEs, newL_ok]) ?_
    show Ends (run co pf k) co _ [some (.int t), some (.lst 0)] _ _
    refine Ends.wh (fun j ρ S => ∃ (m : Nat) (ls : List Nat), ρ = [some (.int m), some (.lst 0)] ∧ S = [ls.map fun b : Nat => Z.D.int b] ∧ m < 2 ^ j ∧ ls.length + j ≤ 80 ∧ (∀ b ∈ ls, b < 2) ∧ ls.reverse.foldl bv m = t) 80
      (fun ρ S => ∃ (ls : List Nat), ρ = [some (.int 0), some (.lst 0)] ∧ S = [ls.map fun b : Nat => Z.D.int b] ∧ ls.length ≤ 80 ∧ (∀ b ∈ ls, b < 2) ∧ ls.reverse.foldl bv 0 = t) (by decide) ⟨t, [], rfl, rfl, ht, by simp, by simp, rfl⟩ ?_ ?_
    · rintro j ρ S ⟨m, ls, rfl, rfl, hm, hl, hb, e⟩
      have ht : evT (run co pf k) co (.val (.cmp .gt (.v 0) (.c (.int 0)))) [some (.int m), some (.lst 0)] [ls.map fun b : Nat => Z.D.int b] = .ok (decide (0 < (m : Int))) [ls.map fun b : Nat => Z.D.int b] := by
        simp [evT, evE, cmpR, truthR]
      by_cases h0 : m = 0
      · left
        subst h0
        exact ⟨_, by rw [ht]; rfl, ls, rfl, rfl, by omega, hb, e⟩
      · right
        obtain ⟨j', rfl⟩ : ∃ j', j = j' + 1 := ⟨j - 1, by
          rcases Nat.eq_zero_or_pos j with rfl | h
          · simp at hm; omega
          · omega⟩
        have hs : ls.length < sizeLine := Nat.lt_of_lt_of_le (show ls.length < 100000 by omega) (by decide)
        have e1 : ((m : Int) % 2) = ((m % 2 : Nat) : Int) := by omega
        have e2 : ((m : Int) / 2) = ((m / 2 : Nat) : Int) := by omega
        have b1 : ∀ S, binR .mod (.int (m : Int)) (.int 2) S = .ok (.int ((m % 2 : Nat) : Int)) S := fun S => by rw [← e1]; rfl
        have b2 : ∀ S, augR .fdiv (.int (m : Int)) (.int 2) S = .ok (.int ((m / 2 : Nat) : Int)) S := fun S => by rw [← e2]; rfl
        refine ⟨_, [some (.int ((m / 2 : Nat) : Int)), some (.lst 0)], [(ls ++ [m % 2]).map fun b : Nat => Z.D.int b], j', by rw [ht, decide_eq_true (by omega)], .inl ?_, by omega, m / 2, _, rfl, rfl, ?_, by simp; omega, ?_, ?_⟩
        · simp only [evSs, evS, evE, evEs, List.getElem?_cons_zero, List.getElem?_cons_succ, R.bind_ok, R.toF_ok, b1, mtR, b2]
          simp [hs]
          rfl
        · rw [Nat.pow_succ] at hm; omega
        · intro b hb2
          rcases List.mem_append.mp hb2 with h | h
          · exact hb b h
          · simp at h; omega
        · rw [List.reverse_append, List.reverse_singleton, List.singleton_append, List.foldl_cons]
          rw [show bv (m / 2) (m % 2) = m by unfold bv; omega]
          exact e
    · rintro ρ1 S1 ⟨ls, rfl, rfl, hl, hb, e⟩
      refine Ends.ret (.lst 1) [ls.map fun b : Nat => Z.D.int b, ls.reverse.map fun b : Nat => Z.D.int b] ?_ ⟨ls.reverse, 1, rfl, rfl, e, fun b h => hb b (List.mem_reverse.mp h), by simpa using hl⟩
      simp only [evE, List.getElem?_cons_zero, List.getElem?_cons_succ, R.bind_ok, revR]
      rw [newL_ok (by simp; omega), List.map_reverse]; rfl
  obtain ⟨x, S1, e, bs, k2, rfl, h⟩ := key
  refine ⟨bs, S1, k2, ?_, h⟩
  rw [r_figures]
  have e' : evSs (run co pf k) co b_figures (List.map some [Z.D.int (t : Int)] ++ List.replicate (2 - 1) none) [] = .rt (.lst k2) S1 := e
  simp only [runFn, List.length_cons, List.length_nil, Nat.zero_add, if_true, e']
theorem figures_call {n : Nat} (hn : 1 ≤ n) {t : Nat} (ht : t < 2 ^ 80) (S : Sto) : ∃ (bs : List Nat) (E : Sto) (k : Nat), callR (run co pf n) "figures" [.int t] S = .ok (.lst k) (S ++ E) ∧ (S ++ E)[k]? = some (bs.map fun b : Nat => Z.D.int b) ∧ bs.foldl bv 0 = t ∧ (∀ b ∈ bs, b < 2) ∧ bs.length ≤ 80 := by
  obtain ⟨bs, S1, k, h1, h2, h3⟩ := figures_run hn ht
  refine ⟨bs, S1.map (shifts S.length), k + S.length, ?_, ?_, h3⟩
  · unfold callR
    rw [if_pos (by rfl), h1]
    rfl
  · rw [List.getElem?_append_right (by omega), Nat.add_sub_cancel, List.getElem?_map, h2]
    simp only [Option.map_some, shifts_nat]
theorem mulR_len {a b : Row} : (mulR p c a b).length ≤ a.length + b.length - 1 := by
  unfold mulR
  refine Nat.le_trans (trim_len _) (by simp)
theorem pw_step (G : Gr p c iv) {a d x y : Row} {i j : Nat} (cd : Can p d) (hd : d.length ≤ 400) (hd0 : d ≠ []) (hx : PwOk p c a d i x) (hy : PwOk p c a d j y) : PwOk p c a d (i + j) (rst p c (mulR p c x y) d) := by
  have l := mulR_len (p := p) (c := c) (a := x) (b := y)
  have := hx.len
  have := hy.len
  exact pw_mul hx hy (div_fn G (mulR_can G.pp) cd (by omega) (by omega) hd0)
theorem row_raised_ok (G : Gr p c iv) {a d : Row} {t : Nat} (ca : Can p a) (cd : Can p d) (ha : a.length ≤ 1000) (hd : d.length ≤ 400) (hd2 : 2 ≤ d.length) (ht : t < 2 ^ 80) :
    Rc 5 "row_raised" [dG p c, dR a, .int t, dR d] (dR (pwr p c a d t)) :=
  Rt.by (fun n S => r_row_raised n _ S) rfl (by simp [pures, dG, D.pure]) (by simp) fun n hn => by
    have hd0 : d ≠ [] := by rintro rfl; simp at hd2
    unfold b_row_raised
    show Ends (run co pf n) co _ [some (dG p c), some (dR a), some (.int t), some (dR d), none, none] _ _
    have h1 := (row_rest_ok G ca cd ha (by omega) hd0).call (n := n) (by omega)
    have D0 := div_fn G ca cd ha (by omega) hd0
    generalize hA : rst p c a d = a' at h1 D0
    refine Ends.set (dR a') [] (by simp [evE, evEs, h1]) ?_
    refine Ends.set (dR [(1, 0)]) [] (by simp [evE, co_ONE_ROW]) ?_
    show Ends (run co pf n) co _ [some (dG p c), some (dR a'), some (.int t), some (dR d), some (dR [(1, 0)]), none] _ _
    obtain ⟨bs, E, k, hc, hk, hv, hb, hl⟩ := figures_call (n := n) (by omega) ht []
    have P0 : PwOk p c a' d 0 [(1, 0)] := ⟨⟨fun x hx => by rw [List.mem_singleton.mp hx]; exact rd_one G, by simp⟩, by simp; omega, Eqm.of_pe PE.refl⟩
    have P1 : PwOk p c a' d 1 a' := ⟨D0.cr, D0.len, by rw [rpow_one]; exact Eqm.of_pe PE.refl⟩
    rw [List.nil_append] at hc hk
    refine Ends.fo2 [(k, bs.map fun b : Nat => Z.D.int b)] (fun b : Nat => Z.D.int b) bs E ?_ (fun pre ρ S => ∃ (f : Row) (o : Option Z.D), S = E ∧ ρ = [some (dG p c), some (dR a'), some (.int t), some (dR d), some (dR f), o] ∧ PwOk p c a' d (pre.foldl bv 0) f)
      ⟨_, none, rfl, rfl, P0⟩ ?_ ?_ ?_
    · simp [evI, evE, evEs, hc, hk]
    · rintro pre b post ρ S hsp ⟨f, o, rfl, rfl, P⟩
      have hb2 : b < 2 := hb b (by rw [hsp]; simp)
      refine ⟨chk_at hk, [some (dG p c), some (dR a'), some (.int t), some (dR d), some (dR f), some (.int b)], by simp [asg], ?_⟩
      have Pl := P.len
      have l1 := mulR_len (p := p) (c := c) (a := f) (b := f)
      have m1 := (rows_multiplied_ok G P.can.red P.can.red (by omega) (by omega)).call (n := n) (by omega)
      have r1 := (row_rest_ok G (mulR_can (p := p) (c := c) (a := f) (b := f) G.pp) cd (by omega) (by omega) hd0).call (n := n) (by omega)
      have P2 := pw_step G cd hd hd0 P P
      generalize hF : rst p c (mulR p c f f) d = f2 at r1 P2
      refine Nx.set (dR f2) S (by simp [evE, evEs, m1, r1]) ?_
      show Nx (run co pf n) co _ [some (dG p c), some (dR a'), some (.int t), some (dR d), some (dR f2), some (.int b)] _ _
      have ht : evT (run co pf n) co (.val (.cmp .eq (.v 5) (.c (.int 1)))) [some (dG p c), some (dR a'), some (.int t), some (dR d), some (dR f2), some (.int b)] S = .ok (decide ((b : Int) = 1)) S := by
        simp only [evT, evE, List.getElem?_cons_zero, List.getElem?_cons_succ, R.bind_ok, cmpR, eqR_int, Option.map_some, optR_some, truthR]
      have ev : (pre ++ [b]).foldl bv 0 = pre.foldl bv 0 + pre.foldl bv 0 + b := by
        rw [List.foldl_append]; show bv _ _ = _; unfold bv; omega
      by_cases h1 : b = 1
      · have Pl2 := P2.len
        have Pl1 := P1.len
        have l2 := mulR_len (p := p) (c := c) (a := f2) (b := a')
        have m2 := (rows_multiplied_ok G P2.can.red P1.can.red (by omega) (by omega)).call (n := n) (by omega)
        have r2 := (row_rest_ok G (mulR_can (p := p) (c := c) (a := f2) (b := a') G.pp) cd (by omega) (by omega) hd0).call (n := n) (by omega)
        refine Nx.iteT S (by rw [ht, h1]; rfl) [some (dG p c), some (dR a'), some (.int t), some (dR d), some (dR (rst p c (mulR p c f2 a') d)), some (.int b)] S (by simp [evSs, evS, evE, evEs, m2, r2]) (Nx.nil ⟨_, _, rfl, rfl, ?_⟩)
        rw [ev, h1]
        exact pw_step G cd hd hd0 P2 P1
      · refine Nx.iteF S (by rw [ht]; simp; omega) (Nx.nil ⟨_, _, rfl, rfl, ?_⟩)
        rw [ev, show b = 0 by omega]
        exact P2
    · rintro ρ S ⟨f, o, rfl, rfl, P⟩
      exact chk_at hk
    · rintro ρ1 S1 ⟨f, o, rfl, rfl, P⟩
      refine Ends.ret (dR f) S1 (by simp [evE]) ?_
      rw [hv] at P
      obtain ⟨k, v, H⟩ := hd_of G cd hd0
      rw [pwr_eq H (pw_rest D0 P)]
theorem law_rest_power_ok (G : Gr p c iv) {a d : Row} {t : Nat} (ca : Can p a) (cd : Can p d) (ha : a.length ≤ 1000) (hd : d.length ≤ 400) (hd2 : 2 ≤ d.length) (ht : t < 2 ^ 80) :
    Rc 4 "_law_rest_power" [dF p c iv, dR a, .int t, dR d] (dR (pwr p c a d t)) :=
  Rt.by (fun n S => r__law_rest_power n _ S) rfl (by simp [pures, dF_pure, D.pure]) (by simp) fun n hn => by
    have hd0 : d ≠ [] := by rintro rfl; simp at hd2
    unfold b__law_rest_power
    show Ends (run co pf n) co _ [some (dF p c iv), some (dR a), some (.int t), some (dR d), none, none, none, none] _ _
    have c1 : Can p [(1, 0)] := ⟨fun x hx => by rw [List.mem_singleton.mp hx]; exact rd_one G, by simp⟩
    have h1 := (law_parts_fn G ca cd ha (by omega) hd0).call (n := n) (by omega)
    have D0 := div_fn G ca cd ha (by omega) hd0
    have h2 := (law_parts_fn G c1 cd (by simp) (by omega) hd0).call (n := n) (by omega)
    have D1 := div_fn G c1 cd (by simp) (by omega) hd0
    have P1 : PwOk p c a d 1 (rst p c a d) := pw_one D0
    have P0 : PwOk p c a d 0 (rst p c [(1, 0)] d) := pw_zero D1
    generalize rst p c a d = s0 at h1 P1
    generalize rst p c [(1, 0)] d = f0 at h2 P0
    refine Ends.par [dR f0, dR s0, .int t] [] [some (dF p c iv), some (dR a), some (.int t), some (dR d), some (dR f0), some (dR s0), some (.int t), none] ?_ (by simp [setAll]) ?_
    · have e1 : evE (run co pf n) co (.tup (.cons (.tup (.cons (.c (.int 1)) (.cons (.c (.int 0)) .nil))) .nil)) [some (dF p c iv), some (dR a), some (.int t), some (dR d), none, none, none, none] [] = .ok (dR [(1, 0)]) [] := by
        simp [evE, evEs, newT_ok, dR, dE]
      simp only [evEs, evE] at e1 ⊢
      simp only [List.getElem?_cons_zero, List.getElem?_cons_succ, R.bind_ok, h1] at e1 ⊢
      rw [newT_ok (by simp)] at e1 ⊢
      simp only [R.bind_ok] at e1 ⊢
      rw [e1]
      simp only [R.bind_ok, h2, ix_one]
    refine Ends.foR [] (fun i : Nat => Z.D.int i) (List.range 120) [] (evI_r1 (by simp [evE]) (by omega))
      (fun pre ρ S => ∃ (f s : Row) (i e l : Nat) (o : Option Z.D), S = [] ∧ ρ = [some (dF p c iv), some (dR a), some (.int t), some (dR d), some (dR f), some (dR s), some (.int l), o] ∧ PwOk p c a d i f ∧ PwOk p c a d e s ∧ i + e * l = t ∧ l < 2 ^ (120 - pre.length))
      ⟨f0, s0, 0, 1, t, none, rfl, rfl, P0, P1, by omega, Nat.lt_of_lt_of_le ht (Nat.pow_le_pow_right (by omega) (by simp))⟩ ?_ (fun _ _ _ => rfl) ?_
    · rintro pre k ps ρ S hk ⟨f, s, i, e, l, o, rfl, rfl, Pf, Ps, he, hl⟩
      obtain ⟨hk1, hk2⟩ := mem_range_split hk
      refine ⟨rfl, [some (dF p c iv), some (dR a), some (.int t), some (dR d), some (dR f), some (dR s), some (.int l), some (.int k)], by simp [asg], ?_⟩
      have ht : evT (run co pf n) co (.val (.cmp .eq (.v 6) (.c (.int 0)))) [some (dF p c iv), some (dR a), some (.int t), some (dR d), some (dR f), some (dR s), some (.int l), some (.int k)] [] = .ok (decide ((l : Int) = 0)) [] := by
        simp only [evT, evE, List.getElem?_cons_zero, List.getElem?_cons_succ, R.bind_ok, cmpR, eqR_int, Option.map_some, optR_some, truthR]
      by_cases h0 : l = 0
      · left
        subst h0
        refine Ends.iteT [] (by rw [ht]; rfl) (Ends.ret (dR f) [] (by simp [evE]) ?_)
        obtain ⟨k, v, H⟩ := hd_of G cd hd0
        rw [Nat.mul_zero, Nat.add_zero] at he
        rw [← he, pwr_eq H Pf]
      · right
        refine Nx.iteF [] (by rw [ht]; simp; omega) ?_
        have e1 : ((l : Int) % 2) = ((l % 2 : Nat) : Int) := by omega
        have e2 : ((l : Int) / 2) = ((l / 2 : Nat) : Int) := by omega
        have b1 : ∀ S, binR .mod (.int (l : Int)) (.int 2) S = .ok (.int ((l % 2 : Nat) : Int)) S := fun S => by rw [← e1]; rfl
        have b2 : ∀ S, binR .fdiv (.int (l : Int)) (.int 2) S = .ok (.int ((l / 2 : Nat) : Int)) S := fun S => by rw [← e2]; rfl
        have ht2 : evT (run co pf n) co (.val (.cmp .eq (.bin .mod (.bi .int (.cons (.v 6) .nil)) (.c (.int 2))) (.c (.int 1)))) [some (dF p c iv), some (dR a), some (.int t), some (dR d), some (dR f), some (dR s), some (.int l), some (.int k)] [] = .ok (decide (((l % 2 : Nat) : Int) = 1)) [] := by
          simp only [evT, evE, evEs, List.getElem?_cons_zero, List.getElem?_cons_succ, R.bind_ok, biR_int, b1, cmpR, eqR_int, Option.map_some, optR_some, truthR]
        have lf := Pf.len
        have ls := Ps.len
        have l1 := mulR_len (p := p) (c := c) (a := f) (b := s)
        have l2 := mulR_len (p := p) (c := c) (a := s) (b := s)
        have m1 := (law_rows_by_ok G Pf.can.red Ps.can.red (by omega) (by omega)).call (n := n) (by omega)
        have r1 := (law_parts_fn G (mulR_can (p := p) (c := c) (a := f) (b := s) G.pp) cd (by omega) (by omega) hd0).call (n := n) (by omega)
        have m2 := (law_rows_by_ok G Ps.can.red Ps.can.red (by omega) (by omega)).call (n := n) (by omega)
        have r2 := (law_parts_fn G (mulR_can (p := p) (c := c) (a := s) (b := s) G.pp) cd (by omega) (by omega) hd0).call (n := n) (by omega)
        have Pfs := pw_step G cd hd hd0 Pf Ps
        have Pss := pw_step G cd hd hd0 Ps Ps
        have hl2 : l / 2 < 2 ^ (120 - (pre ++ [k]).length) := by
          rw [show 120 - pre.length = (120 - (pre ++ [k]).length) + 1 by simp; omega, Nat.pow_succ] at hl
          omega
        have last : ∀ (f' : Row) (i' : Nat), PwOk p c a d i' f' → i' + (e + e) * (l / 2) = t → Nx (run co pf n) co (.cons (.par [6, 5] (.cons (.bin .fdiv (.v 6) (.c (.int 2))) (.cons (.ix (.call "_law_rows_parts" (.cons (.v 0) (.cons (.call "_law_rows_by" (.cons (.v 0) (.cons (.v 5) (.cons (.v 5) .nil)))) (.cons (.v 3) .nil)))) (.c (.int 1))) .nil))) .nil) [some (dF p c iv), some (dR a), some (.int t), some (dR d), some (dR f'), some (dR s), some (.int l), some (.int k)] [] (fun ρ S => ∃ (f s : Row) (i e l : Nat) (o : Option Z.D), S = [] ∧ ρ = [some (dF p c iv), some (dR a), some (.int t), some (dR d), some (dR f), some (dR s), some (.int l), o] ∧ PwOk p c a d i f ∧ PwOk p c a d e s ∧ i + e * l = t ∧ l < 2 ^ (120 - (pre ++ [k]).length)) := fun f' i' P' he' =>
          Nx.par [.int ((l / 2 : Nat) : Int), dR (rst p c (mulR p c s s) d)] [] [some (dF p c iv), some (dR a), some (.int t), some (dR d), some (dR f'), some (dR (rst p c (mulR p c s s) d)), some (.int ((l / 2 : Nat) : Int)), some (.int k)] (by simp only [evE, evEs, List.getElem?_cons_zero, List.getElem?_cons_succ, R.bind_ok, b2, m2, r2, ix_one]) (by simp [setAll]) (Nx.nil ⟨f', _, i', e + e, l / 2, _, rfl, rfl, P', Pss, he', hl2⟩)
        by_cases h1 : l % 2 = 1
        · refine Nx.iteT [] (by rw [ht2, h1]; rfl) [some (dF p c iv), some (dR a), some (.int t), some (dR d), some (dR (rst p c (mulR p c f s) d)), some (dR s), some (.int l), some (.int k)] [] (by simp [evSs, evS, evE, evEs, m1, r1, ix_one]) (last _ (i + e) Pfs ?_)
          obtain ⟨q, rfl⟩ : ∃ q, l = 2 * q + 1 := ⟨l / 2, by omega⟩
          rw [show (2 * q + 1) / 2 = q by omega, ← he]
          grind
        · refine Nx.iteF [] (by rw [ht2]; simp; omega) (last f i Pf ?_)
          obtain ⟨q, rfl⟩ : ∃ q, l = 2 * q := ⟨l / 2, by omega⟩
          rw [show (2 * q) / 2 = q by omega, ← he]
          grind
    · rintro ρ1 S1 ⟨f, s, i, e, l, o, rfl, rfl, Pf, Ps, he, hl⟩
      refine Ends.ret (dR f) [] (by simp [evE]) ?_
      have h0 : l = 0 := by simp at hl; omega
      subst h0
      obtain ⟨k, v, H⟩ := hd_of G cd hd0
      rw [Nat.mul_zero, Nat.add_zero] at he
      rw [← he, pwr_eq H Pf]
theorem pair_power_ok (G : Gr p c iv) {a d : Row} {t : Nat} (ca : Can p a) (cd : Can p d) (ha : a.length ≤ 1000) (hd : d.length ≤ 400) (hd2 : 2 ≤ d.length) (ht : t < 2 ^ 80) :
    Rc 6 "pair_power_rest" [.int p, dR a, .int t, dR d] (dR (pwr p c a d t)) :=
  Rt.by (fun n S => r_pair_power_rest n _ S) rfl (by simp [pures, D.pure]) (by simp) fun n hn => by
    unfold b_pair_power_rest
    have h1 := G.ground.call (n := n) (by omega)
    have h2 := (row_raised_ok G ca cd ha hd hd2 ht).call (n := n) (by omega)
    exact Ends.ret _ [] (by simp [evE, evEs, h1, h2]) rfl
end
end Z.K01
end
section
set_option Elab.async false
set_option linter.all false
set_option autoImplicit false
set_option maxRecDepth 100000
set_option maxHeartbeats 8000000
namespace Z.K01
open PySem Z M
section
variable {p c : Int} {iv : List Int}
theorem em_len (r : List Int) : (em r).length = r.length := by simp [em]
theorem em_append (a b : List Int) : em (a ++ b) = em a ++ em b := by simp [em]
theorem em_take (a : List Int) (k : Nat) : em (a.take k) = (em a).take k := by simp [em, List.map_take]
theorem em_rev (a : List Int) : em a.reverse = (em a).reverse := by simp [em, List.map_reverse]
theorem los_em (a : List Int) : los (em a) = a := by simp [los, em, Function.comp_def]
theorem em_inj {a b : List Int} (h : em a = em b) : a = b := by rw [← los_em a, h, los_em]
theorem em_nil : em [] = [] := rfl
theorem em_eq_nil {a : List Int} : em a = [] ↔ a = [] := by simp [em]
theorem co_em (r : List Int) (i : Nat) : M.co (em r) i = (r.getD i 0, 0) := by
  by_cases hi : i < r.length
  · rw [co_lt (by rw [em_len]; exact hi)]
    simp [em, List.getD_eq_getElem?_getD, List.getElem?_eq_getElem hi]
  · rw [co_ge (by rw [em_len]; omega)]
    simp [List.getD_eq_getElem?_getD, List.getElem?_eq_none (Nat.le_of_not_lt hi)]
theorem em_map_rd (r : List Int) : em (r.map (· % p)) = (em r).map (rd p) := by
  simp only [em, List.map_map]
  refine List.map_congr_left fun x _ => ?_
  simp [rd]
/-- the ints without the noughts at their end -/
theorem trim_em (r : List Int) : ∃ s : List Int, em s = trim (em r) ∧ s.length ≤ r.length := by
  refine ⟨los (trim (em r)), ?_, by simp only [los, List.length_map]; have := trim_len (em r); rwa [em_len] at this⟩
  simp only [em, los, List.map_map]
  conv => rhs; rw [← List.map_id (trim (List.map (fun x => (x, 0)) r))]
  refine List.map_congr_left fun x hx => ?_
  have h := trim_mem hx
  simp only [List.mem_map] at h
  obtain ⟨y, _, rfl⟩ := h
  rfl
theorem co_map_rd (F : Row) : PE p (M.co (F.map (rd p))) (M.co F) := fun i => by
  have e : M.co (F.map (rd p)) i = rd p (M.co F i) := by
    by_cases hi : i < F.length
    · rw [co_lt (by simpa using hi), co_lt hi]; simp
    · rw [co_ge (by simpa using hi), co_ge (by omega)]; simp [rd]
  rw [e]
  exact Q.rd
theorem red_map (G : Gr p c iv) (F : Row) : Red p (F.map (rd p)) := fun x hx => by
  simp only [List.mem_map] at hx
  obtain ⟨y, _, rfl⟩ := hx
  exact G.rr _
/-- a list of ints, in the store or not -/
def IsI (S : Sto) (d : Z.D) (r : List Int) : Prop := d = dI r ∨ ∃ k, d = .lst k ∧ S[k]? = some (r.map Z.D.int)
theorem at_end {S : Sto} {x : List Z.D} : (S ++ [x])[S.length]? = some x := by simp
theorem set_end {S : Sto} {x y : List Z.D} : (S ++ [x]).set S.length y = S ++ [y] := by simp
theorem at_last_int {ms : List Int} {k : Nat} (h0 : 0 < k) (hk : k ≤ ms.length) : atI ((ms.take k).map Z.D.int) (-1) = some (.int (ms.getD (k - 1) 0)) := by
  unfold atI L2.atI L2.ixN
  have hl : ((ms.take k).map Z.D.int).length = k := by simp; omega
  rw [if_neg (by decide), hl, if_pos (by omega)]
  have e : (-1 + (k : Int)).toNat = k - 1 := by omega
  simp only [Option.bind_some, e]
  rw [List.getElem?_map, List.getElem?_take_of_lt (by omega), List.getElem?_eq_getElem (by omega), List.getD_eq_getElem?_getD, List.getElem?_eq_getElem (by omega)]
  rfl
theorem trimmed_ok (G : Gr p c iv) {S : Sto} {d : Z.D} {r : List Int} (h : IsI S d r) (hl : r.length ≤ 2000) : ∃ s : List Int, em s = trim ((em r).map (rd p)) ∧ Rs co pf 1 "trimmed" [.int p, d] S (dI s) := by
  generalize hms : r.map (· % p) = ms
  have hem : (em r).map (rd p) = em ms := by rw [← hms, em_map_rd]
  have hml : ms.length = r.length := by rw [← hms]; simp
  obtain ⟨s, hs, _⟩ := trim_em ms
  refine ⟨s, by rw [hem, hs], ?_⟩
  refine Rs.by (fun n S => r_trimmed n _ S) rfl fun n hn => ?_
  unfold b_trimmed
  show Ends (run co pf n) co _ [some (.int p), some d, none, none] _ _
  obtain ⟨gd, hit, hc⟩ : ∃ gd, evI (run co pf n) co (.e (.v 1)) [some (.int p), some d, none, none] S = .ok (gd, r.map Z.D.int) S ∧ chk gd S = true := by
    rcases h with rfl | ⟨k, rfl, h⟩
    · exact ⟨[], by simp [evI, evE, dI], rfl⟩
    · exact ⟨[(k, r.map Z.D.int)], by simp [evI, evE, h], chk_at h⟩
  have h0 := evE_lc (Γ := run co pf n) (Co := co) (ρ := [some (.int p), some d, none, none]) (S := S) (S1 := S) (gd := gd) (elt := .bin .mod (.v 3) (.v 0)) (tg := .nm 3) (it := .e (.v 1)) (own := [3]) Z.D.int (fun x => Z.D.int (x % p)) r hit hc (by omega) fun x _ =>
    ⟨[some (.int p), some d, none, some (.int x)], by simp [asg, wipeR], by simp [evE, binR, intB, G.pp]⟩
  have e1 : r.map (fun x => Z.D.int (x % p)) = ms.map Z.D.int := by rw [← hms, List.map_map]; rfl
  rw [e1] at h0
  refine Ends.set (.lst S.length) (S ++ [ms.map Z.D.int]) h0 ?_
  show Ends (run co pf n) co _ [some (.int p), some d, some (.lst S.length), none] _ _
  refine Ends.wh (fun k ρ S' => S' = S ++ [(ms.take k).map Z.D.int] ∧ ρ = [some (.int p), some d, some (.lst S.length), none] ∧ k ≤ ms.length ∧ ∀ i, k ≤ i → M.co (em ms) i = zr) ms.length
    (fun ρ S' => ∃ k : Nat, S' = S ++ [(ms.take k).map Z.D.int] ∧ ρ = [some (.int p), some d, some (.lst S.length), none] ∧ k ≤ ms.length ∧ (∀ i, k ≤ i → M.co (em ms) i = zr) ∧ (k = 0 ∨ M.co (em ms) (k - 1) ≠ zr)) (by omega) ⟨by rw [List.take_length], rfl, Nat.le_refl _, fun i hi => co_ge (by rw [em_len]; exact hi)⟩ ?_ ?_
  · rintro k ρ S' ⟨rfl, rfl, hk, hz⟩
    by_cases hk0 : k = 0
    · left
      subst hk0
      exact ⟨_, by simp [evT, evE, truthR], 0, rfl, rfl, hk, hz, .inl rfl⟩
    · have e2 : 0 < k := by omega
      have tr : truthR (.lst S.length) (S ++ [(ms.take k).map Z.D.int]) = some true := by
        simp only [truthR, at_end, Option.map_some]
        cases e : (ms.take k) with
        | nil => rw [List.take_eq_nil_iff] at e; rcases e with e | e; omega; subst e; simp at hk; omega
        | cons => rfl
      have ix : ixR (.lst S.length) (.int (-1)) (S ++ [(ms.take k).map Z.D.int]) = .ok (.int (ms.getD (k - 1) 0)) (S ++ [(ms.take k).map Z.D.int]) := ixR_L at_end (at_last_int e2 hk)
      have ht : evT (run co pf n) co (.and (.val (.v 2)) (.val (.cmp .eq (.ix (.v 2) (.neg (.c (.int 1)))) (.c (.int 0))))) [some (.int p), some d, some (.lst S.length), none] (S ++ [(ms.take k).map Z.D.int]) = .ok (decide (ms.getD (k - 1) 0 = 0)) (S ++ [(ms.take k).map Z.D.int]) := by
        simp only [evT, evE, List.getElem?_cons_zero, List.getElem?_cons_succ, R.bind_ok, tr, optR_some, if_true, ix, cmpR, eqR_int, Option.map_some]
        rfl
      by_cases hx : ms.getD (k - 1) 0 = 0
      · right
        refine ⟨_, _, S ++ [(ms.take (k - 1)).map Z.D.int], k - 1, by rw [ht, hx]; rfl, .inl ?_, by omega, rfl, rfl, by omega, ?_⟩
        · have p1 : mtR .pop (.lst S.length) [] (S ++ [(ms.take k).map Z.D.int]) = .ok (.int (ms.getD (k - 1) 0)) (S ++ [(ms.take (k - 1)).map Z.D.int]) := by
            have hl2 : ((ms.take k).map Z.D.int).length = k := by simp; omega
            have g1 : ((ms.take k).map Z.D.int)[k - 1]? = some (.int (ms.getD (k - 1) 0)) := by
              rw [List.getElem?_map, List.getElem?_take_of_lt (by omega), List.getElem?_eq_getElem (by omega), List.getD_eq_getElem?_getD, List.getElem?_eq_getElem (by omega)]; rfl
            have g2 : ((ms.take k).map Z.D.int).dropLast = (ms.take (k - 1)).map Z.D.int := by
              rw [List.dropLast_eq_take, hl2, ← List.map_take, List.take_take, Nat.min_eq_left (by omega)]
            unfold mtR
            simp only [at_end, hl2, g1, g2, set_end]
          simp only [evSs, evS, evE, evEs, List.getElem?_cons_zero, List.getElem?_cons_succ, R.bind_ok, R.toF_ok, p1, F.then_nx]
        · intro i hi
          by_cases hi2 : i = k - 1
          · rw [hi2, co_em, hx]
          · exact hz i (by omega)
      · left
        refine ⟨_, by rw [ht]; simp only [hx, decide_false], k, rfl, rfl, hk, hz, .inr ?_⟩
        rw [co_em]
        intro e
        exact hx (congrArg Prod.fst e)
  · rintro ρ1 S1 ⟨k, rfl, rfl, hk, hz, h3⟩
    have e4 : ms.take k = s := em_inj (by rw [em_take, hs]; exact trim_take (by rw [em_len]; exact hk) hz h3)
    refine Ends.ret (dI s) (S ++ [(ms.take k).map Z.D.int]) ?_ ⟨rfl, _, rfl⟩
    simp only [evE, evEs, List.getElem?_cons_zero, List.getElem?_cons_succ, R.bind_ok]
    rw [biR_tupL at_end, e4]
    rfl
theorem Rs_call_int {n m : Nat} {S : Sto} {k : Nat} {s : List Int} (h : Rs co pf m "trimmed" [.int p, .lst k] S (dI s)) (hn : m ≤ n) : ∃ E, callR (run co pf n) "trimmed" [.int p, .lst k] S = .ok (dI s) (S ++ E) := Rs.call h hn rfl
end
end Z.K01
end
section
set_option Elab.async false
set_option linter.all false
set_option autoImplicit false
set_option maxRecDepth 100000
set_option maxHeartbeats 8000000
namespace Z.K01
open PySem Z M
section
variable {p c : Int} {iv : List Int}
theorem dI_nil (S : Sto) (b : List Int) : eqR (dI b) (.tup []) S = some (decide (b = [])) := by
  cases b with
  | nil => rfl
  | cons x b =>
    have h1 : (dI (x :: b)).pure = true := dI_pure _
    unfold eqR
    simp only [dI, res] at h1 ⊢
    rw [if_pos ⟨h1, rfl, by simp [D.flatTo, flatTos]⟩]
    simp [eqD, D.py, pys, PyData.eqv, PyData.eqvAll]
theorem em_red (G : Gr p c iv) {a : List Int} (ca : Red p (em a)) {x : Int} (hx : x ∈ a) : 0 ≤ x ∧ x < p := by
  have h := ca (x, 0) (by simp only [em, List.mem_map]; exact ⟨x, hx, rfl⟩)
  exact (rd_range G.pp h).1
theorem em_getD (G : Gr p c iv) {a : List Int} (ca : Red p (em a)) (i : Nat) : 0 ≤ a.getD i 0 ∧ a.getD i 0 < p := by
  have h := rd_co G.pp ca i
  rw [co_em] at h
  exact (rd_range G.pp h).1
theorem int_get {a : List Int} {i : Nat} (h : i < a.length) : (a.map Z.D.int)[i]? = some (.int (a.getD i 0)) := by
  rw [List.getElem?_map, List.getElem?_eq_getElem h, List.getD_eq_getElem?_getD, List.getElem?_eq_getElem h]; rfl
theorem zip_ints (a b : List Int) : zipD (a.map Z.D.int) (b.map Z.D.int) = (a.zip b).map fun q => Z.D.tup [.int q.1, .int q.2] := zipD_map Z.D.int Z.D.int a b
theorem enum_ints (a : List Int) : enumD 0 (a.map Z.D.int) = a.zipIdx.map fun q => Z.D.tup [.int (q.2 : Int), .int q.1] := enum0_map Z.D.int a
theorem mem_zipIdxI {a : List Int} {q : Int × Nat} {pre post : List (Int × Nat)} (h : a.zipIdx = pre ++ q :: post) : q.2 = pre.length ∧ q.2 < a.length ∧ q.1 = a.getD q.2 0 ∧ q.1 ∈ a := by
  have h1 := congrArg (fun l : List (Int × Nat) => l[pre.length]?) h
  have h2 := congrArg List.length h
  simp at h2
  have hl : pre.length < a.length := by omega
  simp only [List.getElem?_append_right (Nat.le_refl _), Nat.sub_self, List.getElem?_cons_zero] at h1
  rw [List.getElem?_eq_getElem (by simpa using hl)] at h1
  simp only [List.getElem_zipIdx, Option.some.injEq, Nat.zero_add] at h1
  subst h1
  refine ⟨rfl, hl, ?_, List.getElem_mem hl⟩
  rw [List.getD_eq_getElem?_getD, List.getElem?_eq_getElem hl]; rfl
theorem sum_em (a b : List Int) (ca : Red p (em a)) : (em ((a.zip b).map (fun q => q.1 + q.2) ++ a.drop b.length)).map (rd p) = addL p (em a) (em b) := by
  unfold addL
  rw [em_append, List.map_append]
  congr 1
  · simp only [em, List.zip_map, List.map_map]
    refine List.map_congr_left fun q _ => ?_
    simp [rd, ad]
  · rw [em_len]
    have : em (a.drop b.length) = (em a).drop b.length := by simp [em, List.map_drop]
    rw [this]
    conv => rhs; rw [← List.map_id ((em a).drop b.length)]
    exact List.map_congr_left fun x hx => ca x (List.mem_of_mem_drop hx)
theorem added_tail (G : Gr p c iv) {n : Nat} (hn : 1 ≤ n) {a b : List Int} {o3 o4 o5 : Option Z.D} (ca : Red p (em a)) (hb : b.length ≤ a.length) (ha : a.length ≤ 1000) : ∃ s : List Int, em s = trim (addL p (em a) (em b)) ∧
    Ends (run co pf n) co (.cons (.set 3 (.lc (.bin .add (.v 4) (.v 5)) (.tup (.cons (.nm 4) (.cons (.nm 5) .nil))) (.zip (.v 1) (.v 2)) .yes [4, 5])) (.cons (.ret (.call "trimmed" (.cons (.v 0) (.cons (.bin .add (.v 3) (.bi .list (.cons (.sl (.v 1) (.som (.bi .len (.cons (.v 2) .nil))) .non) .nil))) .nil)))) .nil)) [some (.int p), some (dI a), some (dI b), o3, o4, o5] [] fun x _ => x = dI s := by
  have h0 := evE_lc (Γ := run co pf n) (Co := co) (ρ := [some (.int p), some (dI a), some (dI b), o3, o4, o5]) (S := []) (S1 := []) (gd := []) (elt := .bin .add (.v 4) (.v 5)) (tg := .tup (.cons (.nm 4) (.cons (.nm 5) .nil))) (it := .zip (.v 1) (.v 2)) (own := [4, 5]) (fun q : Int × Int => Z.D.tup [.int q.1, .int q.2]) (fun q => Z.D.int (q.1 + q.2)) (a.zip b)
    (by simp [evI, evE, dI, zip_ints, itemsOf]) rfl (by simp; omega) fun q _ => ⟨[some (.int p), some (dI a), some (dI b), o3, some (.int q.1), some (.int q.2)], by simp [asg, asgs, wipeR], by simp [evE, binR, intB]⟩
  obtain ⟨s, hs, t⟩ := trimmed_ok G (S := [(a.zip b).map fun q : Int × Int => Z.D.int (q.1 + q.2), (a.drop b.length).map Z.D.int, ((a.zip b).map (fun q => q.1 + q.2) ++ a.drop b.length).map Z.D.int]) (d := .lst 2) (r := (a.zip b).map (fun q => q.1 + q.2) ++ a.drop b.length) (.inr ⟨2, rfl, rfl⟩) (by simp; omega)
  rw [sum_em a b ca] at hs
  refine ⟨s, hs, ?_⟩
  obtain ⟨E, t⟩ := Rs_call_int t hn
  refine Ends.set (.lst 0) [(a.zip b).map fun q : Int × Int => Z.D.int (q.1 + q.2)] h0 ?_
  show Ends (run co pf n) co _ [some (.int p), some (dI a), some (dI b), some (.lst 0), o4, o5] _ _
  refine Ends.ret (dI s) ([(a.zip b).map fun q : Int × Int => Z.D.int (q.1 + q.2), (a.drop b.length).map Z.D.int, ((a.zip b).map (fun q => q.1 + q.2) ++ a.drop b.length).map Z.D.int] ++ E) ?_ rfl
  have sl : ∀ S, slR (dI a) (some (b.length : Int)) none S = .ok (.tup ((a.drop b.length).map Z.D.int)) S := fun S => by
    simp only [slR, dI]
    rw [cut_from, List.map_drop]
  have bl : ∀ S, biR .len [dI b] S = .ok (.int b.length) S := fun S => by simp [dI]
  have ad0 : binR .add (.lst 0) (.lst 1) [(a.zip b).map fun q : Int × Int => Z.D.int (q.1 + q.2), (a.drop b.length).map Z.D.int] = .ok (.lst 2) [(a.zip b).map fun q : Int × Int => Z.D.int (q.1 + q.2), (a.drop b.length).map Z.D.int, ((a.zip b).map (fun q => q.1 + q.2) ++ a.drop b.length).map Z.D.int] := by
    rw [binR_addL (xs := (a.zip b).map fun q : Int × Int => Z.D.int (q.1 + q.2)) (ys := (a.drop b.length).map Z.D.int) rfl rfl, newL_ok (by simp; omega), List.map_append, List.map_map]; rfl
  simp only [evE, evEs, evO, List.getElem?_cons_zero, List.getElem?_cons_succ, R.bind_ok, bl, sl, biR_lstT]
  rw [newL_ok (by simp; omega)]
  simp only [R.bind_ok, List.length_cons, List.length_nil, Nat.zero_add, List.cons_append, List.nil_append, ad0, t]
theorem added_polywork_ok (G : Gr p c iv) {a b : List Int} (ca : Red p (em a)) (cb : Red p (em b)) (ha : a.length ≤ 1000) (hb : b.length ≤ 1000) : ∃ s : List Int, em s = addR p (em a) (em b) ∧ Rc 2 "added_polywork" [.int p, dI a, dI b] (dI s) := by
  by_cases hl : a.length < b.length
  · obtain ⟨s, hs, _⟩ := added_tail G (Nat.le_refl 1) (a := b) (b := a) (o3 := none) (o4 := none) (o5 := none) cb (by omega) hb
    refine ⟨s, by rw [hs]; unfold addR; rw [if_pos (by rw [em_len, em_len]; exact hl)], Rt.by (fun n S => r_added_polywork n _ S) rfl (by simp [pures, D.pure]) (by simp) fun n hn => ?_⟩
    obtain ⟨s', hs', R⟩ := added_tail G hn (a := b) (b := a) (o3 := none) (o4 := none) (o5 := none) cb (by omega) hb
    obtain rfl : s' = s := em_inj (hs'.trans hs.symm)
    unfold b_added_polywork
    show Ends (run co pf n) co _ [some (.int p), some (dI a), some (dI b), none, none, none] _ _
    refine Ends.seq [some (.int p), some (dI b), some (dI a), none, none, none] [] ?_ R
    simp [evS, evT, evE, evEs, dI, cmpR, truthR, hl, evSs, setAll]
  · obtain ⟨s, hs, _⟩ := added_tail G (Nat.le_refl 1) (a := a) (b := b) (o3 := none) (o4 := none) (o5 := none) ca (by omega) ha
    refine ⟨s, by rw [hs]; unfold addR; rw [if_neg (by rw [em_len, em_len]; exact hl)], Rt.by (fun n S => r_added_polywork n _ S) rfl (by simp [pures, D.pure]) (by simp) fun n hn => ?_⟩
    obtain ⟨s', hs', R⟩ := added_tail G hn (a := a) (b := b) (o3 := none) (o4 := none) (o5 := none) ca (by omega) ha
    obtain rfl : s' = s := em_inj (hs'.trans hs.symm)
    unfold b_added_polywork
    show Ends (run co pf n) co _ [some (.int p), some (dI a), some (dI b), none, none, none] _ _
    refine Ends.seq [some (.int p), some (dI a), some (dI b), none, none, none] [] ?_ R
    simp [evS, evT, evE, evEs, dI, cmpR, truthR, hl, evSs]
theorem poly_plus_ok (G : Gr p c iv) {a b : List Int} (ca : Red p (em a)) (cb : Red p (em b)) (ha : a.length ≤ 1000) (hb : b.length ≤ 1000) : ∃ s : List Int, em s = addR p (em a) (em b) ∧ Rc 3 "poly_plus" [.int p, dI a, dI b] (dI s) := by
  obtain ⟨s, hs, h⟩ := added_polywork_ok G ca cb ha hb
  refine ⟨s, hs, Rt.by (fun n S => r_poly_plus n _ S) rfl (by simp [pures, D.pure]) (by simp) fun n hn => ?_⟩
  unfold b_poly_plus
  exact Ends.ret _ [] (by simp [evE, evEs, h.call hn]) rfl
theorem smI {x : Int} (h0 : 0 ≤ x) (h1 : x < p) (G : Gr p c iv) : Sm (x, 0) := ⟨by show -(2 ^ 64) < x; omega, by show x < 2 ^ 64; have := G.p2; omega, by simp, by simp⟩
theorem oneI (G : Gr p c iv) (ρ : Rho) (S : Sto) {m : Nat} (hm : m ≤ 2000) (h : ∀ S, evE (run co pf 0) co (.c (.int 0)) ρ S = .ok (.int 0) S) : True := trivial
/-- [0] * m -/
theorem ezI {Γ : Calls} {m : Nat} {e : E} (hm : m ≤ 2000) (ρ : Rho) (S : Sto) (h : ∀ S, evE Γ co e ρ S = .ok (.int m) S) : evE Γ co (.bin .mul (.lst (.cons (.c (.int 0)) .nil)) e) ρ S = .ok (.lst (S.length + 1)) (S ++ [[Z.D.int 0], List.replicate m (Z.D.int 0)]) := by
  simp only [evE, evEs, R.bind_ok]
  rw [newL_ok (by simp)]
  simp only [R.bind_ok, h]
  rw [binR_mulL (xs := [Z.D.int 0]) (by simp) (by omega) (by omega), rep_one, newL_ok (by simp; omega)]
  simp
theorem em_los {R : Row} (h : ∀ x ∈ R, x.2 = 0) : em (los R) = R := by
  simp only [em, los, List.map_map]
  conv => rhs; rw [← List.map_id R]
  exact List.map_congr_left fun x hx => Prod.ext rfl (h x hx).symm
theorem lm_pl (b : List Int) : ∀ (a : List Int) (i : Nat), (lm c (em a) (M.co (em b)) i).2 = 0
  | [], i => rfl
  | x :: a, i => by
    have ih := lm_pl b a
    show (lm c ((x, 0) :: em a) (M.co (em b)) i).2 = 0
    simp only [lm, sad, sml, ad, ml, co_em]
    cases i with
    | zero => simp [sX]
    | succ i => simp [sX, ih i]
theorem mul_em (a b : List Int) : ∃ s : List Int, em s = mulR p c (em a) (em b) := by
  refine ⟨los (mulR p c (em a) (em b)), em_los fun x hx => ?_⟩
  have h := trim_mem hx
  simp only [List.mem_map] at h
  obtain ⟨i, _, rfl⟩ := h
  simp [rd, lm_pl]
theorem em_set (F : List Int) (k : Nat) (v : Int) : em (F.set k v) = (em F).set k (v, 0) := by simp [em, List.map_set]
theorem take_snoc {α : Type} {l : List α} {i : Nat} {x : α} (h : l[i]? = some x) : l.take (i + 1) = l.take i ++ [x] := by
  rw [List.take_add_one, h]; rfl
theorem getq {a : List Int} {i : Nat} (h : i < a.length) : a[i]? = some (a.getD i 0) := by
  rw [List.getElem?_eq_getElem h, List.getD_eq_getElem?_getD, List.getElem?_eq_getElem h]; rfl
theorem ml_em (x y : Int) : ml c (x, 0) (y, 0) = (x * y, 0) := by simp [ml]
theorem multiplied_polywork_ok (G : Gr p c iv) {a b : List Int} (ca : Red p (em a)) (cb : Red p (em b)) (ha : a.length ≤ 1000) (hb : b.length ≤ 1000) : ∃ s : List Int, em s = mulR p c (em a) (em b) ∧ Rc 2 "multiplied_polywork" [.int p, dI a, dI b] (dI s) := by
  obtain ⟨s, hs⟩ := mul_em (p := p) (c := c) a b
  refine ⟨s, hs, Rt.by (fun n S => r_multiplied_polywork n _ S) rfl (by simp [pures, D.pure]) (by simp) fun n hn => ?_⟩
  unfold b_multiplied_polywork
  have e0 : ∀ (r : List Int) S, eqR (dI r) (.tup []) S = some (decide (r = [])) := fun r S => dI_nil S r
  by_cases hne : a = [] ∨ b = []
  · refine Ends.iteT [] ?_ ?_
    · rcases hne with rfl | rfl
      · simp [evT, evE, evEs, newT_ok, cmpR, e0, truthR]
      · simp [evT, evE, evEs, newT_ok, cmpR, e0, truthR]
    · refine Ends.ret (dI []) [] (by simp [evE, evEs, newT_ok, dI]) ?_
      have : em s = [] := by
        rw [hs]
        rcases hne with rfl | rfl
        · exact can_eq (mulR_can G.pp) can_nil mulR_co (PE.of_eq (by rw [co_nil]; rfl))
        · exact can_eq (mulR_can G.pp) can_nil mulR_co (PE.of_eq (by rw [em_nil, lm_nil]; exact co_nil))
      rw [em_eq_nil.mp this]
  · have ha0 : a ≠ [] := fun h => hne (.inl h)
    have hb0 : b ≠ [] := fun h => hne (.inr h)
    have la := List.length_pos_iff.mpr ha0
    have lb := List.length_pos_iff.mpr hb0
    refine Ends.iteF [] (by simp [evT, evE, evEs, newT_ok, cmpR, e0, truthR, ha0, hb0]) ?_
    generalize hm : a.length + b.length - 1 = m
    show Ends (run co pf n) co _ [some (.int p), some (dI a), some (dI b), none, none, none, none, none] _ _
    have z : List.replicate m (Z.D.int 0) = (List.replicate m (0 : Int)).map Z.D.int := by simp
    have e2 : ∀ S, evE (run co pf n) co (.bin .sub (.bin .add (.bi .len (.cons (.v 1) .nil)) (.bi .len (.cons (.v 2) .nil))) (.c (.int 1))) [some (.int p), some (dI a), some (dI b), none, none, none, none, none] S = .ok (.int (m : Int)) S := fun S => by
      have e2 : ∀ S, binR .add (.int a.length) (.int b.length) S = .ok (.int ((a.length : Int) + b.length)) S := fun S => rfl
      have e3 : ∀ S, binR .sub (.int ((a.length : Int) + b.length)) (.int 1) S = .ok (.int ((a.length : Int) + b.length - 1)) S := fun S => rfl
      simp only [evE, evEs, dI, List.getElem?_cons_zero, List.getElem?_cons_succ, R.bind_ok, biR_lenT, List.length_map, e2, e3]
      rw [show (m : Int) = (a.length : Int) + b.length - 1 by omega]
    have ez := ezI (Γ := run co pf n) (m := m) (by omega) [some (.int p), some (dI a), some (dI b), none, none, none, none, none] [] e2
    generalize hZ : List.replicate m (Z.D.int 0) = Z0 at ez z
    refine Ends.set (.lst 1) [[Z.D.int 0], Z0] ez ?_
    show Ends (run co pf n) co _ [some (.int p), some (dI a), some (dI b), some (.lst 1), none, none, none, none] _ _
    have V0 : M.co (em (List.replicate m 0)) = lm c (em (a.take 0)) (M.co (em b)) := by
      funext k
      rw [co_em, List.take_zero, em_nil]
      have : (List.replicate m (0 : Int)).getD k 0 = 0 := by
        rw [List.getD_eq_getElem?_getD, List.getElem?_replicate]; split <;> rfl
      rw [this]; rfl
    refine Ends.fo2 [] (fun q : Int × Nat => Z.D.tup [.int (q.2 : Int), .int q.1]) a.zipIdx [[Z.D.int 0], Z0] (by simp [evI, evE, dI, enum_ints])
      (fun pre ρ S => ∃ (F : List Int) (o4 o5 o6 o7 : Option Z.D), ρ = [some (.int p), some (dI a), some (dI b), some (.lst 1), o4, o5, o6, o7] ∧ S = [[Z.D.int 0], F.map Z.D.int] ∧ F.length = m ∧ M.co (em F) = lm c (em (a.take pre.length)) (M.co (em b)))
      ⟨_, none, none, none, none, rfl, by rw [← z], by simp, V0⟩ ?_ (fun _ _ _ => rfl) ?_
    · rintro pre ⟨x, i⟩ post ρ S hi ⟨F, o4, o5, o6, o7, rfl, rfl, h1, hV⟩
      obtain ⟨hi1, hi2, hx, hxa⟩ := mem_zipIdxI hi
      dsimp only at hi1 hi2 hx hxa
      refine ⟨rfl, [some (.int p), some (dI a), some (dI b), some (.lst 1), some (.int i), some (.int x), o6, o7], by simp [asg, asgs], ?_⟩
      have sx := em_red G ca hxa
      have sm := smI sx.1 sx.2 G
      have e4 : a.take (pre ++ [(x, i)]).length = a.take i ++ [x] := by
        rw [List.length_append, List.length_singleton, ← hi1, take_snoc (getq hi2), ← hx]
      have ht : ∀ S, evT (run co pf n) co (.val (.cmp .ne (.v 5) (.c (.int 0)))) [some (.int p), some (dI a), some (dI b), some (.lst 1), some (.int i), some (.int x), o6, o7] S = .ok (!decide (x = 0)) S := fun S => by
        simp only [evT, evE, List.getElem?_cons_zero, List.getElem?_cons_succ, R.bind_ok, cmpR, eqR_int, Option.map_some, optR_some, truthR]
      by_cases hx0 : x = 0
      · refine Nx.iteF _ (by rw [ht, hx0]; rfl) (Nx.nil ⟨F, _, _, o6, o7, rfl, rfl, h1, ?_⟩)
        rw [e4, em_append, show em [x] = [(x, 0)] from rfl, lm_snoc, hV, hi1]
        funext k
        rw [hx0]
        simp only [sad, sXn, sml, zr_ml]
        split <;> simp [ad]
      · refine Nx.iteFo [[Z.D.int 0], F.map Z.D.int] (by rw [ht]; simp [hx0]) [] (fun q : Int × Nat => Z.D.tup [.int (q.2 : Int), .int q.1]) b.zipIdx [[Z.D.int 0], F.map Z.D.int] (by simp [evI, evE, dI, enum_ints])
          (fun pre2 ρ S => ∃ (F : List Int) (o6 o7 : Option Z.D), ρ = [some (.int p), some (dI a), some (dI b), some (.lst 1), some (.int i), some (.int x), o6, o7] ∧ S = [[Z.D.int 0], F.map Z.D.int] ∧ F.length = m ∧ M.co (em F) = sad (lm c (em (a.take i)) (M.co (em b))) (sXn i (sml c (x, 0) (M.co (em (b.take pre2.length))))))
          ⟨F, o6, o7, rfl, rfl, h1, by rw [List.length_nil, List.take_zero, em_nil, part_nil, hi1]; exact hV⟩ ?_ (fun _ _ _ => rfl) ?_
        · rintro pre2 ⟨y, j⟩ post2 ρ S hj ⟨F, o6, o7, rfl, rfl, h1, hV⟩
          obtain ⟨hj1, hj2, hy, hyb⟩ := mem_zipIdxI hj
          dsimp only at hj1 hj2 hy hyb
          refine ⟨rfl, [some (.int p), some (dI a), some (dI b), some (.lst 1), some (.int i), some (.int x), some (.int j), some (.int y)], by simp [asg, asgs], ?_⟩
          have hk : i + j < m := by omega
          have ij : ∀ S, binR .add (.int (i : Int)) (.int (j : Int)) S = .ok (.int ((i + j : Nat) : Int)) S := fun S => by simp [binR, intB]
          have mx := mul1 sm y
          dsimp only at mx
          have he1 : ∀ S, binR .mul (.int x) (.int y) S = .ok (.int (x * y)) S := fun S => by simp [binR, intB, mx]
          refine Nx.seq _ [[Z.D.int 0], (F.set (i + j) (F.getD (i + j) 0 + x * y)).map Z.D.int] (augix_nat (n := 1) (j := i + j) (ls := F) (v := x * y) (by simp [evE]) (by simp [evE, ij]) (by simp [evE, he1]) rfl (by omega) rfl) (Nx.nil ⟨_, _, _, rfl, rfl, by simpa using h1, ?_⟩)
          have e4 : b.take (pre2 ++ [(y, j)]).length = b.take pre2.length ++ [y] := by
            rw [List.length_append, List.length_singleton, ← hj1, take_snoc (getq hj2), ← hy]
          rw [e4, em_append, show em [y] = [(y, 0)] from rfl, part_snoc, em_set, co_set (by rw [em_len]; omega), ← hV, ml_em]
          have e5 : (em (b.take pre2.length)).length = j := by rw [em_len]; simp; omega
          rw [e5]
          funext k
          split
          · rename_i h; subst h; rw [co_em]; simp [ad]
          · rfl
        · rintro ρ1 S1 ⟨F, o6, o7, rfl, rfl, h1, hV⟩
          refine Nx.nil ⟨F, _, _, o6, o7, rfl, rfl, h1, ?_⟩
          rw [e4, em_append, show em [x] = [(x, 0)] from rfl, lm_snoc]
          simp only [List.length_zipIdx, List.take_length] at hV
          have e5 : (em (a.take i)).length = i := by rw [em_len]; simp; omega
          rw [e5]
          exact hV
    · rintro ρ1 S1 ⟨F, o4, o5, o6, o7, rfl, rfl, h1, hV⟩
      simp only [List.length_zipIdx, List.take_length] at hV
      obtain ⟨s', hs', t⟩ := trimmed_ok G (S := [[Z.D.int 0], F.map Z.D.int]) (d := .lst 1) (r := F) (.inr ⟨1, rfl, rfl⟩) (by omega)
      rw [mulR_eq G.pp (a := em a) (b := em b) (c := c) (by rw [em_len, em_len, em_len]; omega) (PE.of_eq hV), ← hs] at hs'
      rw [em_inj hs'] at t
      obtain ⟨E, t⟩ := Rs_call_int t hn
      exact Ends.ret (dI s) ([[Z.D.int 0], F.map Z.D.int] ++ E) (by simp only [evE, evEs, List.getElem?_cons_zero, List.getElem?_cons_succ, R.bind_ok, t]) rfl
theorem poly_by_ok (G : Gr p c iv) {a b : List Int} (ca : Red p (em a)) (cb : Red p (em b)) (ha : a.length ≤ 1000) (hb : b.length ≤ 1000) : ∃ s : List Int, em s = mulR p c (em a) (em b) ∧ Rc 3 "poly_by" [.int p, dI a, dI b] (dI s) := by
  obtain ⟨s, hs, h⟩ := multiplied_polywork_ok G ca cb ha hb
  refine ⟨s, hs, Rt.by (fun n S => r_poly_by n _ S) rfl (by simp [pures, D.pure]) (by simp) fun n hn => ?_⟩
  unfold b_poly_by
  exact Ends.ret _ [] (by simp [evE, evEs, h.call hn]) rfl
end
end Z.K01
end
section
set_option Elab.async false
set_option linter.all false
set_option autoImplicit false
set_option maxRecDepth 100000
set_option maxHeartbeats 8000000
namespace Z.K01
open PySem Z M
section
variable {p c : Int} {iv : List Int}
theorem gi_one (G : Gr p c iv) : gi iv 1 = 1 := by
  have h := G.unit 1 (by omega) (by have := G.p1; omega)
  have h2 := G.ivr 1
  rw [show (1 : Int).toNat = 1 from rfl, Int.one_mul, Int.emod_eq_of_lt h2.1 h2.2] at h
  exact h
/-- the last number -/
theorem last_int {d : List Int} {m : Nat} (h : d.length = m + 1) (S : Sto) : ixR (dI d) (.int (-1)) S = .ok (.int (d.getD m 0)) S := by
  refine ixR_T ?_
  have := at_last_int (ms := d) (k := m + 1) (by omega) (by omega)
  rw [← h, List.take_length] at this
  rw [this, h]; rfl
theorem head_inverse_ok (G : Gr p c iv) {d : List Int} {m : Nat} (cd : Red p (em d)) (h : d.length = m + 1) : Rc 2 "head_inverse" [.int p, dI d] (.int (gi iv (d.getD m 0).toNat)) :=
  Rt.by (fun n S => r_head_inverse n _ S) rfl (by simp [pures, D.pure]) rfl fun n hn => by
    unfold b_head_inverse
    show Ends (run co pf n) co _ [some (.int p), some (dI d)] _ _
    have r := em_getD G cd m
    have ix := last_int h
    generalize d.getD m 0 = x at *
    have ht : evT (run co pf n) co (.val (.cmp .eq (.ix (.v 1) (.neg (.c (.int 1)))) (.c (.int 1)))) [some (.int p), some (dI d)] [] = .ok (decide (x = 1)) [] := by
      simp only [evT, evE, List.getElem?_cons_zero, List.getElem?_cons_succ, R.bind_ok, ix, cmpR, eqR_int, Option.map_some, optR_some, truthR]
    by_cases h1 : x = 1
    · refine Ends.iteT [] (by rw [ht, h1]; rfl) (Ends.ret (.int 1) [] (by simp [evE]) ?_)
      rw [h1, show (1 : Int).toNat = 1 from rfl, gi_one G]
    · have h2 := (G.inv x r.1 r.2).call (n := n) (by omega)
      refine Ends.iteF [] (by rw [ht]; simp [h1]) (Ends.ret (.int (gi iv x.toNat)) [] ?_ rfl)
      simp only [evE, evEs, List.getElem?_cons_zero, List.getElem?_cons_succ, R.bind_ok, ix, h2]
theorem parts_ends (G : Gr p c iv) {L d : List Int} (cL : Can p (em L)) (cd : Can p (em d)) (hL : L.length ≤ 1000) (hd : d.length ≤ 1000) (hd0 : d ≠ []) {n : Nat} (hn : 2 ≤ n) :
    Ends (run co pf n) co b_parts [some (.int p), some (dI L), some (dI d), none, none, none, none, none, none, none, none] [] fun x _ => ∃ q r : List Int, DivOk p c (em L) (em d) (em q) (em r) ∧ x = .tup [dI q, dI r] := by
  obtain ⟨m, hm⟩ : ∃ m, d.length = m + 1 := ⟨d.length - 1, by have := List.length_pos_iff.mpr hd0; omega⟩
  have hmE : (em d).length = m + 1 := by rw [em_len, hm]
  have dr := em_getD G cd.red m
  have cod : M.co (em d) m = (d.getD m 0, 0) := co_em d m
  have dz : d.getD m 0 ≠ 0 := fun e => cd.last (by
    rw [List.getLast?_eq_getElem?, List.getElem?_eq_getElem (by omega)]
    rw [e, co_lt (by omega)] at cod
    show some _ = some ((0 : Int), (0 : Int))
    rw [← cod]; congr 1; simp [hmE])
  have h1 := (head_inverse_ok G cd.red hm).call (n := n) hn
  have hu := G.unit (d.getD m 0) (by omega) dr.2
  have hiv := G.ivr (d.getD m 0).toNat
  generalize hbk : gi iv (d.getD m 0).toNat = v at h1 hu hiv
  have inv : Q p (ml c (M.co (em d) m) (v, 0)) (1, 0) := by
    rw [cod, ml_em]
    refine Q_int ?_
    rw [hu]; have := G.p1; exact (Int.emod_eq_of_lt (by omega) (by omega)).symm
  have smv := smI hiv.1 hiv.2 G
  unfold b_parts
  refine Ends.par [.int v, .int m] [] [some (.int p), some (dI L), some (dI d), some (.int v), some (.int m), none, none, none, none, none, none] ?_ (by simp [setAll]) ?_
  · have e2 : ∀ S, binR .sub (.int (d.length : Int)) (.int 1) S = .ok (.int (m : Int)) S := fun S => by
      show R.ok (Z.D.int ((d.length : Int) - 1)) S = _
      rw [show (d.length : Int) - 1 = (m : Int) by omega]
    have bl : ∀ S, biR .len [dI d] S = .ok (.int d.length) S := fun S => by simp [dI]
    simp only [evE, evEs, List.getElem?_cons_zero, List.getElem?_cons_succ, R.bind_ok, h1, bl, e2]
  refine Ends.par [.lst 0, .lst 1] [L.map Z.D.int, []] [some (.int p), some (dI L), some (dI d), some (.int v), some (.int m), some (.lst 0), some (.lst 1), none, none, none, none] ?_ (by simp [setAll]) ?_
  · simp only [evE, evEs, List.getElem?_cons_zero, List.getElem?_cons_succ, R.bind_ok, dI, biR_lstT]
    rw [newL_ok (by simp; omega)]
    simp only [R.bind_ok]
    rw [newL_ok (by simp)]
    rfl
  generalize hlo : (L.length : Int) - d.length = lo
  have hN : L.length ≤ (lo + 1).toNat + m := by omega
  generalize hNN : (lo + 1).toNat = N at hN
  have hb : bndOk lo := ⟨by omega, by omega⟩
  refine Ends.fo2 [] (fun i : Nat => Z.D.int (lo - i)) (List.range N) [L.map Z.D.int, []] ?_
    (fun pre ρ S => ∃ (qs rest : List Int) (o7 o8 o9 o10 : Option Z.D), ρ = [some (.int p), some (dI L), some (dI d), some (.int v), some (.int m), some (.lst 0), some (.lst 1), o7, o8, o9, o10] ∧ S = [rest.map Z.D.int, qs.map Z.D.int] ∧ rest.length = L.length ∧ Red p (em qs) ∧ qs.length = pre.length ∧ Dinv p c (em L) (em d) m (N - pre.length) (em qs) (em rest))
    ⟨[], L, none, none, none, none, rfl, rfl, rfl, (fun _ h => nomatch h), rfl, Dinv.start2 (by rw [em_len]; exact hN)⟩ ?_ (fun _ _ _ => rfl) ?_
  · rw [← hNN]
    refine gaps lo ?_ hb
    rw [← hlo]
    simp [evE, evEs, dI, binR, intB]
  · rintro pre k post ρ S hk ⟨qs, rest, o7, o8, o9, o10, rfl, rfl, hrl, rq, hql, DV⟩
    obtain ⟨hk1, hk2⟩ := mem_range_split hk
    obtain ⟨g, hg1⟩ : ∃ g : Nat, N = g + 1 + k := ⟨N - 1 - k, by omega⟩
    have hgk : lo - (k : Int) = (g : Int) := by omega
    have hLN : L.length = N + m := by omega
    rw [hgk]
    refine ⟨rfl, [some (.int p), some (dI L), some (dI d), some (.int v), some (.int m), some (.lst 0), some (.lst 1), some (.int g), o8, o9, o10], by simp [asg], ?_⟩
    have hD : N - pre.length = g + 1 := by omega
    rw [hD] at DV
    generalize hh : rest.getD (g + m) 0 * v % p = head
    have hh0 : 0 ≤ head ∧ head < p := by rw [← hh]; exact ⟨Int.emod_nonneg _ (by have := G.p1; omega), Int.emod_lt_of_pos _ G.pp⟩
    have hhr : rd p (head, 0) = (head, 0) := by
      simp only [rd]
      rw [Int.emod_eq_of_lt hh0.1 hh0.2]; simp
    have hq : Q p (ml c (head, 0) (M.co (em d) m)) (M.co (em rest) (g + m)) := by
      have e1 : Q p (head, 0) (ml c (M.co (em rest) (g + m)) (v, 0)) := by
        rw [co_em, ml_em, ← hh]
        exact Q_int (Int.emod_emod_of_dvd _ (Int.dvd_refl p))
      have a1 := e1.ml (c := c) (Q.refl (x := M.co (em d) m))
      rw [ml_assoc, ml_comm (x := (v, 0))] at a1
      have a2 := (Q.refl (x := M.co (em rest) (g + m)) (p := p)).ml (c := c) inv
      rw [ml_one] at a2
      exact a1.trans a2
    have gm : ∀ S, binR .add (.int (g : Int)) (.int (m : Int)) S = .ok (.int ((g + m : Nat) : Int)) S := fun S => by simp [binR, intB]
    have il : ixR (.lst 0) (.int ((g + m : Nat) : Int)) [rest.map Z.D.int, qs.map Z.D.int] = .ok (.int (rest.getD (g + m) 0)) [rest.map Z.D.int, qs.map Z.D.int] := ix_nat rfl (int_get (by omega))
    have mx := mul3 smv (rest.getD (g + m) 0)
    dsimp only at mx
    have b1 : ∀ S, binR .mul (.int (rest.getD (g + m) 0)) (.int v) S = .ok (.int (rest.getD (g + m) 0 * v)) S := fun S => by
      simp only [binR, intB]
      rw [if_pos mx]
    have b2 : ∀ S, binR .mod (.int (rest.getD (g + m) 0 * v)) (.int p) S = .ok (.int head) S := fun S => by
      simp only [binR, intB]
      rw [if_pos G.pp, hh]
    refine Nx.set (.int head) [rest.map Z.D.int, qs.map Z.D.int] ?_ ?_
    · simp only [evE, List.getElem?_cons_zero, List.getElem?_cons_succ, R.bind_ok, gm, il, b1, b2]
    refine Nx.ex .non [rest.map Z.D.int, (qs ++ [head]).map Z.D.int] ?_ ?_
    · have hs : qs.length < sizeLine := Nat.lt_of_lt_of_le (show qs.length < 100000 by omega) (by decide)
      simp [evE, evEs, mtR, hs]
    show Nx (run co pf n) co _ [some (.int p), some (dI L), some (dI d), some (.int v), some (.int m), some (.lst 0), some (.lst 1), some (.int g), some (.int head), o9, o10] _ _
    have tst : ∀ S, evT (run co pf n) co (.val (.cmp .ne (.v 8) (.c (.int 0)))) [some (.int p), some (dI L), some (dI d), some (.int v), some (.int m), some (.lst 0), some (.lst 1), some (.int g), some (.int head), o9, o10] S = .ok (!decide (head = 0)) S := fun S => by
      simp only [evT, evE, List.getElem?_cons_zero, List.getElem?_cons_succ, R.bind_ok, cmpR, eqR_int, Option.map_some, optR_some, truthR]
    have sh := smI hh0.1 hh0.2 G
    have eq1 : em (qs ++ [head]) = em qs ++ [(head, 0)] := by rw [em_append]; rfl
    by_cases hx : head = 0
    · refine Nx.iteF _ (by rw [tst, hx]; rfl) (Nx.nil ⟨qs ++ [head], rest, _, _, o9, o10, rfl, rfl, hrl, by rw [eq1]; exact red_snoc rq hhr, by simp [hql], ?_⟩)
      rw [show N - (pre ++ [k]).length = g by simp; omega, eq1]
      refine DV.step hmE hq (PE.of_eq ?_)
      funext i
      rw [hx]
      simp only [ssb, sXn, sml, zr_ml]
      split <;> simp [sb]
    · refine Nx.iteFo [rest.map Z.D.int, (qs ++ [head]).map Z.D.int] (by rw [tst]; simp [hx]) [] (fun q : Int × Nat => Z.D.tup [.int (q.2 : Int), .int q.1]) d.zipIdx [rest.map Z.D.int, (qs ++ [head]).map Z.D.int] (by simp [evI, evE, dI, enum_ints])
        (fun pre2 ρ S => ∃ (rs : List Int) (o9 o10 : Option Z.D), ρ = [some (.int p), some (dI L), some (dI d), some (.int v), some (.int m), some (.lst 0), some (.lst 1), some (.int g), some (.int head), o9, o10] ∧ S = [rs.map Z.D.int, (qs ++ [head]).map Z.D.int] ∧ rs.length = L.length ∧
          M.co (em rs) = (ssb (M.co (em rest)) (sXn g (sml c (head, 0) (M.co (em (d.take pre2.length)))))))
        ⟨rest, o9, o10, rfl, rfl, hrl, by rw [List.length_nil, List.take_zero, em_nil, sub_nil]⟩ ?_ (fun _ _ _ => rfl) ?_
      · rintro pre2 ⟨y, j⟩ post2 ρ S hj ⟨rs, o9, o10, rfl, rfl, hrs, hco⟩
        obtain ⟨hj1, hj2, hy, hyb⟩ := mem_zipIdxI hj
        dsimp only at hj1 hj2 hy hyb
        refine ⟨rfl, [some (.int p), some (dI L), some (dI d), some (.int v), some (.int m), some (.lst 0), some (.lst 1), some (.int g), some (.int head), some (.int j), some (.int y)], by simp [asg, asgs], ?_⟩
        have hk : g + j < rs.length := by omega
        have gj : ∀ S, binR .add (.int (g : Int)) (.int (j : Int)) S = .ok (.int ((g + j : Nat) : Int)) S := fun S => by simp [binR, intB]
        have mx := mul1 sh y
        dsimp only at mx
        have he1 : ∀ S, binR .mul (.int head) (.int y) S = .ok (.int (head * y)) S := fun S => by
          simp only [binR, intB]
          rw [if_pos mx]
        refine Nx.seq _ [(rs.set (g + j) (rs.getD (g + j) 0 - head * y)).map Z.D.int, (qs ++ [head]).map Z.D.int] (augix_nat (n := 0) (j := g + j) (ls := rs) (v := head * y) (by simp [evE]) (by simp [evE, gj]) (by simp [evE, he1]) rfl (by omega) rfl) (Nx.nil ⟨_, _, _, rfl, rfl, by simpa using hrs, ?_⟩)
        have e4 : d.take (pre2 ++ [(y, j)]).length = d.take pre2.length ++ [y] := by
          rw [List.length_append, List.length_singleton, ← hj1, take_snoc (getq hj2), ← hy]
        rw [e4, em_append, show em [y] = [(y, 0)] from rfl, sub_snoc, em_set, co_set (by rw [em_len]; omega), ← hco, ml_em]
        have e5 : (em (d.take pre2.length)).length = j := by rw [em_len]; simp; omega
        rw [e5]
        funext i
        split
        · rename_i h; subst h; rw [co_em]; simp [sb]
        · rfl
      · rintro ρ1 S1 ⟨rs, o9, o10, rfl, rfl, hrs, hco⟩
        simp only [List.length_zipIdx, List.take_length] at hco
        refine Nx.nil ⟨qs ++ [head], rs, _, _, o9, o10, rfl, rfl, hrs, by rw [eq1]; exact red_snoc rq hhr, by simp [hql], ?_⟩
        rw [show N - (pre ++ [k]).length = g by simp; omega, eq1]
        exact DV.step hmE hq (PE.of_eq hco)
  · rintro ρ1 S1 ⟨qs, rest, o7, o8, o9, o10, rfl, rfl, hrl, rq, hql, DV⟩
    simp only [List.length_range, Nat.sub_self] at DV hql
    have hq2 : qs.length ≤ 1000 := by omega
    obtain ⟨q, hq, t1⟩ := trimmed_ok G (S := [rest.map Z.D.int, qs.map Z.D.int, qs.reverse.map Z.D.int]) (d := .lst 2) (r := qs.reverse) (.inr ⟨2, rfl, rfl⟩) (by simp; omega)
    obtain ⟨E1, t1⟩ := Rs_call_int t1 (n := n) (by omega)
    obtain ⟨r, hr, t2⟩ := trimmed_ok G (S := [rest.map Z.D.int, qs.map Z.D.int, qs.reverse.map Z.D.int] ++ E1 ++ [(rest.take m).map Z.D.int]) (d := .lst ([rest.map Z.D.int, qs.map Z.D.int, qs.reverse.map Z.D.int] ++ E1).length) (r := rest.take m) (.inr ⟨_, rfl, at_end⟩) (by simp; omega)
    obtain ⟨E2, t2⟩ := Rs_call_int t2 (n := n) (by omega)
    refine Ends.ret (.tup [dI q, dI r]) ([rest.map Z.D.int, qs.map Z.D.int, qs.reverse.map Z.D.int] ++ E1 ++ [(rest.take m).map Z.D.int] ++ E2) ?_ ⟨q, r, ?_, rfl⟩
    · have rv : revR (.lst 1) [rest.map Z.D.int, qs.map Z.D.int] = .ok (.lst 2) [rest.map Z.D.int, qs.map Z.D.int, qs.reverse.map Z.D.int] := by
        simp only [revR, List.getElem?_cons_zero, List.getElem?_cons_succ]
        rw [newL_ok (by simp; omega), List.map_reverse]; rfl
      have sl : slR (.lst 0) none (some (m : Int)) ([rest.map Z.D.int, qs.map Z.D.int, qs.reverse.map Z.D.int] ++ E1) = .ok (.lst ([rest.map Z.D.int, qs.map Z.D.int, qs.reverse.map Z.D.int] ++ E1).length) ([rest.map Z.D.int, qs.map Z.D.int, qs.reverse.map Z.D.int] ++ E1 ++ [(rest.take m).map Z.D.int]) := by
        by_cases hml : m ≤ rest.length
        · simp only [slR, List.cons_append, List.getElem?_cons_zero]
          rw [cut_to (by simpa using hml), newL_ok (by simp; omega), List.map_take]
          rfl
        · have e : (rest.take m) = rest := List.take_of_length_le (by omega)
          have ec : cut (rest.map Z.D.int) none (some (m : Int)) = rest.map Z.D.int := by
            unfold cut
            rw [HT.sIx_none, HT.sIx_nat, Nat.min_eq_right (by simp; omega), Nat.sub_zero, List.drop_zero, List.take_length]
          simp only [slR, List.cons_append, List.getElem?_cons_zero, ec, e]
          rw [newL_ok (by simp; omega)]
          rfl
      simp only [evE, evEs, evO, List.getElem?_cons_zero, List.getElem?_cons_succ, R.bind_ok, rv, t1, sl, t2]
      exact newT_ok (by simp)
    · rw [hq, hr]
      refine DV.done hmE (can_trim (red_map G _)) ?_ (can_trim (red_map G _)) ?_ fun i hi => ?_
      · rw [trim_co, em_rev]; exact co_map_rd _
      · exact Nat.le_trans (trim_len _) (by simp [em_len]; omega)
      · rw [trim_co]
        refine (co_map_rd _ i).trans (Q.of_eq ?_)
        rw [em_take]
        by_cases hi2 : i < (em rest).length
        · rw [co_lt (by simp; omega), co_lt hi2]; simp
        · rw [co_ge (by simp; omega), co_ge (by omega)]
theorem parts_ok (G : Gr p c iv) {L d : List Int} (cL : Can p (em L)) (cd : Can p (em d)) (hL : L.length ≤ 1000) (hd : d.length ≤ 1000) (hd0 : d ≠ []) :
    ∃ q r : List Int, em q = qut p c (em L) (em d) ∧ em r = rst p c (em L) (em d) ∧ DivOk p c (em L) (em d) (em q) (em r) ∧ Rc 3 "parts" [.int p, dI L, dI d] (.tup [dI q, dI r]) := by
  have hE0 : em d ≠ [] := fun h => hd0 (em_eq_nil.mp h)
  obtain ⟨k, v, H⟩ := hd_of G cd hE0
  obtain ⟨x, S1, _, q, r, D1, rfl⟩ := parts_ends G cL cd hL hd hd0 (Nat.le_refl 2)
  have e := qr_eq H D1
  refine ⟨q, r, e.1.symm, e.2.symm, D1, Rt.by (fun n S => r_parts n _ S) rfl (by simp [pures, D.pure]) (by simp [pures, D.pure]) fun n hn => ?_⟩
  obtain ⟨x2, S2, e2, q2, r2, D2, rfl⟩ := parts_ends G cL cd hL hd hd0 hn
  have e3 := div_unique H D1 D2
  obtain rfl := em_inj e3.1
  obtain rfl := em_inj e3.2
  exact ⟨_, S2, e2, rfl⟩
end
end Z.K01
end
section
set_option Elab.async false
set_option linter.all false
set_option autoImplicit false
set_option maxRecDepth 100000
set_option maxHeartbeats 8000000
namespace Z.K01
open PySem Z M
section
variable {p c : Int} {iv : List Int}
theorem rest_of_ok (G : Gr p c iv) {L d : List Int} (cL : Can p (em L)) (cd : Can p (em d)) (hL : L.length ≤ 1000) (hd : d.length ≤ 1000) (hd0 : d ≠ []) :
    ∃ r : List Int, em r = rst p c (em L) (em d) ∧ Can p (em r) ∧ r.length < d.length ∧ Rc 4 "rest_of" [.int p, dI L, dI d] (dI r) := by
  obtain ⟨q, r, hq, hr, D1, h⟩ := parts_ok G cL cd hL hd hd0
  have lr : r.length < d.length := by have := D1.len; rwa [em_len, em_len] at this
  refine ⟨r, hr, D1.cr, lr, Rt.by (fun n S => r_rest_of n _ S) rfl (by simp [pures, D.pure]) (by simp) fun n hn => ?_⟩
  unfold b_rest_of
  show Ends (run co pf n) co _ [some (.int p), some (dI L), some (dI d)] _ _
  have ht : evT (run co pf n) co (.val (.cmp .lt (.bi .len (.cons (.v 1) .nil)) (.bi .len (.cons (.v 2) .nil)))) [some (.int p), some (dI L), some (dI d)] [] = .ok (decide ((L.length : Int) < d.length)) [] := by
    simp [evT, evE, evEs, dI, cmpR, truthR]
  by_cases hl : L.length < d.length
  · refine Ends.iteT [] (by rw [ht]; simp [hl]) (Ends.ret (dI L) [] (by simp [evE]) ?_)
    have hE0 : em d ≠ [] := fun h => hd0 (em_eq_nil.mp h)
    have e := (qr_of G cd hE0 (div_small (c := c) cL (by rw [em_len, em_len]; exact hl))).2
    rw [em_inj (hr.trans e)]
  · refine Ends.iteF [] (by rw [ht]; simp; omega) ?_
    exact Ends.ret (dI r) [] (by simp [evE, evEs, h.call (n := n) (by omega), ix_one]) rfl
theorem poly_parts_ok (G : Gr p c iv) {L d : List Int} (cL : Can p (em L)) (cd : Can p (em d)) (hL : L.length ≤ 1000) (hd : d.length ≤ 1000) (hd0 : d ≠ []) :
    ∃ q r : List Int, em q = qut p c (em L) (em d) ∧ em r = rst p c (em L) (em d) ∧ Rc 4 "poly_parts" [.int p, dI L, dI d] (.tup [dI q, dI r]) := by
  obtain ⟨q, r, hq, hr, D1, h⟩ := parts_ok G cL cd hL hd hd0
  refine ⟨q, r, hq, hr, Rt.by (fun n S => r_poly_parts n _ S) rfl (by simp [pures, D.pure]) (by simp [pures, D.pure]) fun n hn => ?_⟩
  unfold b_poly_parts
  exact Ends.ret _ [] (by simp [evE, evEs, h.call hn]) rfl
theorem often_polywork_ok (G : Gr p c iv) {a : List Int} {v : Int} (hv : 0 ≤ v ∧ v < p) (ha : a.length ≤ 1000) : ∃ s : List Int, em s = trim (oftR p c (v, 0) (em a)) ∧ Rc 2 "often_polywork" [.int p, dI a, .int v] (dI s) := by
  have sm := smI hv.1 hv.2 G
  obtain ⟨s, hs, t⟩ := trimmed_ok G (S := [(a.map fun x => v * x).map Z.D.int]) (d := .lst 0) (r := a.map fun x => v * x) (.inr ⟨0, rfl, rfl⟩) (by simp; omega)
  have e1 : (em (a.map fun x => v * x)).map (rd p) = oftR p c (v, 0) (em a) := by
    simp only [em, oftR, List.map_map]
    refine List.map_congr_left fun x _ => ?_
    simp [rd, ml, Int.mul_comm]
  rw [e1] at hs
  refine ⟨s, hs, Rt.by (fun n S => r_often_polywork n _ S) rfl (by simp [pures, D.pure]) (by simp) fun n hn => ?_⟩
  obtain ⟨E, t⟩ := Rs_call_int t hn
  unfold b_often_polywork
  show Ends (run co pf n) co _ [some (.int p), some (dI a), some (.int v), none] _ _
  have h0 := evE_lc (Γ := run co pf n) (Co := co) (ρ := [some (.int p), some (dI a), some (.int v), none]) (S := []) (S1 := []) (gd := []) (elt := .bin .mul (.v 2) (.v 3)) (tg := .nm 3) (it := .e (.v 1)) (own := [3]) Z.D.int (fun x => Z.D.int (v * x)) a (by simp [evI, evE, dI]) rfl (by omega) fun x _ => by
    have mx := mul1 sm x
    dsimp only at mx
    refine ⟨[some (.int p), some (dI a), some (.int v), some (.int x)], by simp [asg, wipeR], by simp [evE, binR, intB, mx]⟩
  have e2 : a.map (fun x => Z.D.int (v * x)) = (a.map fun x => v * x).map Z.D.int := by rw [List.map_map]; rfl
  rw [e2] at h0
  refine Ends.ret (dI s) ([(a.map fun x => v * x).map Z.D.int] ++ E) ?_ rfl
  have hv0 : evE (run co pf n) co (.v 0) [some (.int p), some (dI a), some (.int v), none] [] = .ok (.int p) [] := by simp [evE]
  rw [evE]
  simp only [evEs]
  rw [hv0]
  simp only [R.bind_ok]
  rw [h0]
  simp only [evE, List.getElem?_cons_zero, List.getElem?_cons_succ, R.bind_ok, List.length_nil, List.nil_append, t]
theorem made_monic_ok (G : Gr p c iv) {a : List Int} (ca : Can p (em a)) (ha : a.length ≤ 1000) : ∃ s : List Int, em s = monR p c iv (em a) ∧ Rc 3 "made_monic" [.int p, dI a] (dI s) := by
  have eN : ∀ S, eqR (dI a) (.tup []) S = some (decide (a = [])) := fun S => dI_nil S a
  by_cases h0 : a = []
  · subst h0
    refine ⟨[], rfl, Rt.by (fun n S => r_made_monic n _ S) rfl (by simp [pures, D.pure]) (by simp) fun n hn => ?_⟩
    unfold b_made_monic
    show Ends (run co pf n) co _ [some (.int p), some (dI []), ] _ _
    exact Ends.iteT [] (by simp [evT, evE, evEs, newT_ok, cmpR, eN, truthR]) (Ends.ret (dI []) [] (by simp [evE]) rfl)
  · obtain ⟨m, hm⟩ : ∃ m, a.length = m + 1 := ⟨a.length - 1, by have := List.length_pos_iff.mpr h0; omega⟩
    have ix := last_int hm
    have hv := em_getD G ca.red m
    have cod : M.co (em a) ((em a).length - 1) = (a.getD m 0, 0) := by rw [em_len, hm]; exact co_em a m
    have tst : ∀ n, evT (run co pf n) co (.or (.val (.cmp .eq (.v 1) (.tup .nil))) (.val (.cmp .eq (.ix (.v 1) (.neg (.c (.int 1)))) (.c (.int 1))))) [some (.int p), some (dI a)] [] = .ok (decide (a.getD m 0 = 1)) [] := fun n => by
      simp only [evT, evE, evEs, List.getElem?_cons_zero, List.getElem?_cons_succ, R.bind_ok]
      rw [newT_ok (by simp)]
      simp only [R.bind_ok, cmpR, eN, Option.map_some, optR_some, h0, decide_false, truthR, Bool.false_eq_true, if_false, ix, eqR_int]
    have xz : a.getD m 0 ≠ 0 := fun e => ca.last (by
      rw [List.getLast?_eq_getElem?, List.getElem?_eq_getElem (by rw [em_len]; omega)]
      rw [e, co_lt (by rw [em_len]; omega)] at cod
      exact congrArg some cod)
    have xr : rd p (a.getD m 0, 0) = (a.getD m 0, 0) := by have := rd_co G.pp ca.red m; rwa [co_em] at this
    generalize a.getD m 0 = x at *
    by_cases h1 : x = 1
    · refine ⟨a, (monR_one G ca.red (by rw [cod, h1])).symm, Rt.by (fun n S => r_made_monic n _ S) rfl (by simp [pures, D.pure]) (by simp) fun n hn => ?_⟩
      unfold b_made_monic
      show Ends (run co pf n) co _ [some (.int p), some (dI a)] _ _
      exact Ends.iteT [] (by rw [tst, h1]; rfl) (Ends.ret (dI a) [] (by simp [evE]) rfl)
    · obtain ⟨s, hs, t⟩ := often_polywork_ok G (v := gi iv x.toNat) (G.ivr _) ha
      have hbk : Q p (bk p c iv (x, 0)) (gi iv x.toNat, 0) := by
        have i1 := bk_inv G xr (fun e => xz (congrArg Prod.fst e))
        have i2 : Q p (ml c (x, 0) (gi iv x.toNat, 0)) (1, 0) := by
          rw [ml_em]
          refine Q_int ?_
          rw [G.unit x (by omega) hv.2]; have := G.p1; exact (Int.emod_eq_of_lt (by omega) (by omega)).symm
        have a1 := (Q.refl (x := bk p c iv (x, 0)) (p := p)).ml (c := c) i2
        rw [ml_one, ← ml_assoc, ml_comm (x := bk p c iv (x, 0))] at a1
        have a2 := i1.ml (c := c) (Q.refl (x := (gi iv x.toNat, 0)))
        rw [one_ml] at a2
        exact a1.symm.trans a2
      have e1 : oftR p c (gi iv x.toNat, 0) (em a) = monR p c iv (em a) := by
        unfold monR oftR
        rw [cod]
        exact List.map_congr_left fun y _ => ((Q.refl (x := y)).ml hbk.symm).rd_eq
      refine ⟨s, by rw [hs, e1, can_trim_eq (monR_can G ca)], Rt.by (fun n S => r_made_monic n _ S) rfl (by simp [pures, D.pure]) (by simp) fun n hn => ?_⟩
      unfold b_made_monic
      show Ends (run co pf n) co _ [some (.int p), some (dI a)] _ _
      have h2 := (G.inv x hv.1 hv.2).call (n := n) (by omega)
      refine Ends.iteF [] (by rw [tst]; simp [h1]) (Ends.ret (dI s) [] ?_ rfl)
      simp only [evE, evEs, List.getElem?_cons_zero, List.getElem?_cons_succ, R.bind_ok, ix, h2, t.call hn]
theorem greatest_ok (G : Gr p c iv) {a b : List Int} (ca : Can p (em a)) (cb : Can p (em b)) (ha : a.length ≤ 1000) (hb : b.length ≤ 80) :
    ∃ s : List Int, em s = monR p c iv (gcdN p c 80 (em a) (em b)) ∧ Rc 5 "greatest" [.int p, dI a, dI b] (dI s) := by
  have key : ∀ n, 4 ≤ n → Ends (run co pf n) co b_greatest [some (.int p), some (dI a), some (dI b)] [] fun x _ => ∃ s : List Int, x = dI s ∧ em s = monR p c iv (gcdN p c 80 (em a) (em b)) := fun n hn => by
    unfold b_greatest
    refine Ends.wh (fun k ρ S => ∃ l r : List Int, S = [] ∧ ρ = [some (.int p), some (dI l), some (dI r)] ∧ Can p (em l) ∧ Can p (em r) ∧ l.length ≤ 1000 ∧ r.length ≤ k ∧ k ≤ 80 ∧ gcdN p c 80 (em a) (em b) = gcdN p c k (em l) (em r)) 80
      (fun ρ S => ∃ l : List Int, S = [] ∧ ρ = [some (.int p), some (dI l), some (dI [])] ∧ Can p (em l) ∧ l.length ≤ 1000 ∧ gcdN p c 80 (em a) (em b) = (em l)) (by decide) ⟨a, b, rfl, rfl, ca, cb, ha, hb, by omega, rfl⟩ ?_ ?_
    · rintro k ρ S ⟨l, r, rfl, rfl, cl, cr, hl, hr, hk, e⟩
      have ht : evT (run co pf n) co (.val (.cmp .ne (.v 2) (.tup .nil))) [some (.int p), some (dI l), some (dI r)] [] = .ok (!decide (r = [])) [] := by
        simp only [evT, evE, evEs, List.getElem?_cons_zero, List.getElem?_cons_succ, R.bind_ok]
        rw [newT_ok (by simp)]
        simp only [R.bind_ok, cmpR, dI_nil, Option.map_some, optR_some, truthR]
      by_cases h0 : r = []
      · left
        subst h0
        exact ⟨[], by rw [ht]; rfl, l, rfl, rfl, cl, hl, by rw [e, em_nil, gcdN_nil]⟩
      · right
        have hlen := List.length_pos_iff.mpr h0
        obtain ⟨r2, hr2, cr2, lr2, h1⟩ := rest_of_ok G cl cr hl (by omega) h0
        have h1 := h1.call (n := n) (by omega)
        obtain ⟨k', rfl⟩ : ∃ k', k = k' + 1 := ⟨k - 1, by omega⟩
        refine ⟨[], [some (.int p), some (dI r), some (dI r2)], [], k', by rw [ht]; simp [h0], .inl ?_, by omega, r, r2, rfl, rfl, cr, cr2, by omega, by omega, by omega, by rw [e, gcdN_step (fun h => h0 (em_eq_nil.mp h)), hr2]⟩
        simp [evSs, evS, evE, evEs, h1, setAll]
    · rintro ρ1 S1 ⟨l, rfl, rfl, cl, hl, e⟩
      obtain ⟨s, hs, h1⟩ := made_monic_ok G cl hl
      exact Ends.ret (dI s) [] (by simp [evE, evEs, h1.call (n := n) (by omega)]) ⟨s, rfl, by rw [hs, e]⟩
  obtain ⟨x, S1, _, s, _, hs⟩ := key 4 (Nat.le_refl 4)
  refine ⟨s, hs, Rt.by (fun n S => r_greatest n _ S) rfl (by simp [pures, D.pure]) (by simp) fun n hn => ?_⟩
  obtain ⟨x2, S2, e2, s2, rfl, hs2⟩ := key n hn
  rw [em_inj (hs2.trans hs.symm)] at e2
  exact ⟨_, S2, e2, rfl⟩
theorem common_ok (G : Gr p c iv) {a b : List Int} (ca : Can p (em a)) (cb : Can p (em b)) (ha : a.length ≤ 1000) (hb : b.length ≤ 80) :
    ∃ s : List Int, em s = monR p c iv (gcdN p c 80 (em a) (em b)) ∧ Rc 6 "common" [.int p, dI a, dI b] (dI s) := by
  obtain ⟨s, hs, h⟩ := greatest_ok G ca cb ha hb
  refine ⟨s, hs, Rt.by (fun n S => r_common n _ S) rfl (by simp [pures, D.pure]) (by simp) fun n hn => ?_⟩
  unfold b_common
  exact Ends.ret _ [] (by simp [evE, evEs, h.call hn]) rfl
/-- the value at a number -/
theorem poly_at_ok (G : Gr p c iv) {a : List Int} {v : Int} (ha : a.length ≤ 1000) : ∃ w : Int, wv p c (v, 0) (em a).reverse = (w, 0) ∧ Rc 2 "poly_at" [.int p, dI a, .int v] (.int w) := by
  have em1 : ∀ l : List Int, ∃ w : Int, wv p c (v, 0) (em l) = (w, 0) := by
    have gen : ∀ (l : List Int) (u : Int), ∃ w : Int, (em l).foldl (fun acc e => rd p (ad (rd p (ml c acc (v, 0))) e)) (u, 0) = (w, 0) := by
      intro l
      induction l with
      | nil => exact fun u => ⟨u, rfl⟩
      | cons e l ih =>
        intro u
        obtain ⟨w, h⟩ := ih (((u * v) % p + e) % p)
        refine ⟨w, ?_⟩
        rw [← h]
        show ((e, 0) :: em l).foldl _ _ = _
        rw [List.foldl_cons]
        congr 1
        simp [rd, ad, ml]
    exact fun l => gen l 0
  have key : ∀ n, ∃ w : Int, wv p c (v, 0) (em a).reverse = (w, 0) ∧ Ends (run co pf n) co b_worth [some (.int p), some (dI a), some (.int v), none, none] [] fun x _ => x = .int w := fun n => by
    obtain ⟨w, hw⟩ := em1 a.reverse
    rw [em_rev] at hw
    refine ⟨w, hw, ?_⟩
    unfold b_worth
    refine Ends.set (.int 0) [] (by simp [evE]) ?_
    show Ends (run co pf n) co _ [some (.int p), some (dI a), some (.int v), some (.int 0), none] _ _
    refine Ends.fo2 [] Z.D.int a.reverse [] (by simp [evI, evE, dI, List.map_reverse]) (fun pre ρ S => ∃ (u : Int) (o4 : Option Z.D), S = [] ∧ ρ = [some (.int p), some (dI a), some (.int v), some (.int u), o4] ∧ wv p c (v, 0) (em pre) = (u, 0)) ⟨0, none, rfl, rfl, rfl⟩ ?_ (fun _ _ _ => rfl) ?_
    · rintro pre e post ρ S _ ⟨u, o4, rfl, rfl, hu⟩
      refine ⟨rfl, [some (.int p), some (dI a), some (.int v), some (.int u), some (.int e)], by simp [asg], ?_⟩
      have hr := wv_rd G (v, 0) (em pre)
      rw [hu] at hr
      have sm := G.sm hr
      have mx := mul1 sm v
      dsimp only at mx
      refine Nx.set (.int ((u * v + e) % p)) [] (by simp [evE, binR, intB, mx, G.pp]) (Nx.nil ⟨_, _, rfl, rfl, ?_⟩)
      rw [em_append, show em [e] = [(e, 0)] from rfl, wv_snoc, hu]
      simp [rd, ad, ml]
    · rintro ρ1 S1 ⟨u, o4, rfl, rfl, hu⟩
      rw [em_rev, hw] at hu
      obtain rfl : w = u := congrArg Prod.fst hu
      exact Ends.ret (.int w) [] (by simp [evE]) rfl
  obtain ⟨w, hw, _⟩ := key 0
  refine ⟨w, hw, ?_⟩
  have h1 : Rc 1 "worth" [.int p, dI a, .int v] (.int w) := Rt.by (fun n S => r_worth n _ S) rfl (by simp [pures, D.pure]) rfl fun n hn => by
    obtain ⟨w2, hw2, h⟩ := key n
    obtain rfl : w = w2 := congrArg Prod.fst (hw.symm.trans hw2)
    exact h
  refine Rt.by (fun n S => r_poly_at n _ S) rfl (by simp [pures, D.pure]) rfl fun n hn => ?_
  unfold b_poly_at
  exact Ends.ret _ [] (by simp [evE, evEs, h1.call hn]) rfl
end
end Z.K01
end
section
set_option Elab.async false
set_option linter.all false
set_option autoImplicit false
set_option maxRecDepth 100000
set_option maxHeartbeats 8000000
namespace Z.K01
open PySem Z M
section
variable {p c : Int} {iv : List Int}
theorem bin_mul {i j : Int} (h : mulOk i j) (S : Sto) : binR .mul (.int i) (.int j) S = .ok (.int (i * j)) S := by
  simp only [binR, intB]
  rw [if_pos h]
theorem ev_mul23 {Γ : Calls} {i y : Int} {u v : Option Z.D} (h : mulOk i y) : evE Γ co (.bin .mul (.v 2) (.v 3)) [u, v, some (.int i), some (.int y)] [] = .ok (.int (i * y)) [] := by
  simp only [evE, List.getElem?_cons_zero, List.getElem?_cons_succ, R.bind_ok, bin_mul h]
theorem slI (a : List Int) : (em ((a.zipIdx.map fun q => (q.2 : Int) * q.1).drop 1)).map (rd p) = slP p c (em a) := by
  rw [← slP_eq]
  have e1 : em ((a.zipIdx.map fun q => (q.2 : Int) * q.1).drop 1) = (em (a.zipIdx.map fun q => (q.2 : Int) * q.1)).drop 1 := by simp [em, List.map_drop]
  rw [e1, List.map_drop]
  congr 1
  simp only [em, List.zipIdx_map, List.map_map]
  refine List.map_congr_left fun q _ => ?_
  simp [rd, ml, Int.mul_comm]
theorem poly_derived_ok (G : Gr p c iv) {a : List Int} (ca : Can p (em a)) (ha : a.length ≤ 1000) : ∃ s : List Int, em s = trim (slP p c (em a)) ∧ Rc 3 "poly_derived" [.int p, dI a] (dI s) := by
  generalize hF : (a.zipIdx.map fun q => (q.2 : Int) * q.1) = F
  have hl : F.length = a.length := by rw [← hF]; simp
  obtain ⟨s, hs, t⟩ := trimmed_ok G (S := [F.map Z.D.int, (F.drop 1).map Z.D.int]) (d := .lst 1) (r := F.drop 1) (.inr ⟨1, rfl, rfl⟩) (by simp; omega)
  rw [← hF, slI (c := c)] at hs
  refine ⟨s, hs, ?_⟩
  have h1 : Rc 2 "slope" [.int p, dI a] (dI s) := Rt.by (fun n S => r_slope n _ S) rfl (by simp [pures, D.pure]) (by simp) fun n hn => by
    obtain ⟨E, t⟩ := Rs_call_int t hn
    unfold b_slope
    show Ends (run co pf n) co _ [some (.int p), some (dI a), none, none] _ _
    have h0 := evE_lc (Γ := run co pf n) (Co := co) (ρ := [some (.int p), some (dI a), none, none]) (S := []) (S1 := []) (gd := []) (elt := .bin .mul (.v 2) (.v 3)) (tg := .tup (.cons (.nm 2) (.cons (.nm 3) .nil))) (it := .enum (.v 1)) (own := [2, 3]) (fun q : Int × Nat => Z.D.tup [.int (q.2 : Int), .int q.1]) (fun q => Z.D.int ((q.2 : Int) * q.1)) a.zipIdx (by simp [evI, evE, dI, enum_ints]) rfl (by simp; omega) fun q hq => by
      have hx : q.1 ∈ a := by
        obtain ⟨x, i⟩ := q
        exact List.fst_mem_of_mem_zipIdx hq
      have sx := em_red G ca.red hx
      show ∃ ρa, asg (.tup (.cons (.nm 2) (.cons (.nm 3) .nil))) (.tup [.int (q.2 : Int), .int q.1]) (wipeR [some (.int p), some (dI a), none, none] [2, 3]) = some ρa ∧ evE (run co pf n) co (.bin .mul (.v 2) (.v 3)) ρa [] = .ok (.int ((q.2 : Int) * q.1)) []
      generalize q.1 = y at *
      generalize (q.2 : Int) = i
      have mx := mul3 (smI sx.1 sx.2 G) i
      dsimp only at mx
      refine ⟨[some (.int p), some (dI a), some (.int i), some (.int y)], by simp [asg, asgs, wipeR], ?_⟩
      exact ev_mul23 mx
    have e2 : a.zipIdx.map (fun q => Z.D.int ((q.2 : Int) * q.1)) = F.map Z.D.int := by rw [← hF, List.map_map]; rfl
    rw [e2] at h0
    have hv0 : evE (run co pf n) co (.v 0) [some (.int p), some (dI a), none, none] [] = .ok (.int p) [] := by simp [evE]
    have sl : slR (.lst 0) (some 1) none [F.map Z.D.int] = .ok (.lst 1) [F.map Z.D.int, (F.drop 1).map Z.D.int] := by
      simp only [slR, List.getElem?_cons_zero]
      rw [show (some (1 : Int)) = some ((1 : Nat) : Int) from rfl, cut_from, newL_ok (by simp; omega), List.map_drop]; rfl
    refine Ends.ret (dI s) ([F.map Z.D.int, (F.drop 1).map Z.D.int] ++ E) ?_ rfl
    rw [evE]
    simp only [evEs]
    rw [hv0]
    simp only [R.bind_ok]
    rw [evE, h0]
    simp only [evO, evE, R.bind_ok, List.length_nil, List.nil_append, sl, t]
  refine Rt.by (fun n S => r_poly_derived n _ S) rfl (by simp [pures, D.pure]) (by simp) fun n hn => ?_
  unfold b_poly_derived
  exact Ends.ret _ [] (by simp [evE, evEs, h1.call hn]) rfl
theorem raised_ok (G : Gr p c iv) {a d : List Int} {t : Nat} (ca : Can p (em a)) (cd : Can p (em d)) (ha : a.length ≤ 1000) (hd : d.length ≤ 400) (hd2 : 2 ≤ d.length) (ht : t < 2 ^ 80) :
    ∃ s : List Int, em s = pwr p c (em a) (em d) t ∧ Rc 5 "raised" [.int p, dI a, .int t, dI d] (dI s) := by
  have hd0 : d ≠ [] := by rintro rfl; simp at hd2
  have hE0 : em d ≠ [] := fun h => hd0 (em_eq_nil.mp h)
  obtain ⟨a', ha', ca', la', h1⟩ := rest_of_ok G ca cd ha (by omega) hd0
  have D0 := div_fn G ca cd (by rw [em_len]; omega) (by rw [em_len]; omega) hE0
  rw [← ha'] at D0
  have key : ∀ n, 4 ≤ n → Ends (run co pf n) co b_raised [some (.int p), some (dI a), some (.int t), some (dI d), none, none] [] fun x _ => ∃ s : List Int, x = dI s ∧ em s = pwr p c (em a) (em d) t := fun n hn => by
    unfold b_raised
    refine Ends.set (dI a') [] (by simp [evE, evEs, h1.call (n := n) (by omega)]) ?_
    refine Ends.set (dI [1]) [] (by simp [evE, evEs, newT_ok, dI]) ?_
    show Ends (run co pf n) co _ [some (.int p), some (dI a'), some (.int t), some (dI d), some (dI [1]), none] _ _
    obtain ⟨bs, E, k, hc, hk, hv, hb, hl⟩ := figures_call (n := n) (by omega) ht []
    have P0 : PwOk p c (em a') (em d) 0 (em [1]) := ⟨⟨fun x hx => by rw [List.mem_singleton.mp hx]; exact rd_one G, by simp [em]⟩, by rw [em_len, em_len]; simp; omega, Eqm.of_pe PE.refl⟩
    have P1 : PwOk p c (em a') (em d) 1 (em a') := ⟨ca', by rw [em_len, em_len]; exact la', by rw [rpow_one]; exact Eqm.of_pe PE.refl⟩
    rw [List.nil_append] at hc hk
    have step : ∀ (x y : List Int) (i j : Nat), PwOk p c (em a') (em d) i (em x) → PwOk p c (em a') (em d) j (em y) → ∃ m r : List Int, PwOk p c (em a') (em d) (i + j) (em r) ∧ (∀ S, callR (run co pf n) "multiplied_polywork" [.int p, dI x, dI y] S = .ok (dI m) S) ∧ (∀ S, callR (run co pf n) "rest_of" [.int p, dI m, dI d] S = .ok (dI r) S) := fun x y i j hx hy => by
      have lx := hx.len
      have ly := hy.len
      rw [em_len, em_len] at lx ly
      obtain ⟨m, hm, c1⟩ := multiplied_polywork_ok G hx.can.red hy.can.red (by omega) (by omega)
      have cm : Can p (em m) := by rw [hm]; exact mulR_can G.pp
      have lm1 : m.length ≤ 1000 := by
        have := mulR_len (p := p) (c := c) (a := em x) (b := em y)
        rw [← hm, em_len, em_len, em_len] at this
        omega
      obtain ⟨r, hr, cr, lr, c2⟩ := rest_of_ok G cm cd lm1 (by omega) hd0
      refine ⟨m, r, ?_, fun S => c1.call (n := n) (by omega) S, fun S => c2.call (n := n) (by omega) S⟩
      rw [hr, hm]
      exact pw_step G cd (by rw [em_len]; omega) hE0 hx hy
    refine Ends.fo2 [(k, bs.map fun b : Nat => Z.D.int b)] (fun b : Nat => Z.D.int b) bs E ?_ (fun pre ρ S => ∃ (f : List Int) (o : Option Z.D), S = E ∧ ρ = [some (.int p), some (dI a'), some (.int t), some (dI d), some (dI f), o] ∧ PwOk p c (em a') (em d) (pre.foldl bv 0) (em f))
      ⟨_, none, rfl, rfl, P0⟩ ?_ ?_ ?_
    · simp [evI, evE, evEs, hc, hk]
    · rintro pre b post ρ S hsp ⟨f, o, rfl, rfl, P⟩
      have hb2 : b < 2 := hb b (by rw [hsp]; simp)
      refine ⟨chk_at hk, [some (.int p), some (dI a'), some (.int t), some (dI d), some (dI f), some (.int b)], by simp [asg], ?_⟩
      obtain ⟨m1, f2, P2, c1, c2⟩ := step f f _ _ P P
      refine Nx.set (dI f2) S (by simp [evE, evEs, c1, c2]) ?_
      show Nx (run co pf n) co _ [some (.int p), some (dI a'), some (.int t), some (dI d), some (dI f2), some (.int b)] _ _
      have ht : evT (run co pf n) co (.val (.cmp .eq (.v 5) (.c (.int 1)))) [some (.int p), some (dI a'), some (.int t), some (dI d), some (dI f2), some (.int b)] S = .ok (decide ((b : Int) = 1)) S := by
        simp only [evT, evE, List.getElem?_cons_zero, List.getElem?_cons_succ, R.bind_ok, cmpR, eqR_int, Option.map_some, optR_some, truthR]
      have ev : (pre ++ [b]).foldl bv 0 = pre.foldl bv 0 + pre.foldl bv 0 + b := by
        rw [List.foldl_append]; show bv _ _ = _; unfold bv; omega
      by_cases h1 : b = 1
      · obtain ⟨m3, f3, P3, c3, c4⟩ := step f2 a' _ _ P2 P1
        refine Nx.iteT S (by rw [ht, h1]; rfl) [some (.int p), some (dI a'), some (.int t), some (dI d), some (dI f3), some (.int b)] S (by simp [evSs, evS, evE, evEs, c3, c4]) (Nx.nil ⟨_, _, rfl, rfl, ?_⟩)
        rw [ev, h1]
        exact P3
      · refine Nx.iteF S (by rw [ht]; simp; omega) (Nx.nil ⟨_, _, rfl, rfl, ?_⟩)
        rw [ev, show b = 0 by omega]
        exact P2
    · rintro ρ S ⟨f, o, rfl, rfl, P⟩
      exact chk_at hk
    · rintro ρ1 S1 ⟨f, o, rfl, rfl, P⟩
      refine Ends.ret (dI f) S1 (by simp [evE]) ⟨f, rfl, ?_⟩
      rw [hv] at P
      obtain ⟨k, v, H⟩ := hd_of G cd hE0
      rw [pwr_eq H (pw_rest D0 P)]
  obtain ⟨x, S1, _, s, _, hs⟩ := key 4 (Nat.le_refl 4)
  refine ⟨s, hs, Rt.by (fun n S => r_raised n _ S) rfl (by simp [pures, D.pure]) (by simp) fun n hn => ?_⟩
  obtain ⟨x2, S2, e2, s2, rfl, hs2⟩ := key n hn
  rw [em_inj (hs2.trans hs.symm)] at e2
  exact ⟨_, S2, e2, rfl⟩
theorem power_rest_ok (G : Gr p c iv) {a d : List Int} {t : Nat} (ca : Can p (em a)) (cd : Can p (em d)) (ha : a.length ≤ 1000) (hd : d.length ≤ 400) (hd2 : 2 ≤ d.length) (ht : t < 2 ^ 80) :
    ∃ s : List Int, em s = pwr p c (em a) (em d) t ∧ Rc 6 "power_rest" [.int p, dI a, .int t, dI d] (dI s) := by
  obtain ⟨s, hs, h⟩ := raised_ok G ca cd ha hd hd2 ht
  refine ⟨s, hs, Rt.by (fun n S => r_power_rest n _ S) rfl (by simp [pures, D.pure]) (by simp) fun n hn => ?_⟩
  unfold b_power_rest
  exact Ends.ret _ [] (by simp [evE, evEs, h.call hn]) rfl
/-- pair_poly of a row with noughts behind it, as a tuple or as a list -/
theorem pair_poly_rs {S : Sto} {d : Z.D} {r : Row} (h : IsRow S d r) (hl : r.length ≤ 1000) (hp : d.pure = false) : Rs co pf 2 "pair_poly" [.int p, d] S (dR (trim r)) := by
  refine Rs.by (fun n S => r_pair_poly n _ S) rfl fun n hn => ?_
  unfold b_pair_poly
  obtain ⟨E, t⟩ := (row_trimmed_ok h (by omega)).call (n := n) hn (by simp [pures, hp])
  exact Ends.ret (dR (trim r)) (S ++ E) (by simp [evE, evEs, t]) ⟨rfl, E, rfl⟩
theorem row_trimmed_rt {r : Row} (hl : r.length ≤ 1000) : Rc 1 "row_trimmed" [dR r] (dR (trim r)) :=
  Rs.rt (row_trimmed_ok (S := []) (.inl rfl) (by omega)) (by simp [pures]) (by simp)
theorem pair_poly_rt {r : Row} (hl : r.length ≤ 1000) : Rc 2 "pair_poly" [.int p, dR r] (dR (trim r)) :=
  Rt.by (fun n S => r_pair_poly n _ S) rfl (by simp [pures, D.pure]) (by simp) fun n hn => by
    unfold b_pair_poly
    exact Ends.ret (dR (trim r)) [] (by simp [evE, evEs, (row_trimmed_rt hl).call (n := n) hn]) rfl
end
end Z.K01
end
section
set_option Elab.async false
set_option linter.all false
set_option autoImplicit false
set_option maxRecDepth 100000
set_option maxHeartbeats 8000000
namespace Z.K01
open PySem Z M
/-- a deal in the store: its cell k holds its list of numbers (cell j) and its mix -/
structure Dl (j k : Nat) (S : Sto) : Prop where
  ne : j ≠ k
  ex : ∃ (ns : List Int) (mix : Int), S[k]? = some [.lst j, .int mix] ∧ S[j]? = some (ns.map Z.D.int) ∧ ns.length ≤ 1000
/-- all else stands -/
structure Fr (j k : Nat) (S S' : Sto) : Prop where
  len : S.length ≤ S'.length
  same : ∀ i, i ≠ j → i ≠ k → ∀ xs, S[i]? = some xs → S'[i]? = some xs
theorem Fr.refl {j k : Nat} {S : Sto} : Fr j k S S := ⟨Nat.le_refl _, fun _ _ _ _ h => h⟩
theorem Fr.trans {j k : Nat} {S T U : Sto} (a : Fr j k S T) (b : Fr j k T U) : Fr j k S U := ⟨Nat.le_trans a.len b.len, fun i h1 h2 xs h => b.same i h1 h2 xs (a.same i h1 h2 xs h)⟩
theorem Fr.app {j k : Nat} {S : Sto} (E : Sto) : Fr j k S (S ++ E) := ⟨by simp, fun i _ _ xs h => append_self_none S E h⟩
theorem get_lt {S : Sto} {i : Nat} {xs : List Z.D} (h : S[i]? = some xs) : i < S.length := (List.getElem?_eq_some_iff.mp h).1
theorem Fr.setj {j k : Nat} {S : Sto} (y : List Z.D) : Fr j k S (S.set j y) := ⟨by simp, fun i h1 _ xs h => by rw [List.getElem?_set_ne (Ne.symm h1)]; exact h⟩
theorem Fr.setk {j k : Nat} {S : Sto} (y : List Z.D) : Fr j k S (S.set k y) := ⟨by simp, fun i _ h2 xs h => by rw [List.getElem?_set_ne (Ne.symm h2)]; exact h⟩
theorem Dl.jlt {j k : Nat} {S : Sto} (d : Dl j k S) : j < S.length := by obtain ⟨_, ns, mix, _, h, _⟩ := d; exact get_lt h
theorem Dl.klt {j k : Nat} {S : Sto} (d : Dl j k S) : k < S.length := by obtain ⟨_, ns, mix, h, _, _⟩ := d; exact get_lt h
/-- a cell that is not the deal's -/
theorem Fr.set {j k m : Nat} {S S' : Sto} (f : Fr j k S S') (hm : S.length ≤ m) (y : List Z.D) : Fr j k S (S'.set m y) := ⟨by simp; exact f.len, fun i h1 h2 xs h => by
  rw [List.getElem?_set_ne (by have := get_lt h; omega)]; exact f.same i h1 h2 xs h⟩
theorem Dl.set {j k m : Nat} {S : Sto} (d : Dl j k S) (h1 : m ≠ j) (h2 : m ≠ k) (y : List Z.D) : Dl j k (S.set m y) := by
  obtain ⟨ne, ns, mix, a, b, c⟩ := d
  exact ⟨ne, ns, mix, by rw [List.getElem?_set_ne h2]; exact a, by rw [List.getElem?_set_ne h1]; exact b, c⟩
theorem Dl.app {j k : Nat} {S : Sto} (d : Dl j k S) (E : Sto) : Dl j k (S ++ E) := by
  obtain ⟨ne, ns, mix, a, b, c⟩ := d
  exact ⟨ne, ns, mix, append_self_none S E a, append_self_none S E b, c⟩
/-- the numbers beside no numbers -/
theorem eqR_ints_nil {S : Sto} {j m : Nat} {ns : List Int} (h1 : S[j]? = some (ns.map Z.D.int)) (h2 : S[m]? = some []) : eqR (.lst j) (.lst m) S = some (decide (ns = [])) := by
  unfold eqR
  simp only [res, h1, h2, Option.map_some]
  have hp : (D.ro (ns.map Z.D.int)).pure = true := by simp [D.pure]
  rw [if_pos ⟨hp, rfl, by simp [D.flatTo, flatTos]⟩]
  cases ns with
  | nil => rfl
  | cons x ns => simp [eqD, D.py, pys, PyData.eqv, PyData.eqvAll]
theorem evIx {Γ : Calls} {k : Nat} {b : Z.D} {j : Nat} {mix : Int} {ρ : Rho} {S : Sto} (h0 : ρ[0]? = some (some (.lst k))) (h : S[k]? = some [.lst j, .int mix]) : evE Γ co (.ix (.v 0) (.c (.int 0))) ρ S = .ok (.lst j) S := by
  simp only [evE, h0, R.bind_ok]
  exact ixR_L h rfl
theorem any_test {n : Nat} {k j : Nat} {mix : Int} {ns : List Int} {ρ : Rho} {S : Sto} (h0 : ρ[0]? = some (some (.lst k))) (h : S[k]? = some [.lst j, .int mix]) (h2 : S[j]? = some (ns.map Z.D.int)) :
    evT (run co pf n) co (.val (.cmp .ne (.ix (.v 0) (.c (.int 0))) (.lst .nil))) ρ S = .ok (!decide (ns = [])) (S ++ [[]]) := by
  have e1 := evIx (Γ := run co pf n) (b := .non) h0 h
  have e2 : eqR (.lst j) (.lst S.length) (S ++ [[]]) = some (decide (ns = [])) := eqR_ints_nil (append_self_none _ _ h2) at_end
  rw [evT, evE, e1]
  simp only [R.bind_ok, evE, evEs]
  rw [newL_ok (by simp)]
  simp only [R.bind_ok, cmpR, e2, Option.map_some, optR_some, truthR]
theorem any_ends {n j k : Nat} {S : Sto} (hd : Dl j k S) {b : Int} (h0 : 0 < b) (hb : b < 1073741824) : Ends (run co pf n) co b__law_any [some (.lst k), some (.int b), none] S fun x S' => (∃ v : Int, x = .int v ∧ 0 ≤ v ∧ v < b) ∧ Dl j k S' ∧ Fr j k S S' := by
  obtain ⟨ne, ns, mix, hk, hj, hl⟩ := hd
  have md : ∀ (a : Int) S, binR .mod (.int a) (.int b) S = .ok (.int (a % b)) S := fun a S => by simp only [binR, intB]; rw [if_pos h0]
  have fd : ∀ (a : Int) S, binR .fdiv (.int a) (.int b) S = .ok (.int (a / b)) S := fun a S => by simp only [binR, intB]; rw [if_pos ⟨h0, .inl hb⟩]
  unfold b__law_any
  refine Ends.wh (fun q ρ S' => ∃ ns : List Int, ρ = [some (.lst k), some (.int b), none] ∧ S'[k]? = some [.lst j, .int mix] ∧ S'[j]? = some (ns.map Z.D.int) ∧ ns.length ≤ 1000 ∧ ns.length ≤ q ∧ Fr j k S S') 1000
    (fun ρ S' => ∃ ns : List Int, ρ = [some (.lst k), some (.int b), none] ∧ S'[k]? = some [.lst j, .int mix] ∧ S'[j]? = some (ns.map Z.D.int) ∧ ns.length ≤ 1000 ∧ Fr j k S S') (by decide) ⟨ns, rfl, hk, hj, hl, hl, Fr.refl⟩ ?_ ?_
  · rintro q ρ S' ⟨ns, rfl, hk, hj, hl, hq, fr⟩
    have t1 := any_test (n := n) (ρ := [some (.lst k), some (.int b), none]) rfl hk hj
    by_cases h1 : ns = []
    · left
      subst h1
      exact ⟨S' ++ [[]], by rw [evT, t1]; rfl, [], rfl, append_self_none _ _ hk, append_self_none _ _ hj, by simp, fr.trans (Fr.app _)⟩
    · have hlen := List.length_pos_iff.mpr h1
      have hk' := append_self_none _ [[]] hk
      have hj' := append_self_none _ [[]] hj
      have e1 := evIx (Γ := run co pf n) (b := .non) (ρ := [some (.lst k), some (.int b), none]) rfl hk'
      have ix : ixR (.lst j) (.int (-1)) (S' ++ [[]]) = .ok (.int (ns.getD (ns.length - 1) 0)) (S' ++ [[]]) := by
        refine ixR_L hj' ?_
        have := at_last_int (ms := ns) (k := ns.length) hlen (Nat.le_refl _)
        rwa [List.take_length] at this
      have ht : evT (run co pf n) co (.and (.val (.cmp .ne (.ix (.v 0) (.c (.int 0))) (.lst .nil))) (.val (.cmp .eq (.ix (.ix (.v 0) (.c (.int 0))) (.neg (.c (.int 1)))) (.c (.int 0))))) [some (.lst k), some (.int b), none] S' = .ok (decide (ns.getD (ns.length - 1) 0 = 0)) (S' ++ [[]]) := by
        rw [evT, t1]
        simp only [R.bind_ok, h1, decide_false, Bool.not_false, if_true]
        rw [evT, evE, evE, e1]
        simp only [R.bind_ok, evE, ix, cmpR, eqR_int, Option.map_some, optR_some, truthR]
      by_cases hx : ns.getD (ns.length - 1) 0 = 0
      · right
        have p1 : mtR .pop (.lst j) [] (S' ++ [[]]) = .ok (.int (ns.getD (ns.length - 1) 0)) ((S' ++ [[]]).set j (ns.dropLast.map Z.D.int)) := by
          unfold mtR
          simp only [hj', List.length_map]
          rw [int_get (by omega)]
          simp only [List.map_dropLast]
        refine ⟨S' ++ [[]], [some (.lst k), some (.int b), none], (S' ++ [[]]).set j (ns.dropLast.map Z.D.int), q - 1, by rw [ht, hx]; rfl, .inl ?_, by omega, ns.dropLast, rfl, ?_, ?_, by simp; omega, by simp; omega, (fr.trans (Fr.app _)).trans (Fr.setj _)⟩
        · simp only [evSs, evS]
          rw [evE, e1]
          simp only [R.bind_ok, evEs, p1, R.toF_ok, F.then_nx]
        · rw [List.getElem?_set_ne ne]; exact hk'
        · rw [List.getElem?_set_self (get_lt hj')]
      · left
        exact ⟨S' ++ [[]], by rw [ht]; simp only [hx, decide_false], ns, rfl, hk', hj', hl, fr.trans (Fr.app _)⟩
  · rintro ρ1 S1 ⟨ns, rfl, hk, hj, hl, fr⟩
    have t1 := any_test (n := n) (ρ := [some (.lst k), some (.int b), none]) rfl hk hj
    have hk' := append_self_none _ [[]] hk
    have hj' := append_self_none _ [[]] hj
    have fr' : Fr j k S (S1 ++ [[]]) := fr.trans (Fr.app _)
    have e1 := evIx (Γ := run co pf n) (b := .non) (ρ := [some (.lst k), some (.int b), none]) rfl hk'
    generalize S1 ++ [[]] = S2 at *
    by_cases h1 : ns = []
    · refine Ends.iteF S2 (by rw [t1, h1]; rfl) ?_
      have ixm : ∀ mix S, S[k]? = some [.lst j, .int mix] → ixR (.lst k) (.int 1) S = .ok (.int mix) S := fun mix S h => ixR_L h rfl
      have m1 := ixm mix S2 hk'
      have b1 : ∀ S, binR .mul (.int mix) (.int 48271) S = .ok (.int (mix * 48271)) S := bin_mul (mkR (by decide) (by decide))
      have b2 : ∀ S, binR .add (.int (mix * 48271)) (.int 31) S = .ok (.int (mix * 48271 + 31)) S := fun S => rfl
      have b3 : ∀ (a : Int) S, binR .mod (.int a) (.int 2147483647) S = .ok (.int (a % 2147483647)) S := fun a S => rfl
      have b4 : ∀ (a : Int) S, binR .fdiv (.int a) (.int 64) S = .ok (.int (a / 64)) S := fun a S => rfl
      generalize hnew : (mix * 48271 + 31) % 2147483647 = mix2
      have e3 : evE (run co pf n) co (.bin .mod (.bi .int (.cons (.bin .add (.bin .mul (.ix (.v 0) (.c (.int 1))) (.c (.int 48271))) (.c (.int 31))) .nil)) (.c (.int 2147483647))) [some (.lst k), some (.int b), none] S2 = .ok (.int mix2) S2 := by
        simp only [evE, evEs, List.getElem?_cons_zero, R.bind_ok, m1, b1, b2, biR_int, b3, hnew]
      have hk2 : (S2.set k [.lst j, .int mix2])[k]? = some [.lst j, .int mix2] := List.getElem?_set_self (get_lt hk')
      refine Ends.seq [some (.lst k), some (.int b), none] (S2.set k [.lst j, .int mix2]) ?_ ?_
      · have st : setIxR (.lst k) (.int 1) (.int mix2) S2 = some (S2.set k [.lst j, .int mix2]) := by
          simp only [setIxR, hk']
          rfl
        rw [evS, e3]
        simp only [R.toF_ok, evE, List.getElem?_cons_zero, R.bind_ok, st]
      · have m2 := ixm mix2 _ hk2
        refine Ends.ret (.int (mix2 / 64 % b)) (S2.set k [.lst j, .int mix2]) ?_ ⟨⟨_, rfl, Int.emod_nonneg _ (by omega), Int.emod_lt_of_pos _ h0⟩, ⟨ne, ns, mix2, hk2, by rw [List.getElem?_set_ne (Ne.symm ne)]; exact hj', hl⟩, fr'.trans (Fr.setk _)⟩
        simp only [evE, evEs, List.getElem?_cons_zero, List.getElem?_cons_succ, R.bind_ok, m2, b4, biR_int, md]
    · have hlen := List.length_pos_iff.mpr h1
      have p1 : mtR .pop (.lst j) [] S2 = .ok (.int (ns.getD (ns.length - 1) 0)) (S2.set j (ns.dropLast.map Z.D.int)) := by
        unfold mtR
        simp only [hj', List.length_map]
        rw [int_get (by omega)]
        simp only [List.map_dropLast]
      generalize ns.getD (ns.length - 1) 0 = v at p1
      have hk3 : (S2.set j (ns.dropLast.map Z.D.int))[k]? = some [.lst j, .int mix] := by rw [List.getElem?_set_ne ne]; exact hk'
      have hj3 : (S2.set j (ns.dropLast.map Z.D.int))[j]? = some (ns.dropLast.map Z.D.int) := List.getElem?_set_self (get_lt hj')
      have fr3 : Fr j k S (S2.set j (ns.dropLast.map Z.D.int)) := fr'.trans (Fr.setj _)
      have hl3 : ns.dropLast.length ≤ 999 := by simp; omega
      refine Ends.iteT S2 (by rw [t1]; simp [h1]) ?_
      generalize S2.set j (ns.dropLast.map Z.D.int) = S3 at *
      refine Ends.set (.int v) S3 ?_ ?_
      · rw [evE]
        simp only [evEs]
        rw [evE, e1]
        simp only [R.bind_ok, evEs, p1, biR_int]
      show Ends (run co pf n) co _ [some (.lst k), some (.int b), some (.int v)] _ _
      have e4 := evIx (Γ := run co pf n) (b := .non) (ρ := [some (.lst k), some (.int b), some (.int v)]) rfl hk3
      refine Ends.ex .non (S3.set j ((ns.dropLast ++ [v / b]).map Z.D.int)) ?_ ?_
      · have hs : ns.dropLast.length < sizeLine := Nat.lt_of_lt_of_le (show ns.dropLast.length < 100000 by omega) (by decide)
        have a1 : mtR .append (.lst j) [.int (v / b)] S3 = .ok .non (S3.set j ((ns.dropLast ++ [v / b]).map Z.D.int)) := by
          unfold mtR
          simp only [hj3, List.length_map]
          rw [if_pos hs]
          simp
        rw [evE, e4]
        simp only [R.bind_ok, evEs, evE, List.getElem?_cons_zero, List.getElem?_cons_succ, fd, a1]
      · refine Ends.ret (.int (v % b)) (S3.set j ((ns.dropLast ++ [v / b]).map Z.D.int)) (by simp only [evE, List.getElem?_cons_zero, List.getElem?_cons_succ, R.bind_ok, md]) ⟨⟨_, rfl, Int.emod_nonneg _ (by omega), Int.emod_lt_of_pos _ h0⟩, ⟨ne, ns.dropLast ++ [v / b], mix, by rw [List.getElem?_set_ne ne]; exact hk3, List.getElem?_set_self (get_lt hj3), by simp only [List.length_append, List.length_singleton]; omega⟩, fr3.trans (Fr.setj _)⟩
/-- what a draw does -/
def Dr (j k : Nat) (n : Nat) (f : Str) (ds : List Z.D) (S : Sto) (P : Z.D → Sto → Prop) : Prop := ∃ x S', callR (run co pf n) f ds S = .ok x S' ∧ P x S' ∧ Dl j k S' ∧ Fr j k S S'
theorem Dr.by {j k n m : Nat} {f : Str} {np nv : Nat} {body : Sts} {ds : List Z.D} {S : Sto} {P : Z.D → Sto → Prop} (hr : ∀ n S, run co pf (n + 1) f ds S = runFn (run co pf n) co ⟨np, nv, body⟩ ds S) (hl : ds.length = np) (hp : pures ds = false) (hn : m + 1 ≤ n)
    (h : ∀ n, m ≤ n → Ends (run co pf n) co body (ds.map some ++ List.replicate (nv - np) none) S fun x S' => P x S' ∧ Dl j k S' ∧ Fr j k S S') : Dr j k n f ds S P := by
  obtain ⟨n', rfl⟩ : ∃ n', n = n' + 1 := ⟨n - 1, by omega⟩
  obtain ⟨x, S', e, p⟩ := h n' (by omega)
  refine ⟨x, S', ?_, p⟩
  unfold callR
  rw [hp]
  simp only [Bool.false_eq_true, if_false]
  rw [hr]
  simp only [runFn, hl, if_true, e]
def IsBelow (b : Int) (x : Z.D) (_ : Sto) : Prop := ∃ v : Int, x = .int v ∧ 0 ≤ v ∧ v < b
theorem any_ok {n j k : Nat} (hn : 1 ≤ n) {S : Sto} (hd : Dl j k S) {b : Int} (h0 : 0 < b) (hb : b < 1073741824) : Dr j k n "_law_any" [.lst k, .int b] S (IsBelow b) :=
  Dr.by (m := 0) (fun n S => r__law_any n _ S) rfl rfl (by omega) fun n hn => any_ends hd h0 hb
end Z.K01
end
section
set_option Elab.async false
set_option linter.all false
set_option autoImplicit false
set_option maxRecDepth 100000
set_option maxHeartbeats 8000000
namespace Z.K01
open PySem Z M
section
variable {p c : Int} {iv : List Int}
theorem of_ok {n j k m : Nat} (hn : 2 ≤ n) {S : Sto} (hd : Dl j k S) {xs : List Z.D} (hm : S[m]? = some xs) (mj : m ≠ j) (mk : m ≠ k) (h0 : 0 < xs.length) (hl : xs.length ≤ 1000) : Dr j k n "_law_of" [.lst k, .lst m] S fun x _ => x ∈ xs :=
  Dr.by (m := 1) (fun n S => r__law_of n _ S) rfl rfl (by omega) fun n hn => by
    unfold b__law_of
    show Ends (run co pf n) co _ [some (.lst k), some (.lst m)] _ _
    obtain ⟨x, S1, e1, ⟨v, rfl, v0, v1⟩, d1, f1⟩ := any_ok hn hd (b := xs.length) (by omega) (by omega)
    have hm1 := f1.same m mj mk xs hm
    have hv : v.toNat < xs.length := by omega
    refine Ends.ret (xs[v.toNat]) S1 ?_ ⟨List.getElem_mem hv, d1, f1⟩
    have ix : ixR (.lst m) (.int v) S1 = .ok (xs[v.toNat]) S1 := by
      have := atI_nat (List.getElem?_eq_getElem hv)
      rw [show ((v.toNat : Nat) : Int) = v by omega] at this
      exact ixR_L hm1 this
    simp only [evE, evEs, List.getElem?_cons_zero, List.getElem?_cons_succ, R.bind_ok, biR_lenL hm, e1, ix]
theorem rd_low {p v : Int} (h0 : 0 ≤ v) (h1 : v < p) (w : Int) (h2 : 0 ≤ w) (h3 : w < p) : rd p (v, w) = (v, w) := by
  simp only [rd]
  rw [Int.emod_eq_of_lt h0 h1, Int.emod_eq_of_lt h2 h3]
def IsEl (p : Int) (x : Z.D) (_ : Sto) : Prop := ∃ e : El, x = dE e ∧ rd p e = e
def IsUn (p : Int) (x : Z.D) (_ : Sto) : Prop := ∃ e : El, x = dE e ∧ rd p e = e ∧ e ≠ zr
theorem thing_ok (G : Gr p c iv) {n j k : Nat} (hn : 2 ≤ n) {S : Sto} (hd : Dl j k S) : Dr j k n "_law_thing" [.lst k, .int p] S (IsEl p) :=
  Dr.by (m := 1) (fun n S => r__law_thing n _ S) rfl rfl (by omega) fun n hn => by
    have p1 := G.p1
    have p2 := G.p2
    unfold b__law_thing
    show Ends (run co pf n) co _ [some (.lst k), some (.int p), none, none, none] _ _
    obtain ⟨x, S1, e1, ⟨s, rfl, s0, s1⟩, d1, f1⟩ := any_ok hn hd (b := 6) (by omega) (by omega)
    refine Ends.set (.int s) S1 (by simp only [evE, evEs, List.getElem?_cons_zero, List.getElem?_cons_succ, R.bind_ok, e1]) ?_
    show Ends (run co pf n) co _ [some (.lst k), some (.int p), some (.int s), none, none] _ _
    obtain ⟨x, S2, e2, ⟨a, rfl, a0, a1⟩, d2, f2⟩ := any_ok hn d1 (b := p) (by omega) (by omega)
    obtain ⟨x, S3, e3, ⟨b, rfl, b0, b1⟩, d3, f3⟩ := any_ok hn d2 (b := p) (by omega) (by omega)
    refine Ends.par [.int a, .int b] S3 [some (.lst k), some (.int p), some (.int s), some (.int a), some (.int b)] (by simp only [evE, evEs, List.getElem?_cons_zero, List.getElem?_cons_succ, R.bind_ok, e2, e3]) (by simp [setAll]) ?_
    have fr := (f1.trans f2).trans f3
    have ht : ∀ v : Int, evT (run co pf n) co (.val (.cmp .eq (.v 2) (.c (.int v)))) [some (.lst k), some (.int p), some (.int s), some (.int a), some (.int b)] S3 = .ok (decide (s = v)) S3 := fun v => by
      simp only [evT, evE, List.getElem?_cons_zero, List.getElem?_cons_succ, R.bind_ok, cmpR, eqR_int, Option.map_some, optR_some, truthR]
    by_cases h0 : s = 0
    · exact Ends.iteT S3 (by rw [ht, decide_eq_true h0]) (Ends.ret (dE (a, 0)) S3 (by simp [evE, evEs, newT_ok, dE]) ⟨⟨(a, 0), rfl, rd_low a0 a1 0 (by omega) (by omega)⟩, d3, fr⟩)
    · refine Ends.iteF S3 (by rw [ht, decide_eq_false h0]) ?_
      by_cases h1 : s = 1
      · exact Ends.iteT S3 (by rw [ht, decide_eq_true h1]) (Ends.ret (dE (0, b)) S3 (by simp [evE, evEs, newT_ok, dE]) ⟨⟨(0, b), rfl, rd_low (by omega) (by omega) b b0 b1⟩, d3, fr⟩)
      · refine Ends.iteF S3 (by rw [ht, decide_eq_false h1]) ?_
        exact Ends.ret (dE (a, b)) S3 (by simp [evE, evEs, newT_ok, dE]) ⟨⟨(a, b), rfl, rd_low a0 a1 b b0 b1⟩, d3, fr⟩
theorem unit_ok (G : Gr p c iv) {n j k : Nat} (hn : 3 ≤ n) {S : Sto} (hd : Dl j k S) : Dr j k n "_law_unit" [.lst k, .int p] S (IsUn p) :=
  Dr.by (m := 2) (fun n S => r__law_unit n _ S) rfl rfl (by omega) fun n hn => by
    unfold b__law_unit
    show Ends (run co pf n) co _ [some (.lst k), some (.int p), none] _ _
    obtain ⟨x, S1, e1, ⟨e, rfl, er⟩, d1, f1⟩ := thing_ok G hn hd
    refine Ends.set (dE e) S1 (by simp only [evE, evEs, List.getElem?_cons_zero, List.getElem?_cons_succ, R.bind_ok, e1]) ?_
    show Ends (run co pf n) co _ [some (.lst k), some (.int p), some (dE e)] _ _
    have e3 : ∀ S, eqR (dE e) (.tup [.int 0, .int 0]) S = some (decide (e = zr)) := fun S => eqR_dE e zr S
    have ht : evT (run co pf n) co (.val (.cmp .ne (.v 2) (.tup (.cons (.c (.int 0)) (.cons (.c (.int 0)) .nil))))) [some (.lst k), some (.int p), some (dE e)] S1 = .ok (!decide (e = zr)) S1 := by
      simp only [evT, evE, evEs, List.getElem?_cons_zero, List.getElem?_cons_succ, R.bind_ok]
      rw [newT_ok (by simp)]
      simp only [R.bind_ok, cmpR, e3, Option.map_some, optR_some, truthR]
    by_cases h0 : e = zr
    · refine Ends.ret (dE (1, 0)) S1 ?_ ⟨⟨(1, 0), rfl, rd_one G, by simp⟩, d1, f1⟩
      rw [evE, ht, decide_eq_true h0]
      simp [evE, evEs, newT_ok, dE]
    · refine Ends.ret (dE e) S1 ?_ ⟨⟨e, rfl, er, h0⟩, d1, f1⟩
      rw [evE, ht, decide_eq_false h0]
      simp [evE]
def IsRw (p : Int) (size : Nat) (x : Z.D) (_ : Sto) : Prop := ∃ r : Row, x = dR r ∧ Can p r ∧ r.length = size
theorem row_ok (G : Gr p c iv) {n j k : Nat} (hn : 4 ≤ n) {S : Sto} (hd : Dl j k S) {size : Nat} (hsz : size ≤ 100) : Dr j k n "_law_row" [.lst k, .int p, .int size] S (IsRw p size) :=
  Dr.by (m := 3) (fun n S => r__law_row n _ S) rfl rfl (by omega) fun n hn => by
    unfold b__law_row
    show Ends (run co pf n) co _ [some (.lst k), some (.int p), some (.int size), none, none, none, none] _ _
    have ht : evT (run co pf n) co (.val (.cmp .eq (.v 2) (.c (.int 0)))) [some (.lst k), some (.int p), some (.int size), none, none, none, none] S = .ok (decide ((size : Int) = 0)) S := by
      simp only [evT, evE, List.getElem?_cons_zero, List.getElem?_cons_succ, R.bind_ok, cmpR, eqR_int, Option.map_some, optR_some, truthR]
    by_cases hs0 : size = 0
    · subst hs0
      exact Ends.iteT S (by rw [ht]; rfl) (Ends.ret (dR []) S (by simp [evE, evEs, newT_ok, dR]) ⟨⟨[], rfl, can_nil, rfl⟩, hd, Fr.refl⟩)
    refine Ends.iteF S (by rw [ht, decide_eq_false (by omega)]) ?_
    obtain ⟨x, S1, e1, ⟨th, rfl, _, _⟩, d1, f1⟩ := any_ok (n := n) (by omega) hd (b := 3) (by omega) (by omega)
    refine Ends.set (.bl (decide (th = 0))) S1 ?_ ?_
    · simp only [evE, evEs, List.getElem?_cons_zero, List.getElem?_cons_succ, R.bind_ok, e1, cmpR, eqR_int, Option.map_some, optR_some]
    generalize decide (th = 0) = thin
    refine Ends.set (.lst S1.length) (S1 ++ [[]]) (by simp only [evE, evEs, R.bind_ok]; exact newL_ok (by simp)) ?_
    show Ends (run co pf n) co _ [some (.lst k), some (.int p), some (.int size), some (.bl thin), some (.lst S1.length), none, none] _ _
    generalize hmm : S1.length = m
    have mj : m ≠ j := by have := d1.jlt; omega
    have mk : m ≠ k := by have := d1.klt; omega
    have ml1 : S.length ≤ m := by have := f1.len; omega
    have hbnd : bndOk ((size : Int) - 1) := ⟨by omega, by omega⟩
    refine Ends.fo2 [] (fun i : Nat => Z.D.int i) (List.range (size - 1)) (S1 ++ [[]]) ?_
      (fun pre ρ S' => ∃ (r : Row) (o5 o6 : Option Z.D), ρ = [some (.lst k), some (.int p), some (.int size), some (.bl thin), some (.lst m), o5, o6] ∧ S'[m]? = some (r.map dE) ∧ r.length = pre.length ∧ Red p r ∧ Dl j k S' ∧ Fr j k S S')
      ⟨[], none, none, rfl, by rw [← hmm]; exact at_end, rfl, (fun _ h => nomatch h), d1.app _, f1.trans (Fr.app _)⟩ ?_ (fun _ _ _ => rfl) ?_
    · refine (evI_r1' (j := (size : Int) - 1) (S1 := S1 ++ [[]]) ?_ hbnd).trans ?_
      · simp only [evE, List.getElem?_cons_zero, List.getElem?_cons_succ, R.bind_ok]; rfl
      · rw [show ((size : Int) - 1).toNat = size - 1 by omega, range_nat]
    · rintro pre i post ρ S' hi ⟨r, o5, o6, rfl, hm, hrl, rr, dd, ff⟩
      obtain ⟨hi1, hi2⟩ := mem_range_split hi
      refine ⟨rfl, [some (.lst k), some (.int p), some (.int size), some (.bl thin), some (.lst m), some (.int i), o6], by simp [asg], ?_⟩
      obtain ⟨x, S2, e2, ⟨e, rfl, er⟩, d2, f2⟩ := thing_ok G (n := n) (by omega) dd
      refine Nx.set (dE e) S2 (by simp only [evE, evEs, List.getElem?_cons_zero, List.getElem?_cons_succ, R.bind_ok, e2]) ?_
      show Nx (run co pf n) co _ [some (.lst k), some (.int p), some (.int size), some (.bl thin), some (.lst m), some (.int i), some (dE e)] _ _
      have hm2 := f2.same m mj mk _ hm
      obtain ⟨e', S3, h3, er', d3, f3⟩ : ∃ (e' : El) (S3 : Sto), evE (run co pf n) co (.ite (.and (.val (.v 3)) (.val (.cmp .gt (.call "_law_any" (.cons (.v 0) (.cons (.c (.int 3)) .nil))) (.c (.int 0))))) (.tup (.cons (.c (.int 0)) (.cons (.c (.int 0)) .nil))) (.v 6)) [some (.lst k), some (.int p), some (.int size), some (.bl thin), some (.lst m), some (.int i), some (dE e)] S2 = .ok (dE e') S3 ∧ rd p e' = e' ∧ Dl j k S3 ∧ Fr j k S2 S3 := by
        cases thin with
        | false =>
          refine ⟨e, S2, ?_, er, d2, Fr.refl⟩
          simp [evE, evT, truthR]
        | true =>
          obtain ⟨x, S3, e3, ⟨w, rfl, _, _⟩, d3, f3⟩ := any_ok (n := n) (by omega) d2 (b := 3) (by omega) (by omega)
          by_cases hw : 0 < w
          · refine ⟨zr, S3, ?_, by simp [rd], d3, f3⟩
            simp only [evE, evT, evEs, List.getElem?_cons_zero, List.getElem?_cons_succ, R.bind_ok, truthR, optR_some, if_true, e3, cmpR, decide_eq_true hw]
            exact newT_ok (by simp)
          · refine ⟨e, S3, ?_, er, d3, f3⟩
            simp only [evE, evT, evEs, List.getElem?_cons_zero, List.getElem?_cons_succ, R.bind_ok, truthR, optR_some, if_true, e3, cmpR, decide_eq_false hw, Bool.false_eq_true, if_false]
      have hm3 := f3.same m mj mk _ hm2
      have hs : r.length < sizeLine := Nat.lt_of_lt_of_le (show r.length < 100000 by omega) (by decide)
      refine Nx.ex .non (S3.set m ((r ++ [e']).map dE)) ?_ (Nx.nil ⟨r ++ [e'], _, _, rfl, List.getElem?_set_self (get_lt hm3), by simp [hrl], red_snoc rr er', d3.set mj mk _, ((ff.trans f2).trans f3).set ml1 _⟩)
      rw [evE]
      rw [show evE (run co pf n) co (.v 4) [some (.lst k), some (.int p), some (.int size), some (.bl thin), some (.lst m), some (.int i), some (dE e)] S2 = .ok (.lst m) S2 by simp [evE]]
      simp only [R.bind_ok, evEs, h3]
      unfold mtR
      simp only [hm3, List.length_map]
      rw [if_pos hs]
      simp
    · rintro ρ1 S' ⟨r, o5, o6, rfl, hm, hrl, rr, dd, ff⟩
      rw [List.length_range] at hrl
      obtain ⟨x, S2, e2, ⟨u, rfl, ur, uz⟩, d2, f2⟩ := unit_ok G (n := n) (by omega) dd
      have hm2 := f2.same m mj mk _ hm
      have hm3 : (S2 ++ [[dE u]])[m]? = some (r.map dE) := append_self_none _ _ hm2
      have a1 : binR .add (.lst m) (.lst S2.length) (S2 ++ [[dE u]]) = .ok (.lst (S2 ++ [[dE u]]).length) (S2 ++ [[dE u]] ++ [(r ++ [u]).map dE]) := by
        rw [binR_addL hm3 at_end, newL_ok (by simp; omega)]
        simp
      refine Ends.ret (dR (r ++ [u])) (S2 ++ [[dE u]] ++ [(r ++ [u]).map dE]) ?_ ⟨⟨r ++ [u], rfl, ⟨red_snoc rr ur, by simpa using uz⟩, by simp; omega⟩, (d2.app _).app _, ((ff.trans f2).trans (Fr.app _)).trans (Fr.app _)⟩
      simp only [evE, evEs, List.getElem?_cons_zero, List.getElem?_cons_succ, R.bind_ok, e2]
      rw [newL_ok (by simp)]
      simp only [R.bind_ok, a1]
      rw [biR_tupL at_end]
      rfl
theorem wide_ok {n j k : Nat} (hn : 2 ≤ n) {S : Sto} (hd : Dl j k S) {B : Int} (h0 : 0 < B) : Dr j k n "_law_wide" [.lst k, .int B] S (IsBelow B) :=
  Dr.by (m := 1) (fun n S => r__law_wide n _ S) rfl rfl (by omega) fun n hn => by
    unfold b__law_wide
    show Ends (run co pf n) co _ [some (.lst k), some (.int B)] _ _
    have pw : ∀ S, binR .pow (.int 10) (.int 5) S = .ok (.int 100000) S := fun S => rfl
    have pw2 : ∀ S, binR .pow (.int 10) (.int 10) S = .ok (.int 10000000000) S := fun S => rfl
    obtain ⟨x, S1, e1, ⟨a, rfl, _, _⟩, d1, f1⟩ := any_ok hn hd (b := 100000) (by omega) (by omega)
    obtain ⟨x, S2, e2, ⟨b, rfl, _, _⟩, d2, f2⟩ := any_ok hn d1 (b := 100000) (by omega) (by omega)
    obtain ⟨x, S3, e3, ⟨c, rfl, _, _⟩, d3, f3⟩ := any_ok hn d2 (b := 100000) (by omega) (by omega)
    obtain ⟨x, S4, e4, ⟨d, rfl, _, _⟩, d4, f4⟩ := any_ok hn d3 (b := 100000) (by omega) (by omega)
    have m1 : ∀ (a : Int) S, binR .mul (.int a) (.int 100000) S = .ok (.int (a * 100000)) S := fun a => bin_mul (mkR (by decide) (by decide))
    have m2 : ∀ (a : Int) S, binR .mul (.int a) (.int 10000000000) S = .ok (.int (a * 10000000000)) S := fun a => bin_mul (mkR (by decide) (by decide))
    have ad1 : ∀ (a b : Int) S, binR .add (.int a) (.int b) S = .ok (.int (a + b)) S := fun a b S => rfl
    have md : ∀ (a : Int) S, binR .mod (.int a) (.int B) S = .ok (.int (a % B)) S := fun a S => by simp only [binR, intB]; rw [if_pos h0]
    refine Ends.ret (.int (((a * 100000 + b) * 10000000000 + c * 100000 + d) % B)) S4 ?_ ⟨⟨_, rfl, Int.emod_nonneg _ (by omega), Int.emod_lt_of_pos _ h0⟩, d4, ((f1.trans f2).trans f3).trans f4⟩
    simp only [evE, evEs, List.getElem?_cons_zero, List.getElem?_cons_succ, R.bind_ok, pw, pw2, e1, e2, e3, e4, m1, m2, ad1, biR_int, md]
def IsNat (b : Nat) (x : Z.D) (_ : Sto) : Prop := ∃ t : Nat, x = .int t ∧ t < b
theorem how_often_ok (G : Gr p c iv) {n j k : Nat} (hn : 3 ≤ n) {S : Sto} (hd : Dl j k S) : Dr j k n "_law_how_often" [.lst k, .int p] S (IsNat (2 ^ 80)) :=
  Dr.by (m := 2) (fun n S => r__law_how_often n _ S) rfl rfl (by omega) fun n hn => by
    have p1 := G.p1
    have p2 := G.p2
    unfold b__law_how_often
    show Ends (run co pf n) co _ [some (.lst k), some (.int p)] _ _
    obtain ⟨x, S1, e1, ⟨a, rfl, a0, a1⟩, d1, f1⟩ := any_ok (n := n) (by omega) hd (b := 100) (by omega) (by omega)
    obtain ⟨x, S2, e2, ⟨b, rfl, b0, b1⟩, d2, f2⟩ := wide_ok (n := n) (by omega) d1 (B := 1000000) (by omega)
    obtain ⟨x, S3, e3, ⟨d, rfl, c0, c1⟩, d3, f3⟩ := wide_ok (n := n) (by omega) d2 (B := 1000000000000) (by omega)
    have pw : ∀ S, binR .pow (.int 10) (.int 6) S = .ok (.int 1000000) S := fun S => rfl
    have pw2 : ∀ S, binR .pow (.int 10) (.int 12) S = .ok (.int 1000000000000) S := fun S => rfl
    have m1 : ∀ S, binR .mul (.int p) (.int p) S = .ok (.int (p * p)) S := bin_mul (mkL (by omega) (by omega))
    have hm : (S3 ++ [[Z.D.int 0, .int 1, .int 2, .int a, .int p, .int (p * p), .int b, .int d]])[S3.length]? = some [Z.D.int 0, .int 1, .int 2, .int a, .int p, .int (p * p), .int b, .int d] := at_end
    obtain ⟨x, S4, e4, hx, d4, f4⟩ := of_ok (n := n) (by omega) (d3.app _) hm (by have := d3.jlt; omega) (by have := d3.klt; omega) (by simp) (by simp)
    refine Ends.ret x S4 ?_ ⟨?_, d4, ((f1.trans f2).trans f3).trans ((Fr.app _).trans f4)⟩
    · simp only [evE, evEs, List.getElem?_cons_zero, List.getElem?_cons_succ, R.bind_ok, pw, pw2, e1, e2, e3, m1]
      rw [newL_ok (by simp)]
      simp only [R.bind_ok, e4]
    · have hpp : 0 ≤ p * p ∧ p * p < 1000000000000 := by
        constructor
        · exact Int.mul_nonneg (by omega) (by omega)
        · have : p * p ≤ 97 * 97 := Int.mul_le_mul p2 p2 (by omega) (by omega)
          omega
      have key : ∃ v : Int, x = .int v ∧ 0 ≤ v ∧ v < 1000000000000 := by
        simp only [List.mem_cons, List.not_mem_nil, or_false] at hx
        rcases hx with rfl | rfl | rfl | rfl | rfl | rfl | rfl | rfl
        · exact ⟨0, rfl, by omega, by omega⟩
        · exact ⟨1, rfl, by omega, by omega⟩
        · exact ⟨2, rfl, by omega, by omega⟩
        · exact ⟨a, rfl, by omega, by omega⟩
        · exact ⟨p, rfl, by omega, by omega⟩
        · exact ⟨p * p, rfl, hpp.1, hpp.2⟩
        · exact ⟨b, rfl, by omega, by omega⟩
        · exact ⟨d, rfl, by omega, by omega⟩
      obtain ⟨v, rfl, v0, v1⟩ := key
      refine ⟨v.toNat, by rw [show ((v.toNat : Nat) : Int) = v by omega], Nat.lt_of_lt_of_le (show v.toNat < 1000000000000 by omega) (by decide)⟩
end
end Z.K01
end
section
set_option Elab.async false
set_option linter.all false
set_option autoImplicit false
set_option maxRecDepth 100000
set_option maxHeartbeats 8000000
namespace Z.K01
open PySem Z M
section
variable {p c : Int} {iv : List Int}
theorem seq_at {v : Int} {n : Nat} (h0 : 0 ≤ v) (h1 : v < n) : seqIndex? v n = some v.toNat := by
  unfold seqIndex?
  simp only [show ¬ v < 0 by omega, if_false, decide_eq_true h0, decide_eq_true h1, Bool.and_self, if_true]
theorem erase_perm {l : List Z.D} {i : Nat} (h : i < l.length) : (l[i] :: l.eraseIdx i).Perm l := by
  have e1 : l = l.take i ++ l[i] :: l.drop (i + 1) := by rw [← List.drop_eq_getElem_cons h, List.take_append_drop]
  rw [List.eraseIdx_eq_take_drop_succ]
  conv => rhs; rw [e1]
  exact List.perm_middle.symm
theorem mixed_ok {n j k m : Nat} (hn : 2 ≤ n) {S : Sto} (hd : Dl j k S) {xs : List Z.D} (hm : S[m]? = some xs) (hl : xs.length ≤ 1000) : Dr j k n "_law_mixed" [.lst k, .lst m] S fun x S' => ∃ (q : Nat) (ys : List Z.D), x = .lst q ∧ S'[q]? = some ys ∧ ys.Perm xs ∧ q ≠ j ∧ q ≠ k :=
  Dr.by (m := 1) (fun n S => r__law_mixed n _ S) rfl rfl (by omega) fun n hn => by
    unfold b__law_mixed
    show Ends (run co pf n) co _ [some (.lst k), some (.lst m), none, none, none] _ _
    refine Ends.par [.lst S.length, .lst (S.length + 1)] (S ++ [xs] ++ [[]]) [some (.lst k), some (.lst m), some (.lst S.length), some (.lst (S.length + 1)), none] ?_ (by simp [setAll]) ?_
    · simp only [evE, evEs, List.getElem?_cons_zero, List.getElem?_cons_succ, R.bind_ok, biR_lstL hm]
      rw [newL_ok (by omega)]
      simp only [R.bind_ok]
      rw [newL_ok (by simp)]
      simp
    have jl := hd.jlt
    have kl := hd.klt
    generalize ha : S.length = a
    have bl : ∀ S', Fr j k S S' → S'[m]? = some xs ∨ m = j ∨ m = k := fun S' f => by
      by_cases h1 : m = j
      · exact .inr (.inl h1)
      · by_cases h2 : m = k
        · exact .inr (.inr h2)
        · exact .inl (f.same m h1 h2 xs hm)
    have hm2 : (S ++ [xs] ++ [[]])[m]? = some xs := by rw [List.append_assoc]; exact append_self_none _ _ hm
    have hla : (S ++ [xs] ++ [[]])[a]? = some xs := by
      rw [← ha]; exact append_self_none _ _ at_end
    have hla1 : (S ++ [xs] ++ [[]])[a + 1]? = some [] := by
      have : (S ++ [xs]).length = a + 1 := by simp [ha]
      rw [← this]; exact at_end
    refine Ends.fo2 [] (fun i : Nat => Z.D.int i) (List.range xs.length) (S ++ [xs] ++ [[]]) (evI_r1 (by simp only [evE, evEs, List.getElem?_cons_zero, List.getElem?_cons_succ, R.bind_ok, biR_lenL hm2]) (by omega))
      (fun pre ρ S' => ∃ (left found : List Z.D) (o4 : Option Z.D), ρ = [some (.lst k), some (.lst m), some (.lst a), some (.lst (a + 1)), o4] ∧ S'[a]? = some left ∧ S'[a + 1]? = some found ∧ left.length + pre.length = xs.length ∧ (found ++ left).Perm xs ∧ Dl j k S' ∧ Fr j k S S')
      ⟨xs, [], none, rfl, hla, hla1, by simp, by simp, (hd.app _).app _, (Fr.app _).trans (Fr.app _)⟩ ?_ (fun _ _ _ => rfl) ?_
    · rintro pre i post ρ S' hi ⟨left, found, o4, rfl, h1, h2, h3, h4, dd, ff⟩
      obtain ⟨hi1, hi2⟩ := mem_range_split hi
      refine ⟨rfl, [some (.lst k), some (.lst m), some (.lst a), some (.lst (a + 1)), some (.int i)], by simp [asg], ?_⟩
      obtain ⟨x, S2, e2, ⟨v, rfl, v0, v1⟩, d2, f2⟩ := any_ok (n := n) (by omega) dd (b := left.length) (by omega) (by omega)
      have g1 := f2.same a (by omega) (by omega) _ h1
      have g2 := f2.same (a + 1) (by omega) (by omega) _ h2
      have hv : v.toNat < left.length := by omega
      have fl : found.length + left.length = xs.length := by rw [← List.length_append]; exact h4.length_eq
      have p1 : mtR .popAt (.lst a) [.int v] S2 = .ok (left[v.toNat]) (S2.set a (left.eraseIdx v.toNat)) := by
        unfold mtR
        simp only [g1]
        rw [if_pos (by omega)]
        simp only [seq_at v0 v1, List.getElem?_eq_getElem hv]
      have g3 : (S2.set a (left.eraseIdx v.toNat))[a + 1]? = some found := by rw [List.getElem?_set_ne (by omega)]; exact g2
      have hs : found.length < sizeLine := Nat.lt_of_lt_of_le (show found.length < 100000 by omega) (by decide)
      have p2 : mtR .append (.lst (a + 1)) [left[v.toNat]] (S2.set a (left.eraseIdx v.toNat)) = .ok .non ((S2.set a (left.eraseIdx v.toNat)).set (a + 1) (found ++ [left[v.toNat]])) := by
        unfold mtR
        simp only [g3]
        rw [if_pos hs]
      refine Nx.ex .non ((S2.set a (left.eraseIdx v.toNat)).set (a + 1) (found ++ [left[v.toNat]])) ?_ (Nx.nil ⟨left.eraseIdx v.toNat, found ++ [left[v.toNat]], _, rfl, ?_, List.getElem?_set_self (get_lt g3), ?_, ?_, ?_, ?_⟩)
      · simp only [evE, evEs, List.getElem?_cons_zero, List.getElem?_cons_succ, R.bind_ok, biR_lenL h1, e2, p1, p2]
      · rw [List.getElem?_set_ne (by omega)]; exact List.getElem?_set_self (get_lt g1)
      · rw [List.length_eraseIdx_of_lt hv, List.length_append, List.length_singleton]; omega
      · refine List.Perm.trans ?_ h4
        rw [List.append_assoc]
        refine List.Perm.append_left found ?_
        exact erase_perm hv
      · exact (d2.set (by omega) (by omega) _).set (by omega) (by omega) _
      · exact ((ff.trans f2).set (by omega) _).set (by omega) _
    · rintro ρ1 S' ⟨left, found, o4, rfl, h1, h2, h3, h4, dd, ff⟩
      rw [List.length_range] at h3
      have : left = [] := List.length_eq_zero_iff.mp (by omega)
      subst this
      rw [List.append_nil] at h4
      exact Ends.ret (.lst (a + 1)) S' (by simp [evE]) ⟨⟨a + 1, found, rfl, h2, h4, by omega, by omega⟩, dd, ff⟩
theorem lcF_none {gd : Gd} {body : Z.D → Sto → R (Option Z.D)} {S : Sto} (hc : chk gd S = true) : ∀ (l : List Z.D), (∀ a ∈ l, body a S = .ok none S) → lcF gd body l S = .ok [] S
  | [], _ => by simp [lcF, hc]
  | a :: l, h => by
    simp only [lcF, hc, if_true]
    rw [h a List.mem_cons_self]
    simp only [R.bind_ok]
    rw [lcF_none hc l fun b hb => h b (List.mem_cons_of_mem _ hb)]
    rfl
/-- values of ints and tuples, so deep at most -/
def Pv : Nat → Z.D → Prop
  | 0, d => ∃ i : Int, d = .int i
  | n + 1, d => (∃ i : Int, d = .int i) ∨ ∃ xs : List Z.D, d = .tup xs ∧ xs.length ≤ 100000 ∧ ∀ x ∈ xs, Pv n x
theorem Pv.int (n : Nat) (i : Int) : Pv n (.int i) := by
  cases n with
  | zero => exact ⟨i, rfl⟩
  | succ n => exact .inl ⟨i, rfl⟩
theorem pures_all : ∀ xs : List Z.D, (∀ x ∈ xs, x.pure = true) → pures xs = true
  | [], _ => rfl
  | x :: xs, h => by simp only [pures, h x List.mem_cons_self, pures_all xs fun y hy => h y (List.mem_cons_of_mem _ hy), Bool.and_self]
theorem Pv.pure : ∀ {n : Nat} {d : Z.D}, Pv n d → d.pure = true
  | 0, d, h => by obtain ⟨i, rfl⟩ := h; rfl
  | n + 1, d, h => by
    rcases h with ⟨i, rfl⟩ | ⟨xs, rfl, _, h⟩
    · rfl
    · simp only [D.pure]
      exact pures_all xs fun x hx => (h x hx).pure
theorem Pv.up : ∀ {n : Nat} {d : Z.D}, Pv n d → Pv (n + 1) d
  | 0, d, h => .inl h
  | n + 1, d, h => by
    rcases h with h | ⟨xs, e, l, h⟩
    · exact .inl h
    · exact .inr ⟨xs, e, l, fun x hx => (h x hx).up⟩
theorem same_ok : ∀ (m : Nat) {x : Z.D}, Pv m x → Rc (m + 1) "_law_same" [x, x] (.bl true)
  | 0, x, h => by
    obtain ⟨i, rfl⟩ := h
    exact Rt.by (fun n S => r__law_same n _ S) rfl (by simp [pures, D.pure]) rfl fun n hn => by
      unfold b__law_same
      show Ends (run co pf n) co _ [some (.int i), some (.int i), none] _ _
      refine Ends.iteF [] (by simp [evT, evE, evEs, truthR]) (Ends.iteF [] (by simp [evT, evE, cmpR, truthR]) (Ends.iteF [] (by simp [evT, evE, cmpR, truthR]) (Ends.iteF [] (by simp [evT, evE, evEs, truthR]) (Ends.ret (.bl true) [] ?_ rfl))))
      simp [evE, evEs, truthR, cmpR, eqR_int]
  | m + 1, x, h => by
    rcases h with ⟨i, rfl⟩ | ⟨xs, rfl, hl, h⟩
    · exact (same_ok 0 ⟨i, rfl⟩).up (by omega)
    have px : (D.tup xs).pure = true := Pv.pure (n := m + 1) (.inr ⟨xs, rfl, hl, h⟩)
    exact Rt.by (fun n S => r__law_same n _ S) rfl (by simp [pures, px]) rfl fun n hn => by
      unfold b__law_same
      show Ends (run co pf n) co _ [some (.tup xs), some (.tup xs), none] _ _
      refine Ends.iteT [] (by simp [evT, evE, evEs, truthR]) (Ends.iteF [] (by simp [evT, evE, evEs, cmpR, truthR, eqR_int]) ?_)
      have lc : evE (run co pf n) co (.lc (.v 2) (.nm 2) (.range1 (.bi .len (.cons (.v 1) .nil))) (.not (.val (.call "_law_same" (.cons (.ix (.v 0) (.v 2)) (.cons (.ix (.v 1) (.v 2)) .nil))))) [2]) [some (.tup xs), some (.tup xs), none] [] = .ok (.lst 0) [[]] := by
        have h0 := evE_lcF (Γ := run co pf n) (Co := co) (ρ := [some (.tup xs), some (.tup xs), none]) (S := []) (S1 := []) (gd := []) (elt := .v 2) (tg := .nm 2) (it := .range1 (.bi .len (.cons (.v 1) .nil))) (t := .not (.val (.call "_law_same" (.cons (.ix (.v 0) (.v 2)) (.cons (.ix (.v 1) (.v 2)) .nil))))) (own := [2])
          (fun i : Nat => Z.D.int i) (fun i => Z.D.int i) (fun _ => false) (List.range xs.length) (evI_r1 (by simp [evE, evEs]) (by omega)) rfl (by simp; omega) fun i hi => by
            have hi' := List.mem_range.mp hi
            refine ⟨[some (.tup xs), some (.tup xs), some (.int i)], by simp [asg, wipeR], ?_, fun h => by cases h⟩
            have ix : ∀ S, ixR (.tup xs) (.int (i : Int)) S = .ok xs[i] S := fun S => ixT_nat (List.getElem?_eq_getElem hi')
            have hc := (same_ok m (h xs[i] (List.getElem_mem hi'))).call (n := n) (by omega)
            simp only [evT, evE, evEs, List.getElem?_cons_zero, List.getElem?_cons_succ, R.bind_ok, ix, hc, truthR, optR_some, Bool.not_true]
        rw [h0]
        simp
      refine Ends.ret (.bl true) [[]] ?_ rfl
      rw [evE, evE]
      simp only [evEs]
      rw [lc]
      simp only [R.bind_ok]
      rw [biR_lenL (xs := []) rfl]
      simp [evE, cmpR, eqR_int]
/-- each of the pairs is the same twice -/
theorem all_ends {n m q : Nat} (hn : m + 1 ≤ n) {S : Sto} {l : List Z.D} (hq : S[q]? = some (l.map fun x => Z.D.tup [x, x])) (hl : l.length ≤ 1000) (h : ∀ x ∈ l, Pv m x) :
    Ends (run co pf n) co b__law_all [some (.lst q), none, none] S fun x _ => x = .bl true := by
  unfold b__law_all
  have lc : evE (run co pf n) co (.lc (.v 1) (.tup (.cons (.nm 1) (.cons (.nm 2) .nil))) (.e (.v 0)) (.not (.val (.call "_law_same" (.cons (.v 1) (.cons (.v 2) .nil))))) [1, 2]) [some (.lst q), none, none] S = .ok (.lst S.length) (S ++ [[]]) := by
    have h0 := evE_lcF (Γ := run co pf n) (Co := co) (ρ := [some (.lst q), none, none]) (S := S) (S1 := S) (gd := [(q, l.map fun x => Z.D.tup [x, x])]) (elt := .v 1) (tg := .tup (.cons (.nm 1) (.cons (.nm 2) .nil))) (it := .e (.v 0)) (t := .not (.val (.call "_law_same" (.cons (.v 1) (.cons (.v 2) .nil))))) (own := [1, 2])
      (fun x : Z.D => Z.D.tup [x, x]) (fun x => x) (fun _ => false) l (by simp [evI, evE, hq]) (chk_at hq) (by omega) fun x hx => by
        refine ⟨[some (.lst q), some x, some x], by simp [asg, asgs, wipeR], ?_, fun h => by cases h⟩
        have hc := (same_ok m (h x hx)).call (n := n) hn
        simp only [evT, evE, evEs, List.getElem?_cons_zero, List.getElem?_cons_succ, R.bind_ok, hc, truthR, optR_some, Bool.not_true]
    rw [h0]
    simp
  refine Ends.ret (.bl true) (S ++ [[]]) ?_ rfl
  rw [evE, evE]
  simp only [evEs]
  rw [lc]
  simp only [R.bind_ok]
  rw [biR_lenL (xs := []) at_end]
  simp [evE, cmpR, eqR_int]
end
end Z.K01
end
section
set_option Elab.async false
set_option linter.all false
set_option autoImplicit false
set_option maxRecDepth 100000
set_option maxHeartbeats 8000000
namespace Z.K01
open PySem Z M
section
variable {p c : Int} {iv : List Int}
theorem snoc_of {a : Row} (h : a ≠ []) : ∃ a' x, a = a' ++ [x] := ⟨a.dropLast, a.getLast h, (List.dropLast_concat_getLast h).symm⟩
theorem can_last {a : Row} {x : El} (h : Can p (a ++ [x])) : x ≠ zr ∧ rd p x = x := ⟨fun e => h.last (by simp [e]), h.red x (by simp)⟩
/-- no two things other than nought make nought -/
theorem no_zero (G : Gr p c iv) {x y : El} (hx : rd p x = x) (hx0 : x ≠ zr) (hy : rd p y = y) (h : Q p (ml c x y) zr) : y = zr := by
  have i1 := bk_inv G hx hx0
  have a1 := (Q.refl (x := bk p c iv x) (p := p)).ml (c := c) h
  rw [ml_zr, ← ml_assoc, ml_comm (x := bk p c iv x)] at a1
  have a2 := i1.ml (c := c) (Q.refl (x := y))
  rw [one_ml] at a2
  have a3 := (a2.symm.trans a1).rd_eq
  rw [hy] at a3
  rw [a3]; simp [rd]
theorem lm_top (a b : Row) (x y : El) : lm c (a ++ [x]) (M.co (b ++ [y])) (a.length + b.length) = ml c x y := by
  rw [lm_snoc]
  simp only [sad, sXn, sml]
  rw [lm_ge (n := b.length + 1) (fun j hj => co_ge (by simp; omega)) a _ (by omega), zr_ad, if_pos (by omega), Nat.add_sub_cancel_left, co_snoc]
  simp
theorem mulR_len_eq (G : Gr p c iv) {a b : Row} (ca : Can p a) (cb : Can p b) (ha : a ≠ []) (hb : b ≠ []) : (mulR p c a b).length = a.length + b.length - 1 := by
  obtain ⟨a', x, rfl⟩ := snoc_of ha
  obtain ⟨b', y, rfl⟩ := snoc_of hb
  have hx := can_last ca
  have hy := can_last cb
  have up := mulR_len (p := p) (c := c) (a := a' ++ [x]) (b := b' ++ [y])
  simp only [List.length_append, List.length_singleton] at up ⊢
  by_cases hl : a'.length + b'.length < (mulR p c (a' ++ [x]) (b' ++ [y])).length
  · omega
  · exfalso
    have h := mulR_co (p := p) (c := c) (a := a' ++ [x]) (b := b' ++ [y]) (a'.length + b'.length)
    rw [co_ge (by omega), lm_top] at h
    exact hy.1 (no_zero G hx.2 hx.1 hy.2 h.symm)
/-- a product by one of its factors -/
theorem div_mul (G : Gr p c iv) {a b : Row} (ca : Can p a) (cb : Can p b) (hb : b ≠ []) : qut p c (mulR p c a b) b = a ∧ rst p c (mulR p c a b) b = [] :=
  qr_of G cb hb ⟨ca, can_nil, List.length_pos_iff.mpr hb, mulR_co.trans (PE.of_eq (by funext i; simp [sad, co_nil, ad_zr]))⟩
theorem cj_zero (G : Gr p c iv) {x : El} (hx : rd p x = x) (h : rd p (cj c x) = zr) : x = zr := by
  have h1 : Q p (cj c x) (cj c zr) := rd_Q (h.trans (by simp [cj, rd]))
  have h2 := h1.cj (c := c)
  have e : ∀ y : El, cj c (cj c y) = y := fun y => by simp only [cj]; ext <;> simp <;> grind
  rw [e, e] at h2
  have := h2.rd_eq
  rw [hx] at this
  rw [this]; simp [rd]
theorem co_cjR (a : Row) : PE p (M.co (cjR p c a)) (cjS c (M.co a)) := fun i => by
  rw [show cjR p c a = (a.map (cj c)).map (rd p) by simp [cjR, List.map_map, Function.comp_def]]
  refine (co_map_rd _ i).trans (Q.of_eq ?_)
  rw [co_map_cj]
theorem cjR_can (G : Gr p c iv) {a : Row} (ca : Can p a) : Can p (cjR p c a) := by
  refine ⟨fun x hx => ?_, fun h => ?_⟩
  · simp only [cjR, List.mem_map] at hx
    obtain ⟨y, _, rfl⟩ := hx
    exact G.rr _
  · simp only [cjR, List.getLast?_map, Option.map_eq_some_iff] at h
    obtain ⟨y, hy, h⟩ := h
    have := cj_zero G (ca.red y (List.mem_of_getLast? hy)) h
    exact ca.last (by rw [hy, this])
theorem cjR_len (a : Row) : (cjR p c a).length = a.length := by simp [cjR]
/-- the conjugates of a product -/
theorem cjR_mul (G : Gr p c iv) {a b : Row} : cjR p c (mulR p c a b) = mulR p c (cjR p c a) (cjR p c b) := by
  refine can_eq (cjR_can G (mulR_can G.pp)) (mulR_can G.pp) (f := lm c (a.map (cj c)) (M.co (b.map (cj c)))) ?_ ?_
  · refine (co_cjR _).trans ((mulR_co.cjS).trans (PE.of_eq ?_))
    rw [co_map_cj, cj_lm]
  · refine mulR_co.trans ?_
    have e1 : PE p (M.co (cjR p c a)) (M.co (a.map (cj c))) := by rw [co_map_cj]; exact co_cjR a
    have e2 : PE p (M.co (cjR p c b)) (M.co (b.map (cj c))) := by rw [co_map_cj]; exact co_cjR b
    exact (e1.lm1 _).trans (e2.lm _)
/-! ### a row times its conjugate -/
def tr (c : Int) (x : El) : Int := 2 * x.1 - c * x.2
theorem tr_eq (x y : El) : ad (ml c (cj c x) y) (ml c x (cj c y)) = (tr c (ml c x (cj c y)), 0) := by
  simp only [ad, ml, cj, tr]; ext <;> simp <;> grind
theorem nm_eq (x : El) : ml c x (cj c x) = (nm c x, 0) := by
  simp only [ml, cj, nm]; ext <;> simp <;> grind
theorem Q_tr {x y : El} (h : Q p x y) : Q p (tr c x, 0) (tr c y, 0) := by
  obtain ⟨k, l, h1, h2⟩ := h
  exact ⟨2 * k - c * l, 0, by simp only [tr, h1, h2]; grind, by simp⟩
/-- what is gathered of the product up to a place -/
def nmS (c : Int) (a : Row) (x : El) (t : Nat) : Sq := fun i => ad (sad (sad (lm c a (M.co (a.map (cj c)))) (sXn a.length (sml c (cj c x) (M.co (a.take t))))) (sXn a.length (sml c x (M.co ((a.take t).map (cj c))))) i) (if i = a.length + a.length then (nm c x, 0) else zr)
theorem nmS_zero (a : Row) (x : El) : nmS c a x 0 = fun i => ad (lm c a (M.co (a.map (cj c))) i) (if i = a.length + a.length then (nm c x, 0) else zr) := by
  funext i
  simp only [nmS, List.take_zero, List.map_nil, part_nil]
theorem nmS_step (a : Row) (x : El) {t : Nat} (ht : t < a.length) : nmS c a x (t + 1) = fun i => if i = a.length + t then ad (nmS c a x t i) (tr c (ml c x (cj c (M.co a t))), 0) else nmS c a x t i := by
  funext i
  have e1 : a.take (t + 1) = a.take t ++ [M.co a t] := by rw [co_lt ht]; exact take_snoc (List.getElem?_eq_getElem ht)
  have l1 : (a.take t).length = t := by simp; omega
  simp only [nmS]
  rw [e1, List.map_append, List.map_singleton, part_snoc, part_snoc, List.length_map, l1]
  simp only [sad]
  rw [← tr_eq]
  generalize sXn a.length (sml c (cj c x) (M.co (a.take t))) i = u1
  generalize sXn a.length (sml c x (M.co ((a.take t).map (cj c)))) i = u2
  generalize lm c a (M.co (a.map (cj c))) i = u3
  generalize (if i = a.length + a.length then (nm c x, (0 : Int)) else zr) = u4
  split
  · simp only [ad]; ext <;> simp <;> omega
  · rfl
theorem nmS_end (a : Row) (x : El) : nmS c a x a.length = lm c (a ++ [x]) (M.co ((a ++ [x]).map (cj c))) := by
  have e1 : lm c a (M.co (a.map (cj c) ++ [cj c x])) = sad (lm c a (M.co (a.map (cj c)))) (sXn a.length (sml c (cj c x) (M.co a))) := by
    rw [pr_comm, lm_snoc, List.length_map, pr_comm (a.map (cj c)) a]
  have e2 := part_snoc (c := c) (lm c a (M.co (a.map (cj c) ++ [cj c x]))) a.length x (cj c x) (a.map (cj c))
  rw [List.map_append, List.map_singleton, lm_snoc, e2]
  funext i
  simp only [nmS, List.take_length, List.length_map]
  rw [← e1, nm_eq]
  split
  · rfl
  · rw [ad_zr]
/-- the sums of norms and traces -/
theorem norm_row (G : Gr p c iv) {a : Row} {F : List Int} (hF : F.length = 2 * a.length - 1) (h : PE p (M.co (em F)) (lm c a (M.co (a.map (cj c))))) : trim ((em F).map (rd p)) = mulR p c a (cjR p c a) := by
  refine mulR_eq G.pp (by rw [em_len, hF, cjR_len]; omega) (h.trans ?_)
  refine PE.lm ?_ a
  rw [co_map_cj]
  exact (co_cjR a).symm
end
end Z.K01
end
section
set_option Elab.async false
set_option linter.all false
set_option autoImplicit false
set_option maxRecDepth 100000
set_option maxHeartbeats 8000000
namespace Z.K01
open PySem Z M
section
variable {p c : Int} {iv : List Int}
theorem mul2n (n : Nat) (S : Sto) : binR .mul (.int 2) (.int (n : Int)) S = .ok (.int ((2 * n : Nat) : Int)) S := by
  rw [bin_mul (mkL (by decide) (by decide)), show (2 : Int) * (n : Int) = ((2 * n : Nat) : Int) by omega]
theorem bin_add (i j : Int) (S : Sto) : binR .add (.int i) (.int j) S = .ok (.int (i + j)) S := rfl
theorem bin_sub (i j : Int) (S : Sto) : binR .sub (.int i) (.int j) S = .ok (.int (i - j)) S := rfl
theorem bin_mod (G : Gr p c iv) (i : Int) (S : Sto) : binR .mod (.int i) (.int p) S = .ok (.int (i % p)) S := by
  simp only [binR, intB]; rw [if_pos G.pp]
theorem co_take {a : Row} {s t : Nat} (h : t < s) : M.co (a.take s) t = M.co a t := by
  by_cases ht : t < a.length
  · rw [co_lt (by simp; omega), co_lt ht]; simp
  · rw [co_ge (by simp; omega), co_ge (by omega)]
theorem add_at {F : List Int} {f : Sq} {i : Nat} {v : Int} {e : El} (hi : i < F.length) (h : PE p (M.co (em F)) f) (he : Q p (v, 0) e) : PE p (M.co (em (F.set i (F.getD i 0 + v)))) (fun k => if k = i then ad (f k) e else f k) := by
  intro k
  rw [em_set, co_set (by rw [em_len]; exact hi)]
  dsimp only
  split
  · rename_i hk
    subst hk
    have h1 := h k
    rw [co_em] at h1
    have h2 := h1.ad he
    rwa [show ad (F.getD k 0, 0) (v, 0) = (F.getD k 0 + v, 0) by simp [ad]] at h2
  · exact h k
theorem whole_norm_ok (G : Gr p c iv) {a : Row} (ca : Can p a) (ha : a.length ≤ 500) : Rc 2 "_law_whole_norm" [dF p c iv, dR a] (dR (mulR p c a (cjR p c a))) :=
  Rt.by (fun n S => r__law_whole_norm n _ S) rfl (by simp [pures, dF_pure]) (by simp) fun n hn => by
    unfold b__law_whole_norm
    show Ends (run co pf n) co _ [some (dF p c iv), some (dR a), none, none, none, none, none] _ _
    generalize hm : 2 * a.length - 1 = m
    have bl : ∀ S, biR .len [dR a] S = .ok (.int a.length) S := fun S => by simp [dR]
    have e2 : ∀ S, evE (run co pf n) co (.bi .max (.cons (.bin .sub (.bin .mul (.c (.int 2)) (.bi .len (.cons (.v 1) .nil))) (.c (.int 1))) (.cons (.c (.int 0)) .nil))) [some (dF p c iv), some (dR a), none, none, none, none, none] S = .ok (.int (m : Int)) S := fun S => by
      simp only [evE, evEs, List.getElem?_cons_zero, List.getElem?_cons_succ, R.bind_ok, bl, mul2n, bin_sub, biR_max]
      congr 2
      split <;> omega
    have ez := ezI (Γ := run co pf n) (m := m) (by omega) [some (dF p c iv), some (dR a), none, none, none, none, none] [] e2
    have z : List.replicate m (Z.D.int 0) = (List.replicate m (0 : Int)).map Z.D.int := by simp
    generalize hZ : List.replicate m (Z.D.int 0) = Z0 at ez z
    refine Ends.set (.lst 1) [[Z.D.int 0], Z0] ez ?_
    show Ends (run co pf n) co _ [some (dF p c iv), some (dR a), some (.lst 1), none, none, none, none] _ _
    have V0 : M.co (em (List.replicate m 0)) = lm c (a.take 0) (M.co ((a.take 0).map (cj c))) := by
      funext k
      rw [co_em, List.take_zero]
      have : (List.replicate m (0 : Int)).getD k 0 = 0 := by
        rw [List.getD_eq_getElem?_getD, List.getElem?_replicate]; split <;> rfl
      rw [this]; rfl
    refine Ends.fo2 [] (fun i : Nat => Z.D.int i) (List.range a.length) [[Z.D.int 0], Z0] (evI_r1 (by simp [evE, evEs, bl]) (by omega))
      (fun pre ρ S => ∃ (F : List Int) (o3 o4 o5 : Option Z.D), ρ = [some (dF p c iv), some (dR a), some (.lst 1), o3, o4, o5, none] ∧ S = [[Z.D.int 0], F.map Z.D.int] ∧ F.length = m ∧ PE p (M.co (em F)) (lm c (a.take pre.length) (M.co ((a.take pre.length).map (cj c)))))
      ⟨_, none, none, none, rfl, by rw [← z], by simp, PE.of_eq V0⟩ ?_ (fun _ _ _ => rfl) ?_
    · rintro pre s post ρ S hs ⟨F, o3, o4, o5, rfl, rfl, h1, hV⟩
      obtain ⟨hs1, hs2⟩ := mem_range_split hs
      refine ⟨rfl, [some (dF p c iv), some (dR a), some (.lst 1), some (.int s), o4, o5, none], by simp [asg], ?_⟩
      have xr := rd_co G.pp ca.red s
      have sx := G.sm xr
      have ix : ∀ S, ixR (dR a) (.int (s : Int)) S = .ok (dE (M.co a s)) S := fun S => ixT_nat (row_get hs2)
      have c1 := (law_norm_ok (p := p) (c := c) (iv := iv) G.pp G.ca G.cb sx).call (n := n) (by omega)
      have tl : (a.take s).length = s := by simp; omega
      have hco : M.co a s = a[s] := co_lt hs2
      generalize hx : M.co a s = x at *
      refine Nx.seq _ [[Z.D.int 0], (F.set (2 * s) (F.getD (2 * s) 0 + nm c x % p)).map Z.D.int] (augix_nat (n := 1) (j := 2 * s) (ls := F) (v := nm c x % p) (by simp [evE]) (by simp only [evE, List.getElem?_cons_zero, List.getElem?_cons_succ, R.bind_ok, mul2n]) ?_ rfl (by omega) rfl) ?_
      · simp only [evE, evEs, List.getElem?_cons_zero, List.getElem?_cons_succ, R.bind_ok, ix, c1]
      have hV1 : PE p (M.co (em (F.set (2 * s) (F.getD (2 * s) 0 + nm c x % p)))) (nmS c (a.take s) x 0) := by
        refine (add_at (e := (nm c x, 0)) (by omega) hV ?_).trans (PE.of_eq ?_)
        · exact Q_int (Int.emod_emod_of_dvd _ (Int.dvd_refl p))
        · rw [nmS_zero, tl, ← hs1]
          funext k
          by_cases hk : k = 2 * s
          · rw [if_pos hk, if_pos (by omega)]
          · rw [if_neg hk, if_neg (by omega), ad_zr]
      have hF1 : (F.set (2 * s) (F.getD (2 * s) 0 + nm c x % p)).length = m := by simpa using h1
      generalize F.set (2 * s) (F.getD (2 * s) 0 + nm c x % p) = F1 at *
      refine Nx.fo [] (fun i : Nat => Z.D.int i) (List.range s) [[Z.D.int 0], F1.map Z.D.int] (evI_r1 (by simp [evE]) (by omega))
        (fun pre2 ρ S => ∃ (F : List Int) (o4 o5 : Option Z.D), ρ = [some (dF p c iv), some (dR a), some (.lst 1), some (.int s), o4, o5, none] ∧ S = [[Z.D.int 0], F.map Z.D.int] ∧ F.length = m ∧ PE p (M.co (em F)) (nmS c (a.take s) x pre2.length))
        ⟨F1, o4, o5, rfl, rfl, hF1, hV1⟩ ?_ (fun _ _ _ => rfl) ?_
      · rintro pre2 t post2 ρ S ht ⟨F, o4, o5, rfl, rfl, h1, hV⟩
        obtain ⟨ht1, ht2⟩ := mem_range_split ht
        refine ⟨rfl, [some (dF p c iv), some (dR a), some (.lst 1), some (.int s), some (.int t), o5, none], by simp [asg], ?_⟩
        have iy : ∀ S, ixR (dR a) (.int (t : Int)) S = .ok (dE (M.co a t)) S := fun S => ixT_nat (row_get (by omega))
        have c2 := (law_turned_ok (c := c) (iv := iv) G.pp G.ca G.cb (M.co a t)).call (n := n) (by omega)
        have c3 := (law_by_ok (p := p) (c := c) (iv := iv) G.pp G.ca G.cb sx (y := rd p (cj c (M.co a t)))).call (n := n) (by omega)
        have hb : Q p (rd p (ml c x (rd p (cj c (M.co a t))))) (ml c x (cj c (M.co a t))) := Q.rd.trans (Q.refl.ml Q.rd)
        generalize rd p (ml c x (rd p (cj c (M.co a t)))) = b at c3 hb
        refine Nx.set (dE b) [[Z.D.int 0], F.map Z.D.int] (by simp only [evE, evEs, List.getElem?_cons_zero, List.getElem?_cons_succ, R.bind_ok, ix, iy, c2, c3]) ?_
        show Nx (run co pf n) co _ [some (dF p c iv), some (dR a), some (.lst 1), some (.int s), some (.int t), some (dE b), none] _ _
        have gj : ∀ S, binR .add (.int (s : Int)) (.int (t : Int)) S = .ok (.int ((s + t : Nat) : Int)) S := fun S => by simp [binR, intB]
        have m1 : ∀ S, binR .mul (.int 2) (.int b.1) S = .ok (.int (2 * b.1)) S := bin_mul (mkL (by decide) (by decide))
        have m2 : ∀ S, binR .mul (.int c) (.int b.2) S = .ok (.int (c * b.2)) S := bin_mul (mkL G.ca G.cb)
        have i0 : ∀ S, ixR (dE b) (.int 0) S = .ok (.int b.1) S := fun S => rfl
        have i1 : ∀ S, ixR (dE b) (.int 1) S = .ok (.int b.2) S := fun S => rfl
        have i2 : ∀ S, ixR (dF p c iv) (.int 1) S = .ok (.int c) S := fun S => rfl
        refine Nx.seq _ [[Z.D.int 0], (F.set (s + t) (F.getD (s + t) 0 + tr c b)).map Z.D.int] (augix_nat (n := 1) (j := s + t) (ls := F) (v := tr c b) (by simp [evE]) (by simp only [evE, List.getElem?_cons_zero, List.getElem?_cons_succ, R.bind_ok, gj]) ?_ rfl (by omega) rfl) (Nx.nil ⟨_, _, _, rfl, rfl, by simpa using h1, ?_⟩)
        · simp only [evE, evEs, List.getElem?_cons_zero, List.getElem?_cons_succ, R.bind_ok, i0, i1, i2, m1, m2, bin_sub]
          rfl
        · refine (add_at (by omega) hV (Q_tr hb)).trans (PE.of_eq ?_)
          rw [List.length_append, List.length_singleton, nmS_step _ _ (by omega), tl, ← ht1, co_take ht2]
      · rintro ρ1 S1 ⟨F, o4, o5, rfl, rfl, h1, hV⟩
        rw [List.length_range] at hV
        refine Nx.nil ⟨F, _, o4, o5, rfl, rfl, h1, ?_⟩
        have e3 : a.take (pre ++ [s]).length = a.take s ++ [x] := by
          rw [List.length_append, List.length_singleton, ← hs1, hco]; exact take_snoc (List.getElem?_eq_getElem hs2)
        have e4 := nmS_end (c := c) (a.take s) x
        rw [tl] at e4
        rw [e3, ← e4]
        exact hV
    · rintro ρ1 S1 ⟨F, o3, o4, o5, rfl, rfl, h1, hV⟩
      rw [List.length_range, List.take_length] at hV
      have hN := norm_row G (a := a) (by omega) hV
      have h0 := evE_lc (Γ := run co pf n) (Co := co) (ρ := [some (dF p c iv), some (dR a), some (.lst 1), o3, o4, o5, none]) (S := [[Z.D.int 0], F.map Z.D.int]) (S1 := [[Z.D.int 0], F.map Z.D.int]) (gd := [(1, F.map Z.D.int)]) (elt := .tup (.cons (.bin .mod (.bi .int (.cons (.v 6) .nil)) (.ix (.v 0) (.c (.int 0)))) (.cons (.c (.int 0)) .nil))) (tg := .nm 6) (it := .e (.v 2)) (own := [6])
        Z.D.int (fun x => dE (x % p, 0)) F (by simp [evI, evE]) (chk_at rfl) (by omega) fun x hx => by
          refine ⟨[some (dF p c iv), some (dR a), some (.lst 1), o3, o4, o5, some (.int x)], by simp [asg, wipeR], ?_⟩
          have i0 : ∀ S, ixR (dF p c iv) (.int 0) S = .ok (.int p) S := fun S => rfl
          simp only [evE, evEs, List.getElem?_cons_zero, List.getElem?_cons_succ, R.bind_ok, biR_int, i0, bin_mod G]
          exact newT_ok (by simp)
      have e1 : F.map (fun x => dE (x % p, 0)) = ((em F).map (rd p)).map dE := by
        rw [← em_map_rd]; simp [em, List.map_map, Function.comp_def]
      rw [e1] at h0
      obtain ⟨E, t⟩ := (law_trim_ok (S := [[Z.D.int 0], F.map Z.D.int, ((em F).map (rd p)).map dE]) (d := .lst 2) (r := (em F).map (rd p)) (.inr ⟨2, rfl, rfl⟩) (by simp [em]; omega)).call (n := n) (by omega) (by rfl)
      refine Ends.ret (dR (mulR p c a (cjR p c a))) ([[Z.D.int 0], F.map Z.D.int, ((em F).map (rd p)).map dE] ++ E) ?_ rfl
      rw [evE]
      simp only [evEs]
      rw [h0]
      simp only [R.bind_ok, List.length_cons, List.length_nil, Nat.zero_add, List.cons_append, List.nil_append] at t ⊢
      rw [← hN]
      exact t
end
end Z.K01
end
section
set_option Elab.async false
set_option linter.all false
set_option autoImplicit false
set_option maxRecDepth 100000
set_option maxHeartbeats 8000000
namespace Z.K01
open PySem Z M
section
variable {p c : Int} {iv : List Int}
theorem pwr_len {a d : Row} {t : Nat} (hd : d ≠ []) : (pwr p c a d t).length < d.length := by
  unfold pwr
  split
  · rename_i h; exact (Classical.choose_spec h).len
  · exact List.length_pos_iff.mpr hd
theorem qut_le (G : Gr p c iv) {L d : Row} (cL : Can p L) (cd : Can p d) (hL : L.length ≤ 1000) (hd : d.length ≤ 1000) (hd0 : d ≠ []) : (qut p c L d).length ≤ L.length := by
  have D0 := div_fn G cL cd hL hd hd0
  generalize qut p c L d = q at *
  generalize rst p c L d = r at *
  by_cases hq : q = []
  · subst hq; simp
  · obtain ⟨q', x, rfl⟩ := snoc_of hq
    obtain ⟨d', y, rfl⟩ := snoc_of hd0
    have hx := can_last D0.cq
    have hy := can_last cd
    have lr := D0.len
    simp only [List.length_append, List.length_singleton] at lr ⊢
    by_cases hl : q'.length + 1 ≤ L.length
    · exact hl
    · exfalso
      have h := D0.eq (q'.length + d'.length)
      simp only [sad] at h
      rw [lm_top, co_ge (r := L) (by omega), co_ge (r := r) (by omega), ad_zr] at h
      exact hy.1 (no_zero G hx.2 hx.1 hy.2 h.symm)
theorem gcdN_len (G : Gr p c iv) : ∀ (n : Nat) {a b : Row}, Can p a → Can p b → a.length ≤ 1000 → b.length ≤ 1000 → (gcdN p c n a b).length ≤ 1000 ∧ Can p (gcdN p c n a b)
  | 0, a, b, ca, cb, ha, hb => ⟨ha, ca⟩
  | n + 1, a, b, ca, cb, ha, hb => by
    unfold gcdN
    split
    · exact ⟨ha, ca⟩
    · rename_i h
      have D0 := div_fn G ca cb ha hb h
      have := D0.len
      exact gcdN_len G n cb D0.cr hb (by omega)
theorem monR_len (a : Row) : (monR p c iv a).length = a.length := by simp [monR, oftR]
theorem addR_len {a b : Row} : (addR p a b).length ≤ a.length + b.length := by
  unfold addR
  split
  · refine Nat.le_trans (trim_len _) ?_
    rw [addL_len (by omega)]; omega
  · refine Nat.le_trans (trim_len _) ?_
    rw [addL_len (by omega)]; omega
theorem cjR_em (G : Gr p c iv) {a : List Int} (ca : Red p (em a)) : cjR p c (em a) = em a := by
  unfold cjR
  conv => rhs; rw [← List.map_id (em a)]
  refine List.map_congr_left fun x hx => ?_
  have h := ca x hx
  simp only [em, List.mem_map] at hx
  obtain ⟨y, _, rfl⟩ := hx
  show rd p (cj c (y, 0)) = (y, 0)
  rw [show cj c (y, 0) = (y, 0) by simp [cj]]
  exact h
noncomputable def plainL (p c : Int) (iv : List Int) (A B : Row) (x : Int) (t : Nat) : List Z.D :=
  [dR A, dR B, dR (addR p A B), dI (los (addR p A B)), dR (mulR p c A B), dI (los (mulR p c A B)), .tup [dR (qut p c A B), dR (rst p c A B)], .tup [dI (los (qut p c A B)), dI (los (rst p c A B))]] ++
  [dR (monR p c iv (gcdN p c 80 A B)), dI (los (monR p c iv (gcdN p c 80 A B))), dE (wv p c (x, 0) A.reverse), .int (wv p c (x, 0) A.reverse).1, dR (trim (slP p c A)), dI (los (trim (slP p c A)))] ++
  [dR (pwr p c A B t), dI (los (pwr p c A B t)), dR A]
structure Pl (p : Int) (a b : List Int) : Prop where
  ca : Can p (em a)
  cb : Can p (em b)
  la : a.length ≤ 200
  lb : b.length ≤ 80
  b2 : 2 ≤ b.length
theorem plain_due_ok (G : Gr p c iv) {a b : List Int} (H : Pl p a b) (x : Int) {t : Nat} (ht : t < 2 ^ 80) : Rc 5 "_law_plain_due" [dF p c iv, dR (em a), dR (em b), .int x, .int t] (.tup (plainL p c iv (em a) (em b) x t)) :=
  Rt.by (fun n S => r__law_plain_due n _ S) rfl (by simp [pures, dF_pure, D.pure]) (by simp [D.pure, pures, plainL]) fun n hn => by
    have ca := H.ca
    have cb := H.cb
    have la : (em a).length ≤ 200 := by rw [em_len]; exact H.la
    have lb : (em b).length ≤ 80 := by rw [em_len]; exact H.lb
    have b2 : 2 ≤ (em b).length := by rw [em_len]; exact H.b2
    unfold plainL
    generalize em a = A at *
    generalize em b = B at *
    have hB : B ≠ [] := by rintro rfl; simp at b2
    have c1 := (law_rows_by_ok G ca.red cb.red (by omega) (by omega)).call (n := n) (by omega)
    have c2 := (law_rows_plus_ok (c := c) (iv := iv) G.pp (a := A) (b := B) (by omega) (by omega)).call (n := n) (by omega)
    rw [addR2_eq G.pp ca.red cb.red] at c2
    have c3 := (law_parts_fn G ca cb (by omega) (by omega) hB).call (n := n) (by omega)
    have c4 := (law_common_ok G ca cb (by omega) (by omega)).call (n := n) (by omega)
    have c5 := (law_slope_ok G ca.red (by omega)).call (n := n) (by omega)
    have c6 := (law_worth_ok G (a := A) (t := (x, 0)) (by omega)).call (n := n) (by omega)
    have c7 := (law_rest_power_ok G ca cb (by omega) (by omega) b2 ht).call (n := n) (by omega)
    have lG := gcdN_len G 80 ca cb (by omega) (by omega)
    have lP := pwr_len (p := p) (c := c) (a := A) (t := t) hB
    have lQ := qut_le G ca cb (by omega) (by omega) hB
    have lR := (div_fn G ca cb (by omega) (by omega) hB).len
    have lM := mulR_len (p := p) (c := c) (a := A) (b := B)
    have lA := addR_len (p := p) (a := A) (b := B)
    have lS : (trim (slP p c A)).length ≤ 1000 := Nat.le_trans (trim_len _) (by simp [slP]; omega)
    generalize hg : monR p c iv (gcdN p c 80 A B) = g at *
    have lg : g.length ≤ 1000 := by rw [← hg, monR_len]; exact lG.1
    generalize mulR p c A B = mu at *
    generalize addR p A B = su at *
    generalize qut p c A B = q at *
    generalize rst p c A B = r at *
    generalize pwr p c A B t = pw at *
    generalize trim (slP p c A) = sl at *
    generalize wv p c (x, 0) A.reverse = w at *
    have nb : ∀ (r : Row), r.length ≤ 1000 → ∀ S, callR (run co pf n) "_law_numbers" [dR r] S = .ok (dI (los r)) S := fun r h S => (law_numbers_ok h).call (n := n) (by omega) S
    have n1 := nb su (by omega)
    have n2 := nb mu (by omega)
    have n3 := nb q (by omega)
    have n4 := nb r (by omega)
    have n5 := nb g (by omega)
    have n6 := nb sl (by omega)
    have n7 := nb pw (by omega)
    unfold b__law_plain_due
    show Ends (run co pf n) co _ [some (dF p c iv), some (dR A), some (dR B), some (.int x), some (.int t), none, none, none, none, none, none, none, none, none] _ _
    refine Ends.par [dR mu, dR su] [] [some (dF p c iv), some (dR A), some (dR B), some (.int x), some (.int t), some (dR mu), some (dR su), none, none, none, none, none, none, none] (by simp only [evE, evEs, List.getElem?_cons_zero, List.getElem?_cons_succ, R.bind_ok, c1, c2]) (by simp [setAll]) ?_
    refine Ends.tset (.tup [dR q, dR r]) [] [some (dF p c iv), some (dR A), some (dR B), some (.int x), some (.int t), some (dR mu), some (dR su), some (dR q), some (dR r), none, none, none, none, none] (by simp only [evE, evEs, List.getElem?_cons_zero, List.getElem?_cons_succ, R.bind_ok, c3]) (by simp [asg, asgs]) ?_
    refine Ends.par [dR g, dR sl] [] [some (dF p c iv), some (dR A), some (dR B), some (.int x), some (.int t), some (dR mu), some (dR su), some (dR q), some (dR r), some (dR g), some (dR sl), none, none, none] (by simp only [evE, evEs, List.getElem?_cons_zero, List.getElem?_cons_succ, R.bind_ok, c4, c5]) (by simp [setAll]) ?_
    refine Ends.set (dE w) [] ?_ ?_
    · simp only [evE, evEs, List.getElem?_cons_zero, List.getElem?_cons_succ, R.bind_ok]
      rw [newT_ok (by simp)]
      simp only [R.bind_ok]
      exact c6 _
    refine Ends.set (dR pw) [] (by simp only [List.set_cons_zero, List.set_cons_succ, evE, evEs, List.getElem?_cons_zero, List.getElem?_cons_succ, R.bind_ok, c7]) ?_
    show Ends (run co pf n) co _ [some (dF p c iv), some (dR A), some (dR B), some (.int x), some (.int t), some (dR mu), some (dR su), some (dR q), some (dR r), some (dR g), some (dR sl), some (dE w), some (dR pw), none] _ _
    refine Ends.set (.lst 0) [[dR A, dR B, dR su, dI (los su), dR mu, dI (los mu), .tup [dR q, dR r], .tup [dI (los q), dI (los r)]]] ?_ ?_
    · simp only [evE, evEs, List.getElem?_cons_zero, List.getElem?_cons_succ, R.bind_ok, n1, n2, n3, n4]
      rw [newT_ok (by simp)]
      simp only [R.bind_ok]
      rw [newT_ok (by simp)]
      simp only [R.bind_ok]
      exact newL_ok (by simp)
    generalize h1 : [dR A, dR B, dR su, dI (los su), dR mu, dI (los mu), .tup [dR q, dR r], .tup [dI (los q), dI (los r)]] = l1
    have hl1 : l1.length = 8 := by rw [← h1]; rfl
    show Ends (run co pf n) co _ [some (dF p c iv), some (dR A), some (dR B), some (.int x), some (.int t), some (dR mu), some (dR su), some (dR q), some (dR r), some (dR g), some (dR sl), some (dE w), some (dR pw), some (.lst 0)] _ _
    generalize h2 : [dR g, dI (los g), dE w, .int w.1, dR sl, dI (los sl)] = l2
    have hl2 : l2.length = 6 := by rw [← h2]; rfl
    have i0 : ∀ S, ixR (dE w) (.int 0) S = .ok (.int w.1) S := fun S => rfl
    refine Ends.set (.lst 2) [l1, l2, l1 ++ l2] ?_ ?_
    · simp only [evE, evEs, List.getElem?_cons_zero, List.getElem?_cons_succ, R.bind_ok, n5, n6, i0, h2]
      rw [newL_ok (by omega)]
      simp only [R.bind_ok, List.length_cons, List.length_nil, Nat.zero_add, List.cons_append, List.nil_append]
      rw [binR_addL (xs := l1) (ys := l2) rfl rfl]
      exact newL_ok (by simp; omega)
    show Ends (run co pf n) co _ [some (dF p c iv), some (dR A), some (dR B), some (.int x), some (.int t), some (dR mu), some (dR su), some (dR q), some (dR r), some (dR g), some (dR sl), some (dE w), some (dR pw), some (.lst 2)] _ _
    refine Ends.ret (.tup (l1 ++ l2 ++ [dR pw, dI (los pw), dR A])) [l1, l2, l1 ++ l2, [dR pw, dI (los pw), dR A], l1 ++ l2 ++ [dR pw, dI (los pw), dR A]] ?_ rfl
    simp only [evE, evEs, List.getElem?_cons_zero, List.getElem?_cons_succ, R.bind_ok, n7]
    rw [newL_ok (by simp)]
    simp only [R.bind_ok, List.length_cons, List.length_nil, Nat.zero_add, List.cons_append, List.nil_append]
    rw [binR_addL (xs := l1 ++ l2) (ys := [dR pw, dI (los pw), dR A]) rfl rfl, newL_ok (by simp; omega)]
    simp only [R.bind_ok, List.length_cons, List.length_nil, Nat.zero_add, List.cons_append, List.nil_append]
    exact biR_tupL rfl
theorem los_of {s : List Int} {R : Row} (h : em s = R) : s = los R := by rw [← h, los_em]
theorem law_plain_ok (G : Gr p c iv) {a b : List Int} (H : Pl p a b) (x : Int) {t : Nat} (ht : t < 2 ^ 80) : Rc 7 "_law_plain" [.int p, dI a, dI b, .int x, .int t] (.tup (plainL p c iv (em a) (em b) x t)) :=
  Rt.by (fun n S => r__law_plain n _ S) rfl (by simp [pures, D.pure]) (by simp [D.pure, pures, plainL]) fun n hn => by
    have ca := H.ca
    have cb := H.cb
    have ha := H.la
    have hb := H.lb
    have b2' := H.b2
    have la : (em a).length ≤ 200 := by rw [em_len]; exact H.la
    have lb : (em b).length ≤ 80 := by rw [em_len]; exact H.lb
    have b2 : 2 ≤ (em b).length := by rw [em_len]; exact H.b2
    have hB : em b ≠ [] := by intro h; rw [h] at b2; simp at b2
    have hb0 : b ≠ [] := by rintro rfl; simp at b2'
    have o1 := (pair_of_ok (p := p) (r := a) (by omega)).call (n := n) (by omega)
    have o2 := (pair_of_ok (p := p) (r := b) (by omega)).call (n := n) (by omega)
    have c1 := (pair_by_ok G ca.red cb.red (by omega) (by omega)).call (n := n) (by omega)
    have c2 := (pair_plus_ok G (a := em a) (b := em b) (by omega) (by omega)).call (n := n) (by omega)
    have c3 := (pair_parts_ok G ca cb (by omega) (by omega) hB).call (n := n) (by omega)
    have c4 := (pair_common_ok G ca cb (by omega) (by omega)).call (n := n) (by omega)
    have c5 := (pair_derived_ok G ca.red (by omega)).call (n := n) (by omega)
    have c6 := (pair_at_ok G (a := em a) (t := (x, 0)) (by omega)).call (n := n) (by omega)
    have c7 := (pair_power_ok G ca cb (by omega) (by omega) b2 ht).call (n := n) (by omega)
    have c8 := (turned_poly_ok G (a := em a) (by omega)).call (n := n) (by omega)
    rw [cjR_em G ca.red] at c8
    obtain ⟨s1, e1, d1⟩ := poly_plus_ok G ca.red cb.red (by omega) (by omega)
    obtain ⟨s2, e2, d2⟩ := poly_by_ok G ca.red cb.red (by omega) (by omega)
    obtain ⟨s3, s4, e3, e4, d3⟩ := poly_parts_ok G ca cb (by omega) (by omega) hb0
    obtain ⟨s5, e5, d5⟩ := common_ok G ca cb (by omega) (by omega)
    obtain ⟨s6, e6, d6⟩ := poly_at_ok G (a := a) (v := x) (by omega)
    obtain ⟨s7, e7, d7⟩ := poly_derived_ok G ca (by omega)
    obtain ⟨s8, e8, d8⟩ := power_rest_ok G ca cb (by omega) (by omega) b2' ht
    rw [los_of e1] at d1
    rw [los_of e2] at d2
    rw [los_of e3, los_of e4] at d3
    rw [los_of e5] at d5
    rw [show s6 = (wv p c (x, 0) (em a).reverse).1 by rw [e6]] at d6
    rw [los_of e7] at d7
    rw [los_of e8] at d8
    have d1 := d1.call (n := n) (by omega)
    have d2 := d2.call (n := n) (by omega)
    have d3 := d3.call (n := n) (by omega)
    have d5 := d5.call (n := n) (by omega)
    have d6 := d6.call (n := n) (by omega)
    have d7 := d7.call (n := n) (by omega)
    have d8 := d8.call (n := n) (by omega)
    unfold plainL
    clear e1 e2 e3 e4 e5 e6 e7 e8
    generalize em a = A at *
    generalize em b = B at *
    generalize monR p c iv (gcdN p c 80 A B) = g at *
    generalize mulR p c A B = mu at *
    generalize addR p A B = su at *
    generalize qut p c A B = q at *
    generalize rst p c A B = r at *
    generalize pwr p c A B t = pw at *
    generalize trim (slP p c A) = sl at *
    generalize wv p c (x, 0) A.reverse = w at *
    unfold b__law_plain
    show Ends (run co pf n) co _ [some (.int p), some (dI a), some (dI b), some (.int x), some (.int t), none, none, none] _ _
    refine Ends.par [dR A, dR B] [] [some (.int p), some (dI a), some (dI b), some (.int x), some (.int t), some (dR A), some (dR B), none] (by simp only [evE, evEs, List.getElem?_cons_zero, List.getElem?_cons_succ, R.bind_ok, o1, o2]) (by simp [setAll]) ?_
    refine Ends.set (.lst 0) [[dR A, dR B, dR su, dI (los su), dR mu, dI (los mu)]] ?_ ?_
    · simp only [evE, evEs, List.getElem?_cons_zero, List.getElem?_cons_succ, R.bind_ok, c2, d1, c1, d2]
      exact newL_ok (by simp)
    show Ends (run co pf n) co _ [some (.int p), some (dI a), some (dI b), some (.int x), some (.int t), some (dR A), some (dR B), some (.lst 0)] _ _
    refine Ends.set (.lst 2) [[dR A, dR B, dR su, dI (los su), dR mu, dI (los mu)], [.tup [dR q, dR r], .tup [dI (los q), dI (los r)], dR g, dI (los g)], [dR A, dR B, dR su, dI (los su), dR mu, dI (los mu)] ++ [.tup [dR q, dR r], .tup [dI (los q), dI (los r)], dR g, dI (los g)]] ?_ ?_
    · simp only [evE, evEs, List.getElem?_cons_zero, List.getElem?_cons_succ, R.bind_ok, c3, d3, c4, d5]
      rw [newL_ok (by simp)]
      simp only [R.bind_ok, List.length_cons, List.length_nil, Nat.zero_add]
      rw [binR_addL (xs := [dR A, dR B, dR su, dI (los su), dR mu, dI (los mu)]) (ys := [.tup [dR q, dR r], .tup [dI (los q), dI (los r)], dR g, dI (los g)]) rfl rfl]
      exact newL_ok (by simp)
    generalize hl1 : [dR A, dR B, dR su, dI (los su), dR mu, dI (los mu)] ++ [.tup [dR q, dR r], .tup [dI (los q), dI (los r)], dR g, dI (los g)] = l1
    have ll1 : l1.length = 10 := by rw [← hl1]; rfl
    generalize hS : ([[dR A, dR B, dR su, dI (los su), dR mu, dI (los mu)], [.tup [dR q, dR r], .tup [dI (los q), dI (los r)], dR g, dI (los g)]] : Sto) = S0
    have eS : ([[dR A, dR B, dR su, dI (los su), dR mu, dI (los mu)], [.tup [dR q, dR r], .tup [dI (los q), dI (los r)], dR g, dI (los g)], l1] : Sto) = S0 ++ [l1] := by rw [← hS]; rfl
    have lS : S0.length = 2 := by rw [← hS]; rfl
    rw [eS]
    show Ends (run co pf n) co _ [some (.int p), some (dI a), some (dI b), some (.int x), some (.int t), some (dR A), some (dR B), some (.lst 2)] _ _
    have g1 : (S0 ++ [l1])[2]? = some l1 := by rw [← lS]; exact at_end
    generalize S0 ++ [l1] = S1 at *
    have nl1 : newT [.int x, .int 0] S1 = .ok (dE (x, 0)) S1 := newT_ok (by simp)
    refine Ends.set (.lst (S1.length + 1)) (S1 ++ [[dE w, .int w.1, dR sl, dI (los sl)]] ++ [l1 ++ [dE w, .int w.1, dR sl, dI (los sl)]]) ?_ ?_
    · simp only [evE, evEs, List.getElem?_cons_zero, List.getElem?_cons_succ, R.bind_ok, nl1, c6, d6, c5, d7]
      rw [newL_ok (by simp)]
      simp only [R.bind_ok]
      rw [binR_addL (append_self_none _ _ g1) at_end, newL_ok (by simp; omega)]
      simp
    have g2 : (S1 ++ [[dE w, .int w.1, dR sl, dI (los sl)]] ++ [l1 ++ [dE w, .int w.1, dR sl, dI (los sl)]])[S1.length + 1]? = some (l1 ++ [dE w, .int w.1, dR sl, dI (los sl)]) := by
      have : (S1 ++ [[dE w, .int w.1, dR sl, dI (los sl)]]).length = S1.length + 1 := by simp
      rw [← this]; exact at_end
    generalize S1.length + 1 = k1 at *
    generalize S1 ++ [[dE w, .int w.1, dR sl, dI (los sl)]] ++ [l1 ++ [dE w, .int w.1, dR sl, dI (los sl)]] = S2 at *
    show Ends (run co pf n) co _ [some (.int p), some (dI a), some (dI b), some (.int x), some (.int t), some (dR A), some (dR B), some (.lst k1)] _ _
    refine Ends.ret (.tup (l1 ++ [dE w, .int w.1, dR sl, dI (los sl)] ++ [dR pw, dI (los pw), dR A])) (S2 ++ [[dR pw, dI (los pw), dR A]] ++ [l1 ++ [dE w, .int w.1, dR sl, dI (los sl)] ++ [dR pw, dI (los pw), dR A]]) ?_ ?_
    · simp only [evE, evEs, List.getElem?_cons_zero, List.getElem?_cons_succ, R.bind_ok, c7, d8, c8]
      rw [newL_ok (by simp)]
      simp only [R.bind_ok]
      rw [binR_addL (append_self_none _ _ g2) at_end, newL_ok (by simp; omega)]
      simp only [R.bind_ok]
      exact biR_tupL at_end
    · rw [← hl1]; simp
end
end Z.K01
end
section
set_option Elab.async false
set_option linter.all false
set_option autoImplicit false
set_option maxRecDepth 100000
set_option maxHeartbeats 8000000
namespace Z.K01
open PySem Z M
section
variable {p c : Int} {iv : List Int}
theorem eqR_str (a b : Str) (S : Sto) : eqR (.str a) (.str b) S = some (PyData.eqv (.str a) (.str b)) := rfl
def rowD (w : Str) (p : Int) (l r m : Z.D) : Z.D := .tup [.str w, .int p, l, r, m]
theorem tst_ok {Γ : Calls} (w v : Str) {u x2 x3 x4 x5 x6 x7 : Option Z.D} (S : Sto) : evT Γ co (.val (.cmp .eq (.v 1) (.c (.str v)))) [u, some (.str w), x2, x3, x4, x5, x6, x7] S = .ok (PyData.eqv (.str w) (.str v)) S := by
  simp only [evT, evE, List.getElem?_cons_zero, List.getElem?_cons_succ, R.bind_ok, cmpR, eqR_str, Option.map_some, optR_some, truthR]
def rowR (w : Str) (p : Int) (l r m : Z.D) : Rho := [some (rowD w p l r m), some (.str w), some (.int p), some l, some r, some m, none, none]
/-- the asked word's branch -/
theorem ask_rt {w : Str} {l r m : Z.D} {due : Z.D} {d : Nat} (pl : l.pure = true) (pr : r.pure = true) (pm : m.pure = true) (pd : due.pure = true)
    (h : ∀ n, d ≤ n → ∀ b, b = b__law_ask → Ends (run co pf n) co (match b with | .cons _ s => s | .nil => .nil) (rowR w p l r m) [] fun x _ => x = due) : Rc (d + 1) "_law_ask" [rowD w p l r m] due :=
  Rt.by (fun n S => r__law_ask n _ S) rfl (by simp [pures, rowD, D.pure, pl, pr, pm]) pd fun n hn => by
    have h1 := h n hn b__law_ask rfl
    unfold b__law_ask at h1 ⊢
    show Ends (run co pf n) co _ [some (rowD w p l r m), none, none, none, none, none, none, none] _ _
    exact Ends.tset (rowD w p l r m) [] (rowR w p l r m) (by simp [evE]) (by simp [rowD, rowR, asg, asgs]) h1
theorem ask_poly (G : Gr p c iv) {l : Row} (hl : l.length ≤ 1000) {r m : Z.D} (pr : r.pure = true) (pm : m.pure = true) : Rc 8 "_law_ask" [rowD "poly" p (dR l) r m] (.tup [dR (trim l), dR l, dR (trim l)]) :=
  (ask_rt (d := 2) (by simp) pr pm (by simp [D.pure, pures]) fun n hn b hb => by
    subst hb
    unfold b__law_ask
    refine Ends.iteT [] (tst_ok _ _ _) ?_
    refine Ends.set (.lst 0) [l.map dE] ?_ ?_
    · simp only [rowR, evE, evEs, List.getElem?_cons_zero, List.getElem?_cons_succ, R.bind_ok, dR, biR_lstT]
      exact newL_ok (by simp; omega)
    obtain ⟨E, t⟩ := (pair_poly_rs (p := p) (S := [l.map dE]) (d := .lst 0) (r := l) (.inr ⟨0, rfl, rfl⟩) hl rfl).call (n := n) (by omega) (by rfl)
    have t2 := (pair_poly_rt (p := p) hl).call (n := n) (by omega)
    refine Ends.set (dR (trim l)) ([l.map dE] ++ E) ?_ ?_
    · show evE _ _ _ [some (rowD "poly" p (dR l) r m), some (.str "poly"), some (.int p), some (dR l), some r, some m, some (.lst 0), none] _ = _
      simp only [evE, evEs, List.getElem?_cons_zero, List.getElem?_cons_succ, R.bind_ok, t]
    show Ends (run co pf n) co _ [some (rowD "poly" p (dR l) r m), some (.str "poly"), some (.int p), some (dR l), some r, some m, some (.lst 0), some (dR (trim l))] _ _
    refine Ends.ret (.tup [dR (trim l), dR l, dR (trim l)]) ([l.map dE] ++ E) ?_ rfl
    have t3 : biR .tuple [.lst 0] ([l.map dE] ++ E) = .ok (dR l) ([l.map dE] ++ E) := biR_tupL (by simp)
    simp only [evE, evEs, List.getElem?_cons_zero, List.getElem?_cons_succ, R.bind_ok, t3, t2]
    exact newT_ok (by simp)).up (by omega)
theorem ask_plus {l r m due : Z.D} (pl : l.pure = true) (pr : r.pure = true) (pm : m.pure = true) (h : Rc 7 "pair_plus" [.int p, l, r] due) : Rc 8 "_law_ask" [rowD "plus" p l r m] due :=
  ask_rt (d := 7) pl pr pm h.pr fun n hn b hb => by
    subst hb
    unfold b__law_ask
    refine Ends.iteF [] (tst_ok _ _ _) ?_
    refine Ends.iteT [] (tst_ok _ _ _) ?_
    exact Ends.ret due [] (by simp only [rowR, evE, evEs, List.getElem?_cons_zero, List.getElem?_cons_succ, R.bind_ok, h.call hn]) rfl
theorem ask_by {l r m due : Z.D} (pl : l.pure = true) (pr : r.pure = true) (pm : m.pure = true) (h : Rc 7 "pair_by" [.int p, l, r] due) : Rc 8 "_law_ask" [rowD "by" p l r m] due :=
  ask_rt (d := 7) pl pr pm h.pr fun n hn b hb => by
    subst hb
    unfold b__law_ask
    refine Ends.iteF [] (tst_ok _ _ _) (Ends.iteF [] (tst_ok _ _ _) ?_)
    refine Ends.iteT [] (tst_ok _ _ _) ?_
    exact Ends.ret due [] (by simp only [rowR, evE, evEs, List.getElem?_cons_zero, List.getElem?_cons_succ, R.bind_ok, h.call hn]) rfl
theorem ask_parts {l r m due : Z.D} (pl : l.pure = true) (pr : r.pure = true) (pm : m.pure = true) (h : Rc 7 "pair_parts" [.int p, l, r] due) : Rc 8 "_law_ask" [rowD "parts" p l r m] due :=
  ask_rt (d := 7) pl pr pm h.pr fun n hn b hb => by
    subst hb
    unfold b__law_ask
    refine Ends.iteF [] (tst_ok _ _ _) (Ends.iteF [] (tst_ok _ _ _) (Ends.iteF [] (tst_ok _ _ _) ?_))
    refine Ends.iteT [] (tst_ok _ _ _) ?_
    exact Ends.ret due [] (by simp only [rowR, evE, evEs, List.getElem?_cons_zero, List.getElem?_cons_succ, R.bind_ok, h.call hn]) rfl
theorem ask_common {l r m due : Z.D} (pl : l.pure = true) (pr : r.pure = true) (pm : m.pure = true) (h : Rc 7 "pair_common" [.int p, l, r] due) : Rc 8 "_law_ask" [rowD "common" p l r m] due :=
  ask_rt (d := 7) pl pr pm h.pr fun n hn b hb => by
    subst hb
    unfold b__law_ask
    refine Ends.iteF [] (tst_ok _ _ _) (Ends.iteF [] (tst_ok _ _ _) (Ends.iteF [] (tst_ok _ _ _) (Ends.iteF [] (tst_ok _ _ _) ?_)))
    refine Ends.iteT [] (tst_ok _ _ _) ?_
    exact Ends.ret due [] (by simp only [rowR, evE, evEs, List.getElem?_cons_zero, List.getElem?_cons_succ, R.bind_ok, h.call hn]) rfl
theorem ask_slope {l r m due : Z.D} (pl : l.pure = true) (pr : r.pure = true) (pm : m.pure = true) (h : Rc 7 "pair_derived" [.int p, l] due) : Rc 8 "_law_ask" [rowD "slope" p l r m] due :=
  ask_rt (d := 7) pl pr pm h.pr fun n hn b hb => by
    subst hb
    unfold b__law_ask
    refine Ends.iteF [] (tst_ok _ _ _) (Ends.iteF [] (tst_ok _ _ _) (Ends.iteF [] (tst_ok _ _ _) (Ends.iteF [] (tst_ok _ _ _) (Ends.iteF [] (tst_ok _ _ _) ?_))))
    refine Ends.iteT [] (tst_ok _ _ _) ?_
    exact Ends.ret due [] (by simp only [rowR, evE, evEs, List.getElem?_cons_zero, List.getElem?_cons_succ, R.bind_ok, h.call hn]) rfl
theorem ask_worth {l r m due : Z.D} (pl : l.pure = true) (pr : r.pure = true) (pm : m.pure = true) (h : Rc 7 "pair_at" [.int p, l, r] due) : Rc 8 "_law_ask" [rowD "worth" p l r m] due :=
  ask_rt (d := 7) pl pr pm h.pr fun n hn b hb => by
    subst hb
    unfold b__law_ask
    refine Ends.iteF [] (tst_ok _ _ _) (Ends.iteF [] (tst_ok _ _ _) (Ends.iteF [] (tst_ok _ _ _) (Ends.iteF [] (tst_ok _ _ _) (Ends.iteF [] (tst_ok _ _ _) (Ends.iteF [] (tst_ok _ _ _) ?_)))))
    refine Ends.iteT [] (tst_ok _ _ _) ?_
    exact Ends.ret due [] (by simp only [rowR, evE, evEs, List.getElem?_cons_zero, List.getElem?_cons_succ, R.bind_ok, h.call hn]) rfl
theorem ask_power {l r m due : Z.D} (pl : l.pure = true) (pr : r.pure = true) (pm : m.pure = true) (h : Rc 7 "pair_power_rest" [.int p, l, m, r] due) : Rc 8 "_law_ask" [rowD "power" p l r m] due :=
  ask_rt (d := 7) pl pr pm h.pr fun n hn b hb => by
    subst hb
    unfold b__law_ask
    refine Ends.iteF [] (tst_ok _ _ _) (Ends.iteF [] (tst_ok _ _ _) (Ends.iteF [] (tst_ok _ _ _) (Ends.iteF [] (tst_ok _ _ _) (Ends.iteF [] (tst_ok _ _ _) (Ends.iteF [] (tst_ok _ _ _) (Ends.iteF [] (tst_ok _ _ _) ?_))))))
    refine Ends.iteT [] (tst_ok _ _ _) ?_
    exact Ends.ret due [] (by simp only [rowR, evE, evEs, List.getElem?_cons_zero, List.getElem?_cons_succ, R.bind_ok, h.call hn]) rfl
theorem ask_plain {l r due : Z.D} {x t : Int} (pl : l.pure = true) (pr : r.pure = true) (h : Rc 7 "_law_plain" [.int p, l, r, .int x, .int t] due) : Rc 8 "_law_ask" [rowD "plain" p l r (.tup [.int x, .int t])] due :=
  ask_rt (d := 7) pl pr rfl h.pr fun n hn b hb => by
    subst hb
    unfold b__law_ask
    refine Ends.iteF [] (tst_ok _ _ _) (Ends.iteF [] (tst_ok _ _ _) (Ends.iteF [] (tst_ok _ _ _) (Ends.iteF [] (tst_ok _ _ _) (Ends.iteF [] (tst_ok _ _ _) (Ends.iteF [] (tst_ok _ _ _) (Ends.iteF [] (tst_ok _ _ _) (Ends.iteF [] (tst_ok _ _ _) ?_)))))))
    refine Ends.iteT [] (tst_ok _ _ _) ?_
    exact Ends.ret due [] (by simp only [rowR, evE, evEs, List.getElem?_cons_zero, List.getElem?_cons_succ, R.bind_ok, ix_zero, ix_one, h.call hn]) rfl
theorem ask_turned {l r m due : Z.D} (pl : l.pure = true) (pr : r.pure = true) (pm : m.pure = true) (h : Rc 7 "turned_poly" [.int p, l] due) : Rc 8 "_law_ask" [rowD "turned" p l r m] due :=
  ask_rt (d := 7) pl pr pm h.pr fun n hn b hb => by
    subst hb
    unfold b__law_ask
    refine Ends.iteF [] (tst_ok _ _ _) (Ends.iteF [] (tst_ok _ _ _) (Ends.iteF [] (tst_ok _ _ _) (Ends.iteF [] (tst_ok _ _ _) (Ends.iteF [] (tst_ok _ _ _) (Ends.iteF [] (tst_ok _ _ _) (Ends.iteF [] (tst_ok _ _ _) (Ends.iteF [] (tst_ok _ _ _) (Ends.iteF [] (tst_ok _ _ _) ?_))))))))
    exact Ends.ret due [] (by simp only [rowR, evE, evEs, List.getElem?_cons_zero, List.getElem?_cons_succ, R.bind_ok, h.call hn]) rfl
end
end Z.K01
end
section
set_option Elab.async false
set_option linter.all false
set_option autoImplicit false
set_option maxRecDepth 100000
set_option maxHeartbeats 8000000
namespace Z.K01
open PySem Z M
section
variable {p c : Int} {iv : List Int}
theorem Pv.ups {n m : Nat} {d : Z.D} (h : Pv n d) (hm : n ≤ m) : Pv m d := by
  induction hm with
  | refl => exact h
  | step _ ih => exact ih.up
theorem pv_E (x : El) : Pv 1 (dE x) := .inr ⟨_, rfl, by simp, fun y hy => by
  simp only [List.mem_cons, List.not_mem_nil, or_false] at hy
  rcases hy with rfl | rfl
  · exact Pv.int 0 _
  · exact Pv.int 0 _⟩
theorem pv_R {r : Row} (h : r.length ≤ 1000) : Pv 2 (dR r) := .inr ⟨_, rfl, by simp; omega, fun y hy => by
  simp only [List.mem_map] at hy
  obtain ⟨x, _, rfl⟩ := hy
  exact pv_E x⟩
theorem pv_I {r : List Int} (h : r.length ≤ 1000) : Pv 1 (dI r) := .inr ⟨_, rfl, by simp; omega, fun y hy => by
  simp only [List.mem_map] at hy
  obtain ⟨x, _, rfl⟩ := hy
  exact Pv.int 0 x⟩
theorem pv_T {n : Nat} {xs : List Z.D} (hl : xs.length ≤ 1000) (h : ∀ x ∈ xs, Pv n x) : Pv (n + 1) (.tup xs) := .inr ⟨xs, rfl, by omega, h⟩
theorem los_len (r : Row) : (los r).length = r.length := by simp [los]
theorem plain_pv (G : Gr p c iv) {a b : List Int} (H : Pl p a b) (x : Int) {t : Nat} : Pv 4 (.tup (plainL p c iv (em a) (em b) x t)) := by
  have ca := H.ca
  have cb := H.cb
  have la : (em a).length ≤ 200 := by rw [em_len]; exact H.la
  have lb : (em b).length ≤ 80 := by rw [em_len]; exact H.lb
  have b2 : 2 ≤ (em b).length := by rw [em_len]; exact H.b2
  unfold plainL
  generalize em a = A at *
  generalize em b = B at *
  have hB : B ≠ [] := by rintro rfl; simp at b2
  have lG := gcdN_len G 80 ca cb (by omega) (by omega)
  have lP := pwr_len (p := p) (c := c) (a := A) (t := t) hB
  have lQ := qut_le G ca cb (by omega) (by omega) hB
  have lR := (div_fn G ca cb (by omega) (by omega) hB).len
  have lM := mulR_len (p := p) (c := c) (a := A) (b := B)
  have lA := addR_len (p := p) (a := A) (b := B)
  have lS : (trim (slP p c A)).length ≤ 1000 := Nat.le_trans (trim_len _) (by simp [slP]; omega)
  have lg : (monR p c iv (gcdN p c 80 A B)).length ≤ 1000 := by rw [monR_len]; exact lG.1
  have R3 : ∀ {r : Row}, r.length ≤ 1000 → Pv 3 (dR r) := fun h => (pv_R h).ups (by omega)
  have I3 : ∀ {r : Row}, r.length ≤ 1000 → Pv 3 (dI (los r)) := fun h => (pv_I (by rw [los_len]; exact h)).ups (by omega)
  have I2 : ∀ {r : Row}, r.length ≤ 1000 → Pv 2 (dI (los r)) := fun h => (pv_I (by rw [los_len]; exact h)).ups (by omega)
  refine pv_T (by simp) ?_
  intro y hy
  simp only [List.cons_append, List.nil_append, List.mem_cons, List.not_mem_nil, or_false] at hy
  rcases hy with rfl | rfl | rfl | rfl | rfl | rfl | rfl | rfl | rfl | rfl | rfl | rfl | rfl | rfl | rfl | rfl | rfl
  · exact R3 (by omega)
  · exact R3 (by omega)
  · exact R3 (by omega)
  · exact I3 (by omega)
  · exact R3 (by omega)
  · exact I3 (by omega)
  · refine pv_T (by simp) fun z hz => ?_
    simp only [List.mem_cons, List.not_mem_nil, or_false] at hz
    rcases hz with rfl | rfl
    · exact pv_R (by omega)
    · exact pv_R (by omega)
  · refine pv_T (by simp) fun z hz => ?_
    simp only [List.mem_cons, List.not_mem_nil, or_false] at hz
    rcases hz with rfl | rfl
    · exact I2 (by omega)
    · exact I2 (by omega)
  · exact R3 (by omega)
  · exact I3 (by omega)
  · exact (pv_E _).ups (by omega)
  · exact Pv.int 3 _
  · exact R3 (by omega)
  · exact I3 (by omega)
  · exact R3 (by omega)
  · exact I3 (by omega)
  · exact R3 (by omega)
/-- a question with what is due -/
structure Cs (d : Z.D) : Prop where
  ex : ∃ (w : Str) (p : Int) (l r m due : Z.D), d = .tup [rowD w p l r m, due] ∧ l.pure = true ∧ r.pure = true ∧ m.pure = true ∧ Pv 4 due ∧ Rc 8 "_law_ask" [rowD w p l r m] due ∧ (PyData.eqv (.str w) (.str "power") = true → Rc 7 "pair_power_rest" [.int p, l, m, r] due)
theorem any_nat {n j k : Nat} (hn : 1 ≤ n) {S : Sto} (hd : Dl j k S) {b : Int} (h0 : 0 < b) (hb : b < 1073741824) : Dr j k n "_law_any" [.lst k, .int b] S fun x _ => ∃ v : Nat, x = .int v ∧ (v : Int) < b := by
  obtain ⟨x, S', e, ⟨v, rfl, v0, v1⟩, h⟩ := any_ok hn hd h0 hb
  exact ⟨_, S', e, ⟨v.toNat, by rw [show ((v.toNat : Nat) : Int) = v by omega], by omega⟩, h⟩
theorem add_nat (i v : Nat) (S : Sto) : binR .add (.int (i : Int)) (.int (v : Int)) S = .ok (.int ((i + v : Nat) : Int)) S := by
  rw [bin_add, show (i : Int) + (v : Int) = ((i + v : Nat) : Int) by omega]
theorem evE_tupmap' {Γ : Calls} {α : Type} {elt : E} {tg : G} {it : I} {own : List Nat} {ρ : Rho} {S S1 : Sto} (f g : α → Z.D) (l : List α) (hit : evI Γ co it ρ S = .ok ([], l.map f) S1) (hl : l.length ≤ 100000)
    (h : ∀ a ∈ l, ∃ ρa, asg tg (f a) (wipeR ρ own) = some ρa ∧ evE Γ co elt ρa S1 = .ok (g a) S1) : evE Γ co (.bi .tuple (.cons (.lc elt tg it .yes own) .nil)) ρ S = .ok (.tup (l.map g)) (S1 ++ [l.map g]) := by
  rw [evE]
  simp only [evEs]
  rw [evE_lc (gd := []) f g l hit rfl hl h]
  simp only [R.bind_ok]
  exact biR_tupL (by simp)
theorem law_trim_rt {r : Row} (hl : r.length ≤ 1000) : Rc 1 "_law_trim" [dR r] (dR (trim r)) :=
  Rs.rt (law_trim_ok (S := []) (.inl rfl) (by omega)) (by simp [pures]) (by simp)
theorem red_los (G : Gr p c iv) {r : Row} (h : Red p r) : Red p (em (los r)) := fun x hx => by
  simp only [em, los, List.map_map, List.mem_map] at hx
  obtain ⟨y, hy, rfl⟩ := hx
  have := rd_range G.pp (h y hy)
  exact rd_low this.1.1 this.1.2 0 (by omega) G.pp
theorem ev_row {Γ : Calls} {ρ : Rho} {S : Sto} {w : Str} {el er em ed : E} {l r m d : Z.D} (h1 : ρ[1]? = some (some (.int p))) (hl : evE Γ co el ρ S = .ok l S) (hr : evE Γ co er ρ S = .ok r S) (hm : evE Γ co em ρ S = .ok m S) (hd : evE Γ co ed ρ S = .ok d S) :
    evE Γ co (.tup (.cons (.tup (.cons (.c (.str w)) (.cons (.v 1) (.cons el (.cons er (.cons em .nil)))))) (.cons ed .nil))) ρ S = .ok (.tup [rowD w p l r m, d]) S := by
  rw [evE, evEs, evE, evEs]
  simp only [evE, evEs, R.bind_ok, h1]
  rw [hl]
  simp only [R.bind_ok]
  rw [hr]
  simp only [R.bind_ok]
  rw [hm]
  simp only [R.bind_ok]
  rw [newT_ok (by simp)]
  simp only [R.bind_ok]
  rw [hd]
  simp only [R.bind_ok]
  exact newT_ok (by simp)
/-- the low numbers of a row's things, as pairs -/
theorem lows_tup {Γ : Calls} {ρ : Rho} {S S1 : Sto} {it : E} {r : Row} (h9 : 9 < ρ.length) (hit : evE Γ co it ρ S = .ok (dR r) S1) (hl : r.length ≤ 1000) :
    evE Γ co (.lc (.tup (.cons (.ix (.v 9) (.c (.int 0))) (.cons (.c (.int 0)) .nil))) (.nm 9) (.e it) .yes [9]) ρ S = .ok (.lst S1.length) (S1 ++ [(em (los r)).map dE]) := by
  have h0 := evE_lc (Γ := Γ) (Co := co) (ρ := ρ) (S := S) (S1 := S1) (gd := []) (elt := .tup (.cons (.ix (.v 9) (.c (.int 0))) (.cons (.c (.int 0)) .nil))) (tg := .nm 9) (it := .e it) (own := [9]) dE (fun x => dE (x.1, 0)) r (by simp [evI, hit, dR]) rfl (by omega) fun x _ => by
    refine ⟨_, rfl, ?_⟩
    have g : ((wipeR ρ [9]).set 9 (some (dE x)))[9]? = some (some (dE x)) := List.getElem?_set_self (by simpa [wipeR] using h9)
    have i0 : ∀ S, ixR (dE x) (.int 0) S = .ok (.int x.1) S := fun S => rfl
    simp only [evE, evEs, g, R.bind_ok, i0]
    exact newT_ok (by simp)
  rw [h0]
  simp [em, los, List.map_map, Function.comp_def]
theorem plain_case_ok (G : Gr p c iv) {n j k : Nat} (hn : 8 ≤ n) {S : Sto} (hd : Dl j k S) : Dr j k n "_law_plain_case" [.lst k, dF p c iv] S fun x _ => Cs x :=
  Dr.by (m := 7) (fun n S => r__law_plain_case n _ S) rfl rfl (by omega) fun n hn => by
    have p1 := G.p1
    have p2 := G.p2
    unfold b__law_plain_case
    show Ends (run co pf n) co _ [some (.lst k), some (dF p c iv), none, none, none, none, none, none, none, none] _ _
    have i0 : ∀ S, ixR (dF p c iv) (.int 0) S = .ok (.int p) S := fun S => rfl
    refine Ends.set (.int p) S (by simp only [evE, List.getElem?_cons_zero, List.getElem?_cons_succ, R.bind_ok, i0]) ?_
    show Ends (run co pf n) co _ [some (.lst k), some (dF p c iv), some (.int p), none, none, none, none, none, none, none] _ _
    -- left
    obtain ⟨x, S1, e1, ⟨v1, rfl, hv1⟩, d1, f1⟩ := any_nat (n := n) (by omega) hd (b := 14) (by omega) (by omega)
    obtain ⟨x, S2, e2, ⟨r1, rfl, cr1, lr1⟩, d2, f2⟩ := row_ok G (n := n) (by omega) d1 (size := v1) (by omega)
    have t1 : evE (run co pf n) co (.bi .tuple (.cons (.lc (.tup (.cons (.ix (.v 9) (.c (.int 0))) (.cons (.c (.int 0)) .nil))) (.nm 9) (.e (.call "_law_row" (.cons (.v 0) (.cons (.v 2) (.cons (.call "_law_any" (.cons (.v 0) (.cons (.c (.int 14)) .nil))) .nil))))) .yes [9]) .nil)) [some (.lst k), some (dF p c iv), some (.int p), none, none, none, none, none, none, none] S = .ok (dR (em (los r1))) (S2 ++ [(em (los r1)).map dE]) := by
      rw [evE]
      simp only [evEs]
      rw [lows_tup (r := r1) (S1 := S2) (by simp) (by simp only [evE, evEs, List.getElem?_cons_zero, List.getElem?_cons_succ, R.bind_ok, e1, e2]) (by omega)]
      simp only [R.bind_ok]
      exact biR_tupL at_end
    refine Ends.set (dR (em (los r1))) (S2 ++ [(em (los r1)).map dE]) t1 ?_
    have d2 := d2.app [(em (los r1)).map dE]
    have f2 : Fr j k S (S2 ++ [(em (los r1)).map dE]) := (f1.trans f2).trans (Fr.app _)
    generalize S2 ++ [(em (los r1)).map dE] = S2 at *
    clear t1 e1 e2 d1 f1
    show Ends (run co pf n) co _ [some (.lst k), some (dF p c iv), some (.int p), some (dR (em (los r1))), none, none, none, none, none, none] _ _
    -- shared
    obtain ⟨x, S3, e1, ⟨v2, rfl, hv2⟩, d3, f3⟩ := any_nat (n := n) (by omega) d2 (b := 4) (by omega) (by omega)
    obtain ⟨x, S4, e2, ⟨r2, rfl, cr2, lr2⟩, d4, f4⟩ := row_ok G (n := n) (by omega) d3 (size := 1 + v2) (by omega)
    have a1 : ∀ S, binR .add (.int 1) (.int (v2 : Int)) S = .ok (.int ((1 + v2 : Nat) : Int)) S := fun S => add_nat 1 v2 S
    have em1 : em (los r2 ++ [1]) = em (los r2) ++ [(1, 0)] := by rw [em_append]; rfl
    have t2 : evE (run co pf n) co (.bi .tuple (.cons (.bin .add (.lc (.tup (.cons (.ix (.v 9) (.c (.int 0))) (.cons (.c (.int 0)) .nil))) (.nm 9) (.e (.call "_law_row" (.cons (.v 0) (.cons (.v 2) (.cons (.bin .add (.c (.int 1)) (.call "_law_any" (.cons (.v 0) (.cons (.c (.int 4)) .nil)))) .nil))))) .yes [9]) (.lst (.cons (.tup (.cons (.c (.int 1)) (.cons (.c (.int 0)) .nil))) .nil))) .nil)) [some (.lst k), some (dF p c iv), some (.int p), some (dR (em (los r1))), none, none, none, none, none, none] S2 = .ok (dR (em (los r2 ++ [1]))) (S4 ++ [(em (los r2)).map dE] ++ [[dE (1, 0)]] ++ [(em (los r2 ++ [1])).map dE]) := by
      rw [evE]
      simp only [evEs]
      rw [evE, lows_tup (r := r2) (S1 := S4) (by simp) (by simp only [evE, evEs, List.getElem?_cons_zero, List.getElem?_cons_succ, R.bind_ok, e1, a1, e2]) (by omega)]
      simp only [R.bind_ok, evE, evEs]
      rw [newT_ok (by simp)]
      simp only [R.bind_ok]
      rw [newL_ok (by simp)]
      simp only [R.bind_ok]
      rw [show Z.D.tup [.int 1, .int 0] = dE (1, 0) from rfl]
      rw [binR_addL (xs := (em (los r2)).map dE) (ys := [dE (1, 0)]) (append_self_none _ _ at_end) at_end, newL_ok (by simp [em_len, los_len]; omega)]
      simp only [R.bind_ok]
      rw [biR_tupL at_end, em1]; simp only [dR, List.map_append, List.map_cons, List.map_nil]
    refine Ends.set _ _ t2 ?_
    have d4 := ((d4.app [(em (los r2)).map dE]).app [[dE (1, 0)]]).app [(em (los r2 ++ [1])).map dE]
    have f4 : Fr j k S (S4 ++ [(em (los r2)).map dE] ++ [[dE (1, 0)]] ++ [(em (los r2 ++ [1])).map dE]) := f2.trans ((f3.trans f4).trans ((Fr.app _).trans ((Fr.app _).trans (Fr.app _))))
    generalize S4 ++ [(em (los r2)).map dE] ++ [[dE (1, 0)]] ++ [(em (los r2 ++ [1])).map dE] = S4 at *
    clear t2 e1 e2 d3 f3 a1
    show Ends (run co pf n) co _ [some (.lst k), some (dF p c iv), some (.int p), some (dR (em (los r1))), some (dR (em (los r2 ++ [1]))), none, none, none, none, none] _ _
    -- right
    obtain ⟨x, S5, e1, ⟨v3, rfl, hv3⟩, d5, f5⟩ := any_nat (n := n) (by omega) d4 (b := 6) (by omega) (by omega)
    obtain ⟨x, S6, e2, ⟨r3, rfl, cr3, lr3⟩, d6, f6⟩ := row_ok G (n := n) (by omega) d5 (size := v3) (by omega)
    obtain ⟨x, S7, e3, ⟨v4, rfl, v40, hv4⟩, d7, f7⟩ := any_ok (n := n) (by omega) (d6.app [(em (los r3)).map dE]) (b := p - 1) (by omega) (by omega)
    have em2 : em (los r3 ++ [1 + v4]) = em (los r3) ++ [(1 + v4, 0)] := by rw [em_append]; rfl
    have t3 : evE (run co pf n) co (.bi .tuple (.cons (.bin .add (.lc (.tup (.cons (.ix (.v 9) (.c (.int 0))) (.cons (.c (.int 0)) .nil))) (.nm 9) (.e (.call "_law_row" (.cons (.v 0) (.cons (.v 2) (.cons (.call "_law_any" (.cons (.v 0) (.cons (.c (.int 6)) .nil))) .nil))))) .yes [9]) (.lst (.cons (.tup (.cons (.bin .add (.c (.int 1)) (.call "_law_any" (.cons (.v 0) (.cons (.bin .sub (.v 2) (.c (.int 1))) .nil)))) (.cons (.c (.int 0)) .nil))) .nil))) .nil)) [some (.lst k), some (dF p c iv), some (.int p), some (dR (em (los r1))), some (dR (em (los r2 ++ [1]))), none, none, none, none, none] S4 = .ok (dR (em (los r3 ++ [1 + v4]))) (S7 ++ [[dE (1 + v4, 0)]] ++ [(em (los r3 ++ [1 + v4])).map dE]) := by
      rw [evE]
      simp only [evEs]
      rw [evE, lows_tup (r := r3) (S1 := S6) (by simp) (by simp only [evE, evEs, List.getElem?_cons_zero, List.getElem?_cons_succ, R.bind_ok, e1, e2]) (by omega)]
      simp only [R.bind_ok, evE, evEs, List.getElem?_cons_zero, List.getElem?_cons_succ, bin_sub, e3, bin_add]
      rw [newT_ok (by simp)]
      simp only [R.bind_ok]
      rw [newL_ok (by simp)]
      simp only [R.bind_ok]
      rw [show Z.D.tup [.int (1 + v4), .int 0] = dE (1 + v4, 0) from rfl]
      have hS6 : S7[S6.length]? = some ((em (los r3)).map dE) := f7.same S6.length (by have := d6.jlt; omega) (by have := d6.klt; omega) _ at_end
      rw [binR_addL (xs := (em (los r3)).map dE) (ys := [dE (1 + v4, 0)]) (append_self_none _ _ hS6) at_end, newL_ok (by simp [em_len, los_len]; omega)]
      simp only [R.bind_ok]
      rw [biR_tupL at_end, em2]; simp only [dR, List.map_append, List.map_cons, List.map_nil]
    refine Ends.set _ _ t3 ?_
    have d7 := (d7.app [[dE (1 + v4, 0)]]).app [(em (los r3 ++ [1 + v4])).map dE]
    have f7 : Fr j k S (S7 ++ [[dE (1 + v4, 0)]] ++ [(em (los r3 ++ [1 + v4])).map dE]) := f4.trans ((f5.trans f6).trans ((Fr.app _).trans (f7.trans ((Fr.app _).trans (Fr.app _)))))
    generalize S7 ++ [[dE (1 + v4, 0)]] ++ [(em (los r3 ++ [1 + v4])).map dE] = S7 at *
    clear t3 e1 e2 e3 d5 f5 d6 f6
    show Ends (run co pf n) co _ [some (.lst k), some (dF p c iv), some (.int p), some (dR (em (los r1))), some (dR (em (los r2 ++ [1]))), some (dR (em (los r3 ++ [1 + v4]))), none, none, none, none] _ _
    -- the rows
    obtain ⟨a1, ha1, la1⟩ := trim_em (los r1)
    have ca1 : Can p (em a1) := by rw [ha1]; exact can_trim (red_los G cr1.red)
    have ca2 : Can p (em (los r2 ++ [1])) := ⟨by rw [em1]; exact red_snoc (red_los G cr2.red) (rd_one G), by rw [em1]; simp⟩
    have ca3 : Can p (em (los r3 ++ [1 + v4])) := ⟨by rw [em2]; exact red_snoc (red_los G cr3.red) (rd_low (by omega) (by omega) 0 (by omega) G.pp), by rw [em2]; simp; omega⟩
    have l1 : (em a1).length ≤ 20 := by rw [em_len]; rw [los_len] at la1; omega
    have l2 : (em (los r2 ++ [1])).length = 2 + v2 := by rw [em_len, List.length_append, los_len, lr2]; simp; omega
    have l3 : (em (los r3 ++ [1 + v4])).length = v3 + 1 := by rw [em_len, List.length_append, los_len, lr3]; simp
    have n2 : em (los r2 ++ [1]) ≠ [] := by intro h; rw [h] at l2; simp at l2; omega
    have n3 : em (los r3 ++ [1 + v4]) ≠ [] := by intro h; rw [h] at l3; simp at l3
    have c1 := (law_trim_rt (r := em (los r1)) (by rw [em_len, los_len]; omega)).call (n := n) (by omega)
    rw [← ha1] at c1
    have c2 := (law_rows_by_ok G ca1.red ca2.red (by omega) (by omega)).call (n := n) (by omega)
    have c3 := (law_rows_by_ok G ca3.red ca2.red (by omega) (by omega)).call (n := n) (by omega)
    obtain ⟨a, ha⟩ := mul_em (p := p) (c := c) a1 (los r2 ++ [1])
    obtain ⟨b, hb⟩ := mul_em (p := p) (c := c) (los r3 ++ [1 + v4]) (los r2 ++ [1])
    have H : Pl p a b := by
      have m1 := mulR_len (p := p) (c := c) (a := em a1) (b := em (los r2 ++ [1]))
      have m2 := mulR_len_eq G ca3 ca2 n3 n2
      rw [← ha, em_len] at m1
      rw [← hb, em_len] at m2
      exact ⟨by rw [ha]; exact mulR_can G.pp, by rw [hb]; exact mulR_can G.pp, by omega, by omega, by omega⟩
    rw [← ha] at c2
    rw [← hb] at c3
    refine Ends.par [dR (em a), dR (em b)] S7 [some (.lst k), some (dF p c iv), some (.int p), some (dR (em a)), some (dR (em (los r2 ++ [1]))), some (dR (em b)), none, none, none, none] (by simp only [evE, evEs, List.getElem?_cons_zero, List.getElem?_cons_succ, R.bind_ok, c1, c2, c3]) (by simp [setAll]) ?_
    obtain ⟨x, S8, e1, ⟨sp, rfl, sp0, sp1⟩, d8, f8⟩ := any_ok (n := n) (by omega) d7 (b := p) (by omega) (by omega)
    obtain ⟨x, S9, e2, ⟨t, rfl, ht⟩, d9, f9⟩ := how_often_ok G (n := n) (by omega) d8
    refine Ends.par [.int sp, .int t] S9 [some (.lst k), some (dF p c iv), some (.int p), some (dR (em a)), some (dR (em (los r2 ++ [1]))), some (dR (em b)), some (.int sp), some (.int t), none, none] (by simp only [evE, evEs, List.getElem?_cons_zero, List.getElem?_cons_succ, R.bind_ok, e1, e2]) (by simp [setAll]) ?_
    have c4 := (plain_due_ok G H sp ht).call (n := n) (by omega)
    refine Ends.set (.tup (plainL p c iv (em a) (em b) sp t)) S9 (by simp only [evE, evEs, List.getElem?_cons_zero, List.getElem?_cons_succ, R.bind_ok, c4]) ?_
    show Ends (run co pf n) co _ [some (.lst k), some (dF p c iv), some (.int p), some (dR (em a)), some (dR (em (los r2 ++ [1]))), some (dR (em b)), some (.int sp), some (.int t), some (.tup (plainL p c iv (em a) (em b) sp t)), none] _ _
    have q1 : ∀ S, callR (run co pf n) "_law_numbers" [dR (em a)] S = .ok (dI a) S := fun S => by
      have := (law_numbers_ok (a := em a) (by rw [em_len]; have := H.la; omega)).call (n := n) (by omega) S
      rwa [show (em a).map (·.1) = a from los_em a] at this
    have q2 : ∀ S, callR (run co pf n) "_law_numbers" [dR (em b)] S = .ok (dI b) S := fun S => by
      have := (law_numbers_ok (a := em b) (by rw [em_len]; have := H.lb; omega)).call (n := n) (by omega) S
      rwa [show (em b).map (·.1) = b from los_em b] at this
    refine Ends.ret (.tup [rowD "plain" p (dI a) (dI b) (.tup [.int sp, .int t]), .tup (plainL p c iv (em a) (em b) sp t)]) S9 ?_ ⟨⟨_, p, dI a, dI b, _, _, rfl, by simp, by simp, rfl, plain_pv G H sp, ask_plain (by simp) (by simp) (law_plain_ok G H sp ht), fun h => by cases h⟩, d9, f7.trans (f8.trans f9)⟩
    simp only [evE, evEs, List.getElem?_cons_zero, List.getElem?_cons_succ, R.bind_ok, q1, q2]
    rw [newT_ok (by simp)]
    simp only [R.bind_ok]
    rw [newT_ok (by simp)]
    simp only [R.bind_ok]
    exact newT_ok (by simp)
end
end Z.K01
end
section
set_option Elab.async false
set_option linter.all false
set_option autoImplicit false
set_option maxRecDepth 100000
set_option maxHeartbeats 8000000
namespace Z.K01
open PySem Z M
section
variable {p c : Int} {iv : List Int}
/-- a list of questions in the store -/
def Asks (S : Sto) (f : Nat) (b : Nat) (pw : Bool) : Prop := ∃ l : List Z.D, S[f]? = some l ∧ (∀ x ∈ l, Cs x) ∧ l.length ≤ b ∧ (pw = true → ∃ (p : Int) (l0 r m due : Z.D), Z.D.tup [rowD "power" p l0 r m, due] ∈ l)
theorem Ends.app {n : Nat} {f j k b : Nat} {pw : Bool} {ρ : Rho} {S S0 : Sto} {e : E} {x : Z.D} {ss : Sts} {post : Z.D → Sto → Prop} (hρ : ρ[14]? = some (some (.lst f))) (he : evE (run co pf n) co e ρ S = .ok x S) (hx : Cs x) (hb : b ≤ 50) (ha : Asks S f b pw) (hd : Dl j k S) (hf : Fr j k S0 S) (hlt : S0.length ≤ f) (hj : j < S0.length) (hk : k < S0.length)
    (kk : ∀ S', Asks S' f (b + 1) pw → Dl j k S' → Fr j k S0 S' → Ends (run co pf n) co ss ρ S' post) : Ends (run co pf n) co (.cons (.ex (.mt .append (.v 14) (.cons e .nil))) ss) ρ S post := by
  obtain ⟨l, h1, h2, h3, h4⟩ := ha
  have hs : l.length < sizeLine := Nat.lt_of_lt_of_le (show l.length < 100000 by omega) (by decide)
  refine Ends.ex .non (S.set f (l ++ [x])) ?_ (kk _ ⟨l ++ [x], List.getElem?_set_self (get_lt h1), ?_, by simp; omega, fun hp => ?_⟩ (hd.set (by omega) (by omega) _) (hf.set hlt _))
  · rw [evE, show evE (run co pf n) co (.v 14) ρ S = .ok (.lst f) S by simp [evE, hρ]]
    simp only [R.bind_ok, evEs]
    rw [he]
    simp only [R.bind_ok]
    unfold mtR
    simp only [h1]
    rw [if_pos hs]
  · intro y hy
    rcases List.mem_append.mp hy with h | h
    · exact h2 y h
    · rw [List.mem_singleton.mp h]; exact hx
  · obtain ⟨p, l0, r, m, due, h⟩ := h4 hp
    exact ⟨p, l0, r, m, due, List.mem_append_left _ h⟩
/-- .. the one that asks for a power -/
theorem Ends.appP {n : Nat} {f j k b : Nat} {pw : Bool} {ρ : Rho} {S S0 : Sto} {e : E} {ss : Sts} {post : Z.D → Sto → Prop} {l0 r m due : Z.D} (hρ : ρ[14]? = some (some (.lst f))) (he : evE (run co pf n) co e ρ S = .ok (.tup [rowD "power" p l0 r m, due]) S) (hx : Cs (.tup [rowD "power" p l0 r m, due])) (hb : b ≤ 50) (ha : Asks S f b pw) (hd : Dl j k S) (hf : Fr j k S0 S) (hlt : S0.length ≤ f) (hj : j < S0.length) (hk : k < S0.length)
    (kk : ∀ S', Asks S' f (b + 1) true → Dl j k S' → Fr j k S0 S' → Ends (run co pf n) co ss ρ S' post) : Ends (run co pf n) co (.cons (.ex (.mt .append (.v 14) (.cons e .nil))) ss) ρ S post := by
  obtain ⟨l, h1, h2, h3, h4⟩ := ha
  have hs : l.length < sizeLine := Nat.lt_of_lt_of_le (show l.length < 100000 by omega) (by decide)
  refine Ends.ex .non (S.set f (l ++ [.tup [rowD "power" p l0 r m, due]])) ?_ (kk _ ⟨l ++ [.tup [rowD "power" p l0 r m, due]], List.getElem?_set_self (get_lt h1), ?_, by simp; omega, fun _ => ⟨p, l0, r, m, due, by simp⟩⟩ (hd.set (by omega) (by omega) _) (hf.set hlt _))
  · rw [evE, show evE (run co pf n) co (.v 14) ρ S = .ok (.lst f) S by simp [evE, hρ]]
    simp only [R.bind_ok, evEs]
    rw [he]
    simp only [R.bind_ok]
    unfold mtR
    simp only [h1]
    rw [if_pos hs]
  · intro y hy
    rcases List.mem_append.mp hy with h | h
    · exact h2 y h
    · rw [List.mem_singleton.mp h]; exact hx
theorem cs_mk {w : Str} {l r m due : Z.D} (pl : l.pure = true) (pr : r.pure = true) (pm : m.pure = true) (pd : Pv 4 due) (h : Rc 8 "_law_ask" [rowD w p l r m] due) (hw : PyData.eqv (.str w) (.str "power") = false) : Cs (.tup [rowD w p l r m, due]) :=
  ⟨⟨w, p, l, r, m, due, rfl, pl, pr, pm, pd, h, fun e => by rw [hw] at e; cases e⟩⟩
theorem ev_int {Γ : Calls} {i : Int} {ρ : Rho} {S : Sto} : evE Γ co (.c (.int i)) ρ S = .ok (.int i) S := by simp [evE]
theorem ev_nil {Γ : Calls} {ρ : Rho} {S : Sto} : evE Γ co (.tup .nil) ρ S = .ok (dR []) S := by
  simp only [evE, evEs, R.bind_ok]
  exact newT_ok (by simp)
theorem ev_t2 {Γ : Calls} {ρ : Rho} {S : Sto} {a b : E} {x y : Z.D} (h1 : evE Γ co a ρ S = .ok x S) (h2 : evE Γ co b ρ S = .ok y S) : evE Γ co (.tup (.cons a (.cons b .nil))) ρ S = .ok (.tup [x, y]) S := by
  rw [evE]
  simp only [evEs]
  rw [h1]
  simp only [R.bind_ok]
  rw [h2]
  simp only [R.bind_ok]
  exact newT_ok (by simp)
theorem ev_t3 {Γ : Calls} {ρ : Rho} {S : Sto} {a b c : E} {x y z : Z.D} (h1 : evE Γ co a ρ S = .ok x S) (h2 : evE Γ co b ρ S = .ok y S) (h3 : evE Γ co c ρ S = .ok z S) : evE Γ co (.tup (.cons a (.cons b (.cons c .nil)))) ρ S = .ok (.tup [x, y, z]) S := by
  rw [evE]
  simp only [evEs]
  rw [h1]
  simp only [R.bind_ok]
  rw [h2]
  simp only [R.bind_ok]
  rw [h3]
  simp only [R.bind_ok]
  exact newT_ok (by simp)
theorem trim_pad {a : Row} (ca : Can p a) (k : Nat) : trim (a ++ List.replicate k zr) = a := by
  refine last_ext (trim_last _) ca.last fun i => ?_
  rw [trim_co]
  by_cases h : i < a.length
  · rw [co_lt (by simp; omega), co_lt h, List.getElem_append_left h]
  · rw [co_ge (r := a) (by omega)]
    by_cases h2 : i < a.length + k
    · rw [co_lt (by simp; omega), List.getElem_append_right (by omega)]
      simp
    · rw [co_ge (by simp; omega)]
def IsAsks (S : Sto) (x : Z.D) : Prop := ∃ f : Nat, x = .lst f ∧ Asks S f 20 true
theorem case_ok (G : Gr p c iv) {n j k : Nat} (hn : 9 ≤ n) {S : Sto} (hd : Dl j k S) : Dr j k n "_law_case" [.lst k, .int p] S fun x S' => ∃ f : Nat, x = .lst f ∧ Asks S' f 20 true ∧ S.length ≤ f :=
  Dr.by (m := 8) (fun n S => r__law_case n _ S) rfl rfl (by omega) fun n hn => by
    have p1 := G.p1
    have p2 := G.p2
    have jS := hd.jlt
    have kS := hd.klt
    unfold b__law_case
    show Ends (run co pf n) co _ [some (.lst k), some (.int p), none, none, none, none, none, none, none, none, none, none, none, none, none, none] _ _
    have c0 := G.field.call (n := n) (by omega)
    refine Ends.set (dF p c iv) S (by simp only [evE, evEs, List.getElem?_cons_zero, List.getElem?_cons_succ, R.bind_ok, c0]) ?_
    show Ends (run co pf n) co _ [some (.lst k), some (.int p), some (dF p c iv), none, none, none, none, none, none, none, none, none, none, none, none, none] _ _
    -- shared
    obtain ⟨x, S1, e1, ⟨v1, rfl, hv1⟩, d1, f1⟩ := any_nat (n := n) (by omega) hd (b := 8) (by omega) (by omega)
    obtain ⟨x, S2, e2, ⟨sh, rfl, csh, lsh⟩, d2, f2⟩ := row_ok G (n := n) (by omega) d1 (size := 1 + v1) (by omega)
    have a1 : ∀ (v : Nat) S, binR .add (.int 1) (.int (v : Int)) S = .ok (.int ((1 + v : Nat) : Int)) S := fun v S => add_nat 1 v S
    refine Ends.set (dR sh) S2 (by simp only [evE, evEs, List.getElem?_cons_zero, List.getElem?_cons_succ, R.bind_ok, e1, a1, e2]) ?_
    show Ends (run co pf n) co _ [some (.lst k), some (.int p), some (dF p c iv), some (dR sh), none, none, none, none, none, none, none, none, none, none, none, none] _ _
    have f2 := f1.trans f2
    clear e1 e2 d1 f1
    -- first, second
    obtain ⟨x, S3, e1, ⟨v2, rfl, hv2⟩, d3, f3⟩ := any_nat (n := n) (by omega) d2 (b := 10) (by omega) (by omega)
    obtain ⟨x, S4, e2, ⟨fi, rfl, cfi, lfi⟩, d4, f4⟩ := row_ok G (n := n) (by omega) d3 (size := v2) (by omega)
    obtain ⟨x, S5, e3, ⟨v3, rfl, hv3⟩, d5, f5⟩ := any_nat (n := n) (by omega) d4 (b := 10) (by omega) (by omega)
    obtain ⟨x, S6, e4, ⟨se, rfl, cse, lse⟩, d6, f6⟩ := row_ok G (n := n) (by omega) d5 (size := 1 + v3) (by omega)
    refine Ends.par [dR fi, dR se] S6 [some (.lst k), some (.int p), some (dF p c iv), some (dR sh), some (dR fi), some (dR se), none, none, none, none, none, none, none, none, none, none] (by simp only [evE, evEs, List.getElem?_cons_zero, List.getElem?_cons_succ, R.bind_ok, e1, e2, e3, a1, e4]) (by simp [setAll]) ?_
    have f6 := f2.trans ((f3.trans f4).trans (f5.trans f6))
    clear e1 e2 e3 e4 d3 d4 d5 f3 f4 f5 d2 f2
    -- left, right
    have nsh : sh ≠ [] := by intro h; rw [h] at lsh; simp at lsh; omega
    have c1 := (law_rows_by_ok G cfi.red csh.red (by omega) (by omega)).call (n := n) (by omega)
    have c2 := (law_rows_by_ok G cse.red csh.red (by omega) (by omega)).call (n := n) (by omega)
    have cL : Can p (mulR p c fi sh) := mulR_can G.pp
    have cR : Can p (mulR p c se sh) := mulR_can G.pp
    have lL := mulR_len (p := p) (c := c) (a := fi) (b := sh)
    have lR := mulR_len (p := p) (c := c) (a := se) (b := sh)
    have DM := div_mul G cfi csh nsh
    have CJ := cjR_mul G (a := fi) (b := sh)
    generalize hL : mulR p c fi sh = le at *
    generalize hR : mulR p c se sh = ri at *
    refine Ends.par [dR le, dR ri] S6 [some (.lst k), some (.int p), some (dF p c iv), some (dR sh), some (dR fi), some (dR se), some (dR le), some (dR ri), none, none, none, none, none, none, none, none] (by simp only [evE, evEs, List.getElem?_cons_zero, List.getElem?_cons_succ, R.bind_ok, c1, c2]) (by simp [setAll]) ?_
    clear c1 c2
    -- great
    obtain ⟨x, S7, e1, ⟨v4, rfl, hv4⟩, d7, f7⟩ := any_nat (n := n) (by omega) d6 (b := 25) (by omega) (by omega)
    obtain ⟨x, S8, e2, hx, d8, f8⟩ := of_ok (n := n) (by omega) (d7.app [[Z.D.int 25, .int 24, .int ((1 + v4 : Nat) : Int), .int 0]]) (m := S7.length) at_end (by have := d7.jlt; omega) (by have := d7.klt; omega) (by simp) (by simp)
    obtain ⟨v5, rfl, hv5⟩ : ∃ v : Nat, x = .int (v : Int) ∧ v ≤ 25 := by
      simp only [List.mem_cons, List.not_mem_nil, or_false] at hx
      rcases hx with rfl | rfl | rfl | rfl
      · exact ⟨25, rfl, by omega⟩
      · exact ⟨24, rfl, by omega⟩
      · exact ⟨1 + v4, rfl, by omega⟩
      · exact ⟨0, rfl, by omega⟩
    obtain ⟨x, S9, e3, ⟨gr, rfl, cgr, lgr⟩, d9, f9⟩ := row_ok G (n := n) (by omega) d8 (size := v5) (by omega)
    refine Ends.set (dR gr) S9 ?_ ?_
    · simp only [evE, evEs, List.getElem?_cons_zero, List.getElem?_cons_succ, R.bind_ok, e1, a1]
      rw [newL_ok (by simp)]
      simp only [R.bind_ok, e2, e3]
    show Ends (run co pf n) co _ [some (.lst k), some (.int p), some (dF p c iv), some (dR sh), some (dR fi), some (dR se), some (dR le), some (dR ri), some (dR gr), none, none, none, none, none, none, none] _ _
    have f9 := f6.trans (f7.trans ((Fr.app _).trans (f8.trans f9)))
    clear e1 e2 e3 d7 d8 f7 f8 hx d6 f6
    -- low
    obtain ⟨x, S10, e1, ⟨v6, rfl, hv6⟩, d10, f10⟩ := any_nat (n := n) (by omega) d9 (b := 6) (by omega) (by omega)
    obtain ⟨x, S11, e2, ⟨lo, rfl, clo, llo⟩, d11, f11⟩ := row_ok G (n := n) (by omega) d10 (size := 2 + v6) (by omega)
    have a2 : ∀ (v : Nat) S, binR .add (.int 2) (.int (v : Int)) S = .ok (.int ((2 + v : Nat) : Int)) S := fun v S => add_nat 2 v S
    refine Ends.set (dR lo) S11 (by simp only [evE, evEs, List.getElem?_cons_zero, List.getElem?_cons_succ, R.bind_ok, e1, a2, e2]) ?_
    show Ends (run co pf n) co _ [some (.lst k), some (.int p), some (dF p c iv), some (dR sh), some (dR fi), some (dR se), some (dR le), some (dR ri), some (dR gr), some (dR lo), none, none, none, none, none, none] _ _
    have f11 := f9.trans (f10.trans f11)
    clear e1 e2 d10 f10 d9 f9
    -- spot, many
    obtain ⟨x, S12, e1, ⟨sp, rfl, hsp⟩, d12, f12⟩ := thing_ok G (n := n) (by omega) d11
    obtain ⟨x, S13, e2, ⟨t, rfl, ht⟩, d13, f13⟩ := how_often_ok G (n := n) (by omega) d12
    refine Ends.par [dE sp, .int t] S13 [some (.lst k), some (.int p), some (dF p c iv), some (dR sh), some (dR fi), some (dR se), some (dR le), some (dR ri), some (dR gr), some (dR lo), some (dE sp), some (.int t), none, none, none, none] (by simp only [evE, evEs, List.getElem?_cons_zero, List.getElem?_cons_succ, R.bind_ok, e1, e2]) (by simp [setAll]) ?_
    have f13 := f11.trans (f12.trans f13)
    clear e1 e2 d12 f12 d11 f11
    -- against
    generalize hag : (le.drop 1).map (fun x => rd p (ml c x (-1, 0))) = ag
    have lag : ag.length = le.length - 1 := by rw [← hag]; simp
    have t1 : evE (run co pf n) co (.bi .tuple (.cons (.lc (.call "_law_often" (.cons (.v 2) (.cons (.v 15) (.cons (.neg (.c (.int 1))) .nil)))) (.nm 15) (.e (.sl (.v 6) (.som (.c (.int 1))) .non)) .yes [15]) .nil)) [some (.lst k), some (.int p), some (dF p c iv), some (dR sh), some (dR fi), some (dR se), some (dR le), some (dR ri), some (dR gr), some (dR lo), some (dE sp), some (.int t), none, none, none, none] S13 = .ok (dR ag) (S13 ++ [ag.map dE]) := by
      have sl : ∀ S, slR (dR le) (some 1) none S = .ok (.tup ((le.drop 1).map dE)) S := fun S => by
        simp only [slR, dR]
        rw [show (some (1 : Int)) = some ((1 : Nat) : Int) from rfl, cut_from, List.map_drop]
      have := evE_tupmap' (Γ := run co pf n) (elt := .call "_law_often" (.cons (.v 2) (.cons (.v 15) (.cons (.neg (.c (.int 1))) .nil)))) (tg := .nm 15) (it := .e (.sl (.v 6) (.som (.c (.int 1))) .non)) (own := [15]) (ρ := [some (.lst k), some (.int p), some (dF p c iv), some (dR sh), some (dR fi), some (dR se), some (dR le), some (dR ri), some (dR gr), some (dR lo), some (dE sp), some (.int t), none, none, none, none]) (S := S13) (S1 := S13) dE (fun x => dE (rd p (ml c x (-1, 0)))) (le.drop 1) (by simp only [evI, evE, evO, List.getElem?_cons_zero, List.getElem?_cons_succ, R.bind_ok, sl]) (by simp; omega) fun x hx => by
          have h1 := (law_often_ok (p := p) (c := c) (iv := iv) G.pp (G.sm (cL.red x (List.mem_of_mem_drop hx))) (-1)).call (n := n) (by omega)
          refine ⟨[some (.lst k), some (.int p), some (dF p c iv), some (dR sh), some (dR fi), some (dR se), some (dR le), some (dR ri), some (dR gr), some (dR lo), some (dE sp), some (.int t), none, none, none, some (dE x)], by simp [asg, wipeR], ?_⟩
          simp only [evE, evEs, List.getElem?_cons_zero, List.getElem?_cons_succ, R.bind_ok, h1]
      rw [← hag]
      simp only [dR, List.map_map] at this ⊢
      exact this
    refine Ends.set (dR ag) (S13 ++ [ag.map dE]) t1 ?_
    clear t1
    have d13 := d13.app [ag.map dE]
    have f13 := f13.trans (Fr.app (j := j) (k := k) (S := S13) [ag.map dE])
    generalize S13 ++ [ag.map dE] = S13 at *
    show Ends (run co pf n) co _ [some (.lst k), some (.int p), some (dF p c iv), some (dR sh), some (dR fi), some (dR se), some (dR le), some (dR ri), some (dR gr), some (dR lo), some (dE sp), some (.int t), some (dR ag), none, none, none] _ _
    generalize hag2 : List.replicate (le.length - ag.length) zr ++ ag = ag2
    have lag2 : ag2.length ≤ 100 := by rw [← hag2]; simp; omega
    have cag : Can p (trim ag2) := can_trim fun x hx => by
      rw [← hag2] at hx
      rcases List.mem_append.mp hx with h | h
      · rw [List.eq_of_mem_replicate h]; simp [rd]
      · rw [← hag] at h
        simp only [List.mem_map] at h
        obtain ⟨y, _, rfl⟩ := h
        exact G.rr _
    have lag3 := trim_len ag2
    obtain ⟨E1, t2⟩ := (law_trim_ok (S := S13 ++ [[dE zr]] ++ [List.replicate (le.length - ag.length) (dE zr)] ++ [ag.map dE] ++ [ag2.map dE]) (d := .lst (S13 ++ [[dE zr]] ++ [List.replicate (le.length - ag.length) (dE zr)] ++ [ag.map dE]).length) (r := ag2) (.inr ⟨_, rfl, at_end⟩) (by omega)).call (n := n) (by omega) (by rfl)
    refine Ends.set (dR (trim ag2)) (S13 ++ [[dE zr]] ++ [List.replicate (le.length - ag.length) (dE zr)] ++ [ag.map dE] ++ [ag2.map dE] ++ E1) ?_ ?_
    · have bl1 : ∀ (r : Row) S, biR .len [dR r] S = .ok (.int r.length) S := fun r S => by simp [dR]
      have sb1 : ∀ S, binR .sub (.int (le.length : Int)) (.int (ag.length : Int)) S = .ok (.int ((le.length - ag.length : Nat) : Int)) S := fun S => by
        rw [bin_sub, show (le.length : Int) - (ag.length : Int) = ((le.length - ag.length : Nat) : Int) by omega]
      have bl2 : ∀ S, biR .list [dR ag] S = newL (ag.map dE) S := fun S => rfl
      simp only [evE, evEs, List.getElem?_cons_zero, List.getElem?_cons_succ, R.bind_ok]
      rw [newT_ok (by simp), show Z.D.tup [.int 0, .int 0] = dE zr from rfl]
      simp only [R.bind_ok]
      rw [newL_ok (by simp)]
      simp only [R.bind_ok, bl1, sb1]
      rw [binR_mulL at_end (by omega) (by omega), rep_one, newL_ok (by simp; omega)]
      simp only [R.bind_ok, bl2, Int.toNat_natCast]
      rw [newL_ok (by simp; omega)]
      simp only [R.bind_ok]
      rw [binR_addL (xs := List.replicate (le.length - ag.length) (dE zr)) (ys := ag.map dE) (append_self_none _ _ at_end) at_end]
      rw [show List.replicate (le.length - ag.length) (dE zr) ++ ag.map dE = ag2.map dE by rw [← hag2]; simp, newL_ok (by simp; omega)]
      simp only [R.bind_ok]
      exact t2
    have d14 := ((((d13.app [[dE zr]]).app [List.replicate (le.length - ag.length) (dE zr)]).app [ag.map dE]).app [ag2.map dE]).app E1
    have f14 := f13.trans ((Fr.app (j := j) (k := k) (S := S13) [[dE zr]]).trans ((Fr.app [List.replicate (le.length - ag.length) (dE zr)]).trans ((Fr.app [ag.map dE]).trans ((Fr.app [ag2.map dE]).trans (Fr.app E1)))))
    generalize S13 ++ [[dE zr]] ++ [List.replicate (le.length - ag.length) (dE zr)] ++ [ag.map dE] ++ [ag2.map dE] ++ E1 = S14 at *
    clear t2 hag hag2
    generalize trim ag2 = at2 at *
    show Ends (run co pf n) co _ [some (.lst k), some (.int p), some (dF p c iv), some (dR sh), some (dR fi), some (dR se), some (dR le), some (dR ri), some (dR gr), some (dR lo), some (dE sp), some (.int t), some (dR at2), none, none, none] _ _
    -- tail
    obtain ⟨x, S15, e1, hx, d15, f15⟩ := of_ok (n := n) (by omega) (d14.app [[Z.D.int 0, .int 1, .int 5]]) (m := S14.length) at_end (by have := d14.jlt; omega) (by have := d14.klt; omega) (by simp) (by simp)
    obtain ⟨ta, rfl, hta⟩ : ∃ v : Nat, x = .int (v : Int) ∧ v ≤ 5 := by
      simp only [List.mem_cons, List.not_mem_nil, or_false] at hx
      rcases hx with rfl | rfl | rfl
      · exact ⟨0, rfl, by omega⟩
      · exact ⟨1, rfl, by omega⟩
      · exact ⟨5, rfl, by omega⟩
    refine Ends.set (.int ta) S15 ?_ ?_
    · simp only [evE, evEs, List.getElem?_cons_zero, List.getElem?_cons_succ, R.bind_ok]
      rw [newL_ok (by simp)]
      simp only [R.bind_ok, e1]
    have f15 := f14.trans ((Fr.app _).trans f15)
    clear e1 hx d14 f14 d13 f13
    show Ends (run co pf n) co _ [some (.lst k), some (.int p), some (dF p c iv), some (dR sh), some (dR fi), some (dR se), some (dR le), some (dR ri), some (dR gr), some (dR lo), some (dE sp), some (.int t), some (dR at2), some (.int ta), none, none] _ _
    -- the list
    generalize hpad : le ++ List.replicate ta zr = pad
    have tpad : trim pad = le := by rw [← hpad]; exact trim_pad cL ta
    have lpad : pad.length ≤ 100 := by rw [← hpad]; simp; omega
    have ev6 : ∀ S, evE (run co pf n) co (.bin .add (.v 6) (.bin .mul (.tup (.cons (.tup (.cons (.c (.int 0)) (.cons (.c (.int 0)) .nil))) .nil)) (.v 13))) [some (.lst k), some (.int p), some (dF p c iv), some (dR sh), some (dR fi), some (dR se), some (dR le), some (dR ri), some (dR gr), some (dR lo), some (dE sp), some (.int t), some (dR at2), some (.int ta), none, none] S = .ok (dR pad) S := fun S => by
      simp only [evE, evEs, List.getElem?_cons_zero, List.getElem?_cons_succ, R.bind_ok]
      rw [newT_ok (by simp), show Z.D.tup [.int 0, .int 0] = dE zr from rfl]
      simp only [R.bind_ok]
      rw [newT_ok (by simp)]
      simp only [R.bind_ok]
      have m1 : binR .mul (.tup [dE zr]) (.int (ta : Int)) S = .ok (.tup (List.replicate ta (dE zr))) S := by
        simp only [binR]
        rw [if_pos ⟨by omega, by omega, by simp⟩, rep_one, Int.toNat_natCast]
      rw [m1]
      simp only [R.bind_ok, dR, binR]
      rw [show le.map dE ++ List.replicate ta (dE zr) = pad.map dE by rw [← hpad]; simp]
      exact newT_ok (by simp; omega)
    have P3 : ∀ {r : Row}, r.length ≤ 1000 → Pv 3 (dR r) := fun h => (pv_R h).ups (by omega)
    have P4 : ∀ {r : Row}, r.length ≤ 1000 → Pv 4 (dR r) := fun h => (pv_R h).ups (by omega)
    have lsh10 : sh.length ≤ 10 := by omega
    have lfi10 : fi.length ≤ 10 := by omega
    have lse11 : se.length ≤ 11 := by omega
    have lle : le.length ≤ 20 := by omega
    have lri : ri.length ≤ 20 := by omega
    have lgr25 : gr.length ≤ 25 := by omega
    have llo2 : 2 ≤ lo.length := by omega
    have llo7 : lo.length ≤ 10 := by omega
    have lat : at2.length ≤ 100 := by omega
    have nlo : lo ≠ [] := by intro h; rw [h] at llo2; simp at llo2
    have cpoly : Cs (.tup [rowD "poly" p (dR pad) (dR []) (.int 0), .tup [dR le, dR pad, dR le]]) := by
      refine cs_mk (by simp) (by simp) rfl ?_ ?_ rfl
      · refine pv_T (by simp) fun y hy => ?_
        simp only [List.mem_cons, List.not_mem_nil, or_false] at hy
        rcases hy with rfl | rfl | rfl
        · exact P3 (by omega)
        · exact P3 (by omega)
        · exact P3 (by omega)
      · have := ask_poly G (l := pad) (by omega) (r := dR []) (m := .int 0) (by simp) rfl
        rwa [tpad] at this
    have hj15 := f15.len
    refine Ends.set (.lst S15.length) (S15 ++ [[.tup [rowD "poly" p (dR pad) (dR []) (.int 0), .tup [dR le, dR pad, dR le]]]]) ?_ ?_
    · rw [evE]
      simp only [evEs]
      rw [ev_row (p := p) (l := dR pad) (r := dR []) (m := .int 0) (d := .tup [dR le, dR pad, dR le]) rfl (ev6 _) ev_nil ev_int]
      · simp only [R.bind_ok]
        exact newL_ok (by simp)
      · exact ev_t3 (by simp [evE]) (ev6 S15) (by simp [evE])
    show Ends (run co pf n) co _ [some (.lst k), some (.int p), some (dF p c iv), some (dR sh), some (dR fi), some (dR se), some (dR le), some (dR ri), some (dR gr), some (dR lo), some (dE sp), some (.int t), some (dR at2), some (.int ta), some (.lst S15.length), none] _ _
    have A0 : Asks (S15 ++ [[.tup [rowD "poly" p (dR pad) (dR []) (.int 0), .tup [dR le, dR pad, dR le]]]]) S15.length 1 false := ⟨_, at_end, fun x hx => by rw [List.mem_singleton.mp hx]; exact cpoly, by simp, fun h => by cases h⟩
    have D0 := d15.app [[Z.D.tup [rowD "poly" p (dR pad) (dR []) (.int 0), .tup [dR le, dR pad, dR le]]]]
    have F0 := f15.trans (Fr.app (j := j) (k := k) (S := S15) [[Z.D.tup [rowD "poly" p (dR pad) (dR []) (.int 0), .tup [dR le, dR pad, dR le]]]])
    generalize S15 ++ [[Z.D.tup [rowD "poly" p (dR pad) (dR []) (.int 0), .tup [dR le, dR pad, dR le]]]] = S16 at *
    generalize S15.length = f at *
    clear ev6 d15 f15 cpoly
    -- the questions
    have g1 := (law_rows_plus_ok (c := c) (iv := iv) G.pp (a := gr) (b := ri) (by omega) (by omega)).call (n := n) (by omega)
    rw [addR2_eq G.pp cgr.red cR.red] at g1
    have g2 := (law_rows_plus_ok (c := c) (iv := iv) G.pp (a := le) (b := at2) (by omega) (by omega)).call (n := n) (by omega)
    rw [addR2_eq G.pp cL.red cag.red] at g2
    have g3 := (law_rows_by_ok G cfi.red cse.red (by omega) (by omega)).call (n := n) (by omega)
    have g4 := (law_rows_by_ok G csh.red cR.red (by omega) (by omega)).call (n := n) (by omega)
    have g5 := (law_parts_fn G cgr clo (by omega) (by omega) nlo).call (n := n) (by omega)
    have g6 := (law_common_ok G cL cR (by omega) (by omega)).call (n := n) (by omega)
    have g7 := (law_monic_ok G cgr (by omega)).call (n := n) (by omega)
    have g8 := (law_slope_ok G cgr.red (by omega)).call (n := n) (by omega)
    have g9 := (law_worth_ok G (a := gr) (t := sp) (by omega)).call (n := n) (by omega)
    have g10 := (law_rest_power_ok G cse clo (by omega) (by omega) llo2 ht).call (n := n) (by omega)
    have g11 := (law_turned_row_ok G (a := gr) (by omega)).call (n := n) (by omega)
    have g12 := (law_turned_row_ok G (a := fi) (by omega)).call (n := n) (by omega)
    have g13 := (law_turned_row_ok G (a := sh) (by omega)).call (n := n) (by omega)
    have g14 := (law_rows_by_ok G (cjR_can G cfi).red (cjR_can G csh).red (by rw [cjR_len]; omega) (by rw [cjR_len]; omega)).call (n := n) (by omega)
    have g15 := (whole_norm_ok G cfi (by omega)).call (n := n) (by omega)
    -- 1 plus
    refine Ends.app (x := .tup [rowD "plus" p (dR gr) (dR ri) (.int 0), dR (addR p gr ri)]) rfl (ev_row rfl (by simp [evE]) (by simp [evE]) ev_int (by simp only [evE, evEs, List.getElem?_cons_zero, List.getElem?_cons_succ, R.bind_ok, g1])) (cs_mk (by simp) (by simp) rfl (P4 (by have := addR_len (p := p) (a := gr) (b := ri); omega)) (ask_plus (by simp) (by simp) rfl ((pair_plus_ok G (by omega) (by omega)).up (by omega))) rfl) (by omega) A0 D0 F0 hj15 jS kS fun S17 A1 D1 F1 => ?_
    refine Ends.app (x := .tup [rowD "plus" p (dR le) (dR at2) (.int 0), dR (addR p le at2)]) rfl (ev_row rfl (by simp [evE]) (by simp [evE]) ev_int (by simp only [evE, evEs, List.getElem?_cons_zero, List.getElem?_cons_succ, R.bind_ok, g2])) (cs_mk (by simp) (by simp) rfl (P4 (by have := addR_len (p := p) (a := le) (b := at2); omega)) (ask_plus (by simp) (by simp) rfl ((pair_plus_ok G (by omega) (by omega)).up (by omega))) rfl) (by omega) A1 D1 F1 hj15 jS kS fun S18 A2 D2 F2 => ?_
    clear A0 D0 F0 A1 D1 F1
    refine Ends.app (x := .tup [rowD "by" p (dR fi) (dR se) (.int 0), dR (mulR p c fi se)]) rfl (ev_row rfl (by simp [evE]) (by simp [evE]) ev_int (by simp only [evE, evEs, List.getElem?_cons_zero, List.getElem?_cons_succ, R.bind_ok, g3])) (cs_mk (by simp) (by simp) rfl (P4 (by have := mulR_len (p := p) (c := c) (a := fi) (b := se); omega)) (ask_by (by simp) (by simp) rfl ((pair_by_ok G cfi.red cse.red (by omega) (by omega)).up (by omega))) rfl) (by omega) A2 D2 F2 hj15 jS kS fun S19 A3 D3 F3 => ?_
    refine Ends.app (x := .tup [rowD "by" p (dR sh) (dR ri) (.int 0), dR (mulR p c sh ri)]) rfl (ev_row rfl (by simp [evE]) (by simp [evE]) ev_int (by simp only [evE, evEs, List.getElem?_cons_zero, List.getElem?_cons_succ, R.bind_ok, g4])) (cs_mk (by simp) (by simp) rfl (P4 (by have := mulR_len (p := p) (c := c) (a := sh) (b := ri); omega)) (ask_by (by simp) (by simp) rfl ((pair_by_ok G csh.red cR.red (by omega) (by omega)).up (by omega))) rfl) (by omega) A3 D3 F3 hj15 jS kS fun S20 A4 D4 F4 => ?_
    clear A2 D2 F2 A3 D3 F3
    have pT : ∀ {q r : Row}, q.length ≤ 1000 → r.length ≤ 1000 → Pv 4 (.tup [dR q, dR r]) := fun h1 h2 => pv_T (by simp) fun y hy => by
      simp only [List.mem_cons, List.not_mem_nil, or_false] at hy
      rcases hy with rfl | rfl
      · exact P3 h1
      · exact P3 h2
    refine Ends.app (x := .tup [rowD "parts" p (dR gr) (dR lo) (.int 0), .tup [dR (qut p c gr lo), dR (rst p c gr lo)]]) rfl (ev_row rfl (by simp [evE]) (by simp [evE]) ev_int (by simp only [evE, evEs, List.getElem?_cons_zero, List.getElem?_cons_succ, R.bind_ok, g5])) (cs_mk (by simp) (by simp) rfl (pT (by have := qut_le G cgr clo (by omega) (by omega) nlo; omega) (by have := (div_fn G cgr clo (by omega) (by omega) nlo).len; omega)) (ask_parts (by simp) (by simp) rfl ((pair_parts_ok G cgr clo (by omega) (by omega) nlo).up (by omega))) rfl) (by omega) A4 D4 F4 hj15 jS kS fun S21 A5 D5 F5 => ?_
    have q6 : Rc 5 "pair_parts" [.int p, dR le, dR sh] (.tup [dR fi, dR []]) := by
      have := pair_parts_ok G cL csh (by omega) (by omega) nsh
      rwa [DM.1, DM.2] at this
    refine Ends.app (x := .tup [rowD "parts" p (dR le) (dR sh) (.int 0), .tup [dR fi, dR []]]) rfl (ev_row rfl (by simp [evE]) (by simp [evE]) ev_int (ev_t2 (by simp [evE]) ev_nil)) (cs_mk (by simp) (by simp) rfl (pT (by omega) (by simp)) (ask_parts (by simp) (by simp) rfl (q6.up (by omega))) rfl) (by omega) A5 D5 F5 hj15 jS kS fun S22 A6 D6 F6 => ?_
    clear A4 D4 F4 A5 D5 F5
    refine Ends.app (x := .tup [rowD "common" p (dR le) (dR ri) (.int 0), dR (monR p c iv (gcdN p c 80 le ri))]) rfl (ev_row rfl (by simp [evE]) (by simp [evE]) ev_int (by simp only [evE, evEs, List.getElem?_cons_zero, List.getElem?_cons_succ, R.bind_ok, g6])) (cs_mk (by simp) (by simp) rfl (P4 (by rw [monR_len]; exact (gcdN_len G 80 cL cR (by omega) (by omega)).1)) (ask_common (by simp) (by simp) rfl ((pair_common_ok G cL cR (by omega) (by omega)).up (by omega))) rfl) (by omega) A6 D6 F6 hj15 jS kS fun S23 A7 D7 F7 => ?_
    have q7 : Rc 6 "pair_common" [.int p, dR gr, dR []] (dR (monR p c iv gr)) := by
      have := pair_common_ok G cgr can_nil (b := []) (by omega) (by simp)
      rwa [gcdN_nil] at this
    refine Ends.app (x := .tup [rowD "common" p (dR gr) (dR []) (.int 0), dR (monR p c iv gr)]) rfl (ev_row rfl (by simp [evE]) ev_nil ev_int (by simp only [evE, evEs, List.getElem?_cons_zero, List.getElem?_cons_succ, R.bind_ok, g7])) (cs_mk (by simp) (by simp) rfl (P4 (by rw [monR_len]; omega)) (ask_common (by simp) (by simp) rfl (q7.up (by omega))) rfl) (by omega) A7 D7 F7 hj15 jS kS fun S24 A8 D8 F8 => ?_
    clear A6 D6 F6 A7 D7 F7
    refine Ends.app (x := .tup [rowD "slope" p (dR gr) (dR []) (.int 0), dR (trim (slP p c gr))]) rfl (ev_row rfl (by simp [evE]) ev_nil ev_int (by simp only [evE, evEs, List.getElem?_cons_zero, List.getElem?_cons_succ, R.bind_ok, g8])) (cs_mk (by simp) (by simp) rfl (P4 (Nat.le_trans (trim_len _) (by simp [slP]; omega))) (ask_slope (by simp) (by simp) rfl ((pair_derived_ok G cgr.red (by omega)).up (by omega))) rfl) (by omega) A8 D8 F8 hj15 jS kS fun S25 A9 D9 F9 => ?_
    refine Ends.app (x := .tup [rowD "worth" p (dR gr) (dE sp) (.int 0), dE (wv p c sp gr.reverse)]) rfl (ev_row rfl (by simp [evE]) (by simp [evE]) ev_int (by simp only [evE, evEs, List.getElem?_cons_zero, List.getElem?_cons_succ, R.bind_ok, g9])) (cs_mk (by simp) (by simp) rfl ((pv_E _).ups (by omega)) (ask_worth (by simp) (by simp) rfl ((pair_at_ok G (by omega)).up (by omega))) rfl) (by omega) A9 D9 F9 hj15 jS kS fun S26 A10 D10 F10 => ?_
    clear A8 D8 F8 A9 D9 F9
    have q11 := pair_power_ok G cse clo (t := t) (by omega) (by omega) llo2 ht
    refine Ends.appP (l0 := dR se) (r := dR lo) (m := .int t) (due := dR (pwr p c se lo t)) rfl (ev_row rfl (by simp [evE]) (by simp [evE]) (by simp [evE]) (by simp only [evE, evEs, List.getElem?_cons_zero, List.getElem?_cons_succ, R.bind_ok, g10])) ⟨⟨_, p, dR se, dR lo, .int t, _, rfl, by simp, by simp, rfl, P4 (by have := pwr_len (p := p) (c := c) (a := se) (t := t) nlo; omega), ask_power (by simp) (by simp) rfl (q11.up (by omega)), fun _ => q11.up (by omega)⟩⟩ (by omega) A10 D10 F10 hj15 jS kS fun S27 A11 D11 F11 => ?_
    refine Ends.app (x := .tup [rowD "turned" p (dR gr) (dR []) (.int 0), dR (cjR p c gr)]) rfl (ev_row rfl (by simp [evE]) ev_nil ev_int (by simp only [evE, evEs, List.getElem?_cons_zero, List.getElem?_cons_succ, R.bind_ok, g11])) (cs_mk (by simp) (by simp) rfl (P4 (by rw [cjR_len]; omega)) (ask_turned (by simp) (by simp) rfl ((turned_poly_ok G (by omega)).up (by omega))) rfl) (by omega) A11 D11 F11 hj15 jS kS fun S28 A12 D12 F12 => ?_
    clear A10 D10 F10 A11 D11 F11
    have q13 : Rc 4 "turned_poly" [.int p, dR le] (dR (mulR p c (cjR p c fi) (cjR p c sh))) := by
      have := turned_poly_ok G (a := le) (by omega)
      rwa [CJ] at this
    refine Ends.app (x := .tup [rowD "turned" p (dR le) (dR []) (.int 0), dR (mulR p c (cjR p c fi) (cjR p c sh))]) rfl (ev_row rfl (by simp [evE]) ev_nil ev_int (by simp only [evE, evEs, List.getElem?_cons_zero, List.getElem?_cons_succ, R.bind_ok, g12, g13, g14])) (cs_mk (by simp) (by simp) rfl (P4 (by have := mulR_len (p := p) (c := c) (a := cjR p c fi) (b := cjR p c sh); rw [cjR_len, cjR_len] at this; omega)) (ask_turned (by simp) (by simp) rfl (q13.up (by omega))) rfl) (by omega) A12 D12 F12 hj15 jS kS fun S29 A13 D13 F13 => ?_
    refine Ends.app (x := .tup [rowD "by" p (dR fi) (dR (cjR p c fi)) (.int 0), dR (mulR p c fi (cjR p c fi))]) rfl (ev_row rfl (by simp [evE]) (by simp only [evE, evEs, List.getElem?_cons_zero, List.getElem?_cons_succ, R.bind_ok, g12]) ev_int (by simp only [evE, evEs, List.getElem?_cons_zero, List.getElem?_cons_succ, R.bind_ok, g15])) (cs_mk (by simp) (by simp) rfl (P4 (by have := mulR_len (p := p) (c := c) (a := fi) (b := cjR p c fi); rw [cjR_len] at this; omega)) (ask_by (by simp) (by simp) rfl ((pair_by_ok G cfi.red (cjR_can G cfi).red (by omega) (by rw [cjR_len]; omega)).up (by omega))) rfl) (by omega) A13 D13 F13 hj15 jS kS fun S30 A14 D14 F14 => ?_
    clear A12 D12 F12 A13 D13 F13
    -- the last
    obtain ⟨x, S31, e1, hx, d31, f31⟩ := plain_case_ok G (n := n) (by omega) D14
    obtain ⟨l, h1, h2, h3, h4⟩ := A14
    have h5 := f31.same f (by omega) (by omega) _ h1
    refine Ends.ret (.lst (S31 ++ [[x]]).length) (S31 ++ [[x]] ++ [l ++ [x]]) ?_ ⟨⟨_, rfl, ⟨l ++ [x], at_end, fun y hy => ?_, by simp; omega, fun hp => ?_⟩, ?_⟩, (d31.app _).app _, (F14.trans f31).trans ((Fr.app _).trans (Fr.app _))⟩
    · simp only [evE, evEs, List.getElem?_cons_zero, List.getElem?_cons_succ, R.bind_ok, e1]
      rw [newL_ok (by simp)]
      simp only [R.bind_ok]
      rw [binR_addL (append_self_none _ _ h5) at_end, newL_ok (by simp; omega)]
    · rcases List.mem_append.mp hy with h | h
      · exact h2 y h
      · rw [List.mem_singleton.mp h]; exact hx
    · obtain ⟨p, l0, r, m, due, h⟩ := h4 hp
      exact ⟨p, l0, r, m, due, List.mem_append_left _ h⟩
    · have := (F14.trans f31).len
      simp; omega
end
end Z.K01
end
section
set_option Elab.async false
set_option linter.all false
set_option autoImplicit false
set_option maxRecDepth 100000
set_option maxHeartbeats 8000000
namespace Z.K01
open PySem Z M
mutual
theorem shift_zero : ∀ d : Z.D, d.shift 0 = d
  | .non => rfl
  | .bl _ => rfl
  | .int _ => rfl
  | .str _ => rfl
  | .tup xs => by simp only [D.shift, shifts_zero xs]
  | .lst n => rfl
  | .ro xs => by simp only [D.shift, shifts_zero xs]
theorem shifts_zero : ∀ xs : List Z.D, shifts 0 xs = xs
  | [] => rfl
  | x :: xs => by simp only [shifts, shift_zero x, shifts_zero xs]
end
def most : Int := 10 ^ 384
theorem most_pos : 0 < most := by decide
theorem ev_most (Γ : Calls) (ρ : Rho) (S : Sto) : evE Γ co (.bin .mul (.bin .mul (.bin .mul (.bin .mul (.bin .mul (.bin .pow (.c (.int 10)) (.c (.int 64))) (.bin .pow (.c (.int 10)) (.c (.int 64)))) (.bin .pow (.c (.int 10)) (.c (.int 64)))) (.bin .pow (.c (.int 10)) (.c (.int 64)))) (.bin .pow (.c (.int 10)) (.c (.int 64)))) (.bin .pow (.c (.int 10)) (.c (.int 64)))) ρ S = .ok (.int most) S := by
  have p1 : ∀ S, binR .pow (.int 10) (.int 64) S = .ok (.int (10 ^ 64)) S := fun S => by kernel_rfl
  have m : ∀ (a b : Int), mulOk a b → ∀ S, binR .mul (.int a) (.int b) S = .ok (.int (a * b)) S := fun a b h => bin_mul h
  have m1 := m (10 ^ 64) (10 ^ 64) (by decide)
  have m2 := m (10 ^ 64 * 10 ^ 64) (10 ^ 64) (by decide)
  have m3 := m (10 ^ 64 * 10 ^ 64 * 10 ^ 64) (10 ^ 64) (by decide)
  have m4 := m (10 ^ 64 * 10 ^ 64 * 10 ^ 64 * 10 ^ 64) (10 ^ 64) (by decide)
  have m5 := m (10 ^ 64 * 10 ^ 64 * 10 ^ 64 * 10 ^ 64 * 10 ^ 64) (10 ^ 64) (by decide)
  have e : (10 ^ 64 * 10 ^ 64 * 10 ^ 64 * 10 ^ 64 * 10 ^ 64 * 10 ^ 64 : Int) = most := by decide
  rw [e] at m5
  simp only [evE, R.bind_ok, p1, m1, m2, m3, m4, m5]
theorem deal_ends {n : Nat} (ns : List Int) (hn : ns.length ≤ 63) : Ends (run co pf n) co b__law_deal [some (.ro (ns.map Z.D.int)), some (.int 1), none, none, none, none] [] fun x S' => ∃ j k : Nat, x = .lst k ∧ Dl j k S' := by
  have hM := most_pos
  have eM := ev_most (run co pf n)
  unfold b__law_deal
  refine Ends.set (.int most) [] (eM _ _) ?_
  clear eM
  generalize most = W at *
  show Ends (run co pf n) co _ [some (.ro (ns.map Z.D.int)), some (.int 1), some (.int W), none, none, none] _ _
  have sl : evE (run co pf n) co (.sl (.v 0) .non (.som (.c (.int 63)))) [some (.ro (ns.map Z.D.int)), some (.int 1), some (.int W), none, none, none] [] = .ok (.lst 0) [ns.map Z.D.int] := by
    have ec : cut (ns.map Z.D.int) none (some (63 : Int)) = ns.map Z.D.int := by
      unfold cut
      rw [show (some (63 : Int)) = some ((63 : Nat) : Int) from rfl, HT.sIx_none, HT.sIx_nat, Nat.min_eq_right (by simp; omega), Nat.sub_zero, List.drop_zero, List.take_length]
    simp only [evE, evO, List.getElem?_cons_zero, R.bind_ok, slR, ec]
    rw [newL_ok (by simp; omega)]
    rfl
  generalize hms : ns.map (fun x => (if x < 0 then -x else x) % W) = ms
  have lms : ms.length ≤ 63 := by rw [← hms]; simpa using hn
  have h0 := evE_lc (Γ := run co pf n) (Co := co) (ρ := [some (.ro (ns.map Z.D.int)), some (.int 1), some (.int W), none, none, none]) (S := []) (S1 := [ns.map Z.D.int]) (gd := [(0, ns.map Z.D.int)]) (elt := .bin .mod (.bi .int (.cons (.bi .abs (.cons (.bi .int (.cons (.v 3) .nil)) .nil)) .nil)) (.v 2)) (tg := .nm 3) (it := .e (.sl (.v 0) .non (.som (.c (.int 63))))) (own := [3])
    Z.D.int (fun x => Z.D.int ((if x < 0 then -x else x) % W)) ns (by rw [evI, sl]; rfl) (chk_at rfl) (by omega) fun x _ => by
      refine ⟨[some (.ro (ns.map Z.D.int)), some (.int 1), some (.int W), some (.int x), none, none], by simp [asg, wipeR], ?_⟩
      have md : ∀ (a : Int) S, binR .mod (.int a) (.int W) S = .ok (.int (a % W)) S := fun a S => by simp only [binR, intB]; rw [if_pos hM]
      simp only [evE, evEs, List.getElem?_cons_zero, List.getElem?_cons_succ, R.bind_ok, biR_int, biR_abs, md]
  have e1 : ns.map (fun x => Z.D.int ((if x < 0 then -x else x) % W)) = ms.map Z.D.int := by rw [← hms, List.map_map]; rfl
  rw [e1] at h0
  refine Ends.set (.lst 1) [ns.map Z.D.int, ms.map Z.D.int] h0 ?_
  refine Ends.set (.int 77920) [ns.map Z.D.int, ms.map Z.D.int] (by rfl) ?_
  show Ends (run co pf n) co _ [some (.ro (ns.map Z.D.int)), some (.int 1), some (.int W), none, some (.lst 1), some (.int 77920)] _ _
  generalize (77920 : Int) = m0
  refine Ends.fo2 [(1, ms.map Z.D.int)] Z.D.int ms [ns.map Z.D.int, ms.map Z.D.int] (by simp [evI, evE]) (fun pre ρ S => ∃ (o3 : Option Z.D) (mix : Int), S = [ns.map Z.D.int, ms.map Z.D.int] ∧ ρ = [some (.ro (ns.map Z.D.int)), some (.int 1), some (.int W), o3, some (.lst 1), some (.int mix)]) ⟨none, m0, rfl, rfl⟩ ?_ ?_ ?_
  · rintro pre x post ρ S _ ⟨o3, mix, rfl, rfl⟩
    refine ⟨chk_at rfl, [some (.ro (ns.map Z.D.int)), some (.int 1), some (.int W), some (.int x), some (.lst 1), some (.int mix)], by simp [asg], ?_⟩
    have m1 : ∀ S, binR .mul (.int mix) (.int 69621) S = .ok (.int (mix * 69621)) S := bin_mul (mkR (by decide) (by decide))
    have md1 : ∀ (a : Int) S, binR .mod (.int a) (.int 2147483563) S = .ok (.int (a % 2147483563)) S := fun a S => rfl
    have md2 : ∀ (a : Int) S, binR .mod (.int a) (.int 2147483647) S = .ok (.int (a % 2147483647)) S := fun a S => rfl
    refine Nx.set (.int ((mix * 69621 + x % 2147483563 + 23) % 2147483647)) [ns.map Z.D.int, ms.map Z.D.int] ?_ (Nx.nil ⟨_, _, rfl, rfl⟩)
    simp only [evE, evEs, List.getElem?_cons_zero, List.getElem?_cons_succ, R.bind_ok, biR_int, m1, md1, bin_add, md2]
  · rintro ρ S ⟨o3, mix, rfl, rfl⟩
    exact chk_at rfl
  · rintro ρ1 S1 ⟨o3, mix, rfl, rfl⟩
    have pw : ∀ S, binR .pow (.int 10) (.int 18) S = .ok (.int 1000000000000000000) S := fun S => rfl
    have h1 := evE_lcF (Γ := run co pf n) (Co := co) (ρ := [some (.ro (ns.map Z.D.int)), some (.int 1), some (.int W), o3, some (.lst 1), some (.int mix)]) (S := [ns.map Z.D.int, ms.map Z.D.int]) (S1 := [ns.map Z.D.int, ms.map Z.D.int]) (gd := [(1, ms.map Z.D.int)]) (elt := .v 3) (tg := .nm 3) (it := .e (.v 4)) (t := .val (.cmp .ge (.v 3) (.bin .pow (.c (.int 10)) (.c (.int 18))))) (own := [3])
      Z.D.int Z.D.int (fun x => decide ((1000000000000000000 : Int) ≤ x)) ms (by simp [evI, evE]) (chk_at rfl) (by omega) fun x _ => by
        refine ⟨[some (.ro (ns.map Z.D.int)), some (.int 1), some (.int W), some (.int x), some (.lst 1), some (.int mix)], by simp [asg, wipeR], ?_, fun _ => by simp [evE]⟩
        simp only [evT, evE, List.getElem?_cons_zero, List.getElem?_cons_succ, R.bind_ok, pw, cmpR, truthR, optR_some]
    generalize hks : ms.filter (fun x => decide ((1000000000000000000 : Int) ≤ x)) = ks at h1
    have lks : ks.length ≤ 63 := by rw [← hks]; exact Nat.le_trans (List.length_filter_le _ _) lms
    refine Ends.ret (.lst 4) [ns.map Z.D.int, ms.map Z.D.int, ks.map Z.D.int, ks.reverse.map Z.D.int, [.lst 3, .int mix]] ?_ ⟨3, 4, rfl, ⟨by decide, ks.reverse, mix, rfl, rfl, by simp; omega⟩⟩
    rw [evE]
    simp only [evEs]
    rw [evE, h1]
    simp only [R.bind_ok, revR, List.length_cons, List.length_nil, Nat.zero_add, List.cons_append, List.nil_append, List.getElem?_cons_zero, List.getElem?_cons_succ]
    rw [newL_ok (by simp; omega)]
    simp only [R.bind_ok, evE, List.getElem?_cons_zero, List.getElem?_cons_succ, List.length_cons, List.length_nil, Nat.zero_add, List.cons_append, List.nil_append]
    rw [newL_ok (by simp), List.map_reverse]
    rfl
theorem deal_call {n : Nat} (hn : 1 ≤ n) (ns : List Int) (h : ns.length ≤ 63) : ∃ (j k : Nat) (S' : Sto), callR (run co pf n) "_law_deal" [.ro (ns.map Z.D.int), .int 1] [] = .ok (.lst k) S' ∧ Dl j k S' := by
  obtain ⟨n', rfl⟩ : ∃ n', n = n' + 1 := ⟨n - 1, by omega⟩
  obtain ⟨x, S', e, j, k, rfl, d⟩ := deal_ends (n := n') ns h
  refine ⟨j, k, S', ?_, d⟩
  unfold callR
  rw [if_pos (by simp [pures, D.pure]), r__law_deal]
  have e' : evSs (run co pf n') co b__law_deal (List.map some [Z.D.ro (ns.map Z.D.int), .int 1] ++ List.replicate (6 - 2) none) [] = .rt (.lst k) S' := e
  simp only [runFn, List.length_cons, List.length_nil, Nat.zero_add, if_true, e', D.pure, Bool.false_eq_true, if_false]
  rw [show (shifts 0) = id from funext shifts_zero]
  simp [D.shift]
theorem primes_call {n : Nat} (hn : 1 ≤ n) (S : Sto) : callR (run co pf n) "_law_primes" [] S = .ok (.lst S.length) (S ++ [primes.map Z.D.int]) := by
  obtain ⟨n', rfl⟩ : ∃ n', n = n' + 1 := ⟨n - 1, by omega⟩
  unfold callR
  rw [if_pos (by rfl), r__law_primes]
  have e' : runFn (run co pf n') co ⟨0, 0, b__law_primes⟩ [] [] = .ok (.lst 0) [primes.map Z.D.int] := by kernel_rfl
  rw [e']
  simp only [D.pure, Bool.false_eq_true, if_false, D.shift, Nat.zero_add, List.map_cons, List.map_nil]
  rfl
end Z.K01
end
section
set_option Elab.async false
set_option linter.all false
set_option autoImplicit false
set_option maxRecDepth 100000
set_option maxHeartbeats 8000000
namespace Z.K01
open PySem Z M
section
def dueOf : Z.D → Z.D
  | .tup [_, due] => due
  | _ => .non
def wordOf : Z.D → Str
  | .tup [.tup (.str w :: _), _] => w
  | _ => "power"
def isPow (d : Z.D) : Bool := PyData.eqv (.str (wordOf d)) (.str "power")
theorem ask_list {n q : Nat} (hn : 8 ≤ n) {ρ : Rho} {S S1 : Sto} {it : E} {ys : List Z.D} (h5 : 5 < ρ.length) (h6 : 6 < ρ.length) (hit : evE (run co pf n) co it ρ S = .ok (.lst q) S1) (hq : S1[q]? = some ys) (hl : ys.length ≤ 1000) (hc : ∀ x ∈ ys, Cs x) :
    evE (run co pf n) co (.lc (.tup (.cons (.call "_law_ask" (.cons (.v 5) .nil)) (.cons (.v 6) .nil))) (.tup (.cons (.nm 5) (.cons (.nm 6) .nil))) (.e it) .yes [5, 6]) ρ S = .ok (.lst S1.length) (S1 ++ [ys.map fun d => Z.D.tup [dueOf d, dueOf d]]) := by
  refine evE_lc (gd := [(q, ys)]) (S1 := S1) (fun d : Z.D => d) (fun d => Z.D.tup [dueOf d, dueOf d]) ys ?_ (chk_at hq) (by omega) fun x hx => ?_
  · rw [evI, hit]
    simp [hq]
  · obtain ⟨w, p, l, r, m, due, rfl, pl, pr, pm, pv, ha, hp⟩ := (hc x hx).ex
    refine ⟨((wipeR ρ [5, 6]).set 5 (some (rowD w p l r m))).set 6 (some due), by simp [asg, asgs], ?_⟩
    have g5 : (((wipeR ρ [5, 6]).set 5 (some (rowD w p l r m))).set 6 (some due))[5]? = some (some (rowD w p l r m)) := by
      rw [List.getElem?_set_ne (by decide)]; exact List.getElem?_set_self (by simpa [wipeR] using h5)
    have g6 : (((wipeR ρ [5, 6]).set 5 (some (rowD w p l r m))).set 6 (some due))[6]? = some (some due) := List.getElem?_set_self (by simpa [wipeR] using h6)
    simp only [evE, evEs, g5, g6, R.bind_ok, ha.call hn]
    exact newT_ok (by simp)
theorem law_ends {n : Nat} (hn : 20 ≤ n) (ns : List Int) (h : ns.length ≤ 63) : Ends (run co pf n) co b_law [some (.ro (ns.map Z.D.int)), none, none, none, none, none, none] [] fun x _ => x = .bl true := by
  unfold b_law
  obtain ⟨j, k, S1, c1, d1⟩ := deal_call (n := n) (by omega) ns h
  refine Ends.set (.lst k) S1 (by simp only [evE, evEs, List.getElem?_cons_zero, List.getElem?_cons_succ, R.bind_ok, c1]) ?_
  clear c1
  show Ends (run co pf n) co _ [some (.ro (ns.map Z.D.int)), some (.lst k), none, none, none, none, none] _ _
  have prc := fun S => primes_call (n := n) (by omega) S
  have lp : (primes.map Z.D.int).length = 23 := rfl
  -- the first prime
  obtain ⟨x, S2, e1, hx, d2, f2⟩ := of_ok (n := n) (by omega) (d1.app [primes.map Z.D.int]) (m := S1.length) at_end (by have := d1.jlt; omega) (by have := d1.klt; omega) (by omega) (by omega)
  obtain ⟨p, hp, rfl⟩ : ∃ p ∈ primes, x = .int p := by
    simp only [List.mem_map] at hx
    obtain ⟨p, hp, rfl⟩ := hx
    exact ⟨p, hp, rfl⟩
  obtain ⟨x, S3, e2, ⟨fa, rfl, Aa, la⟩, d3, f3⟩ := case_ok (gr_of hp) (n := n) (by omega) d2
  have faj : fa ≠ j := by have := d2.jlt; omega
  have fak : fa ≠ k := by have := d2.klt; omega
  -- the second
  obtain ⟨x, S4, e3, hx, d4, f4⟩ := of_ok (n := n) (by omega) (d3.app [primes.map Z.D.int]) (m := S3.length) at_end (by have := d3.jlt; omega) (by have := d3.klt; omega) (by omega) (by omega)
  obtain ⟨p', hp', rfl⟩ : ∃ p ∈ primes, x = .int p := by
    simp only [List.mem_map] at hx
    obtain ⟨p, hp, rfl⟩ := hx
    exact ⟨p, hp, rfl⟩
  obtain ⟨x, S5, e4, ⟨fb, rfl, Ab, lb⟩, d5, f5⟩ := case_ok (gr_of hp') (n := n) (by omega) d4
  obtain ⟨l1, ga, ca, na, wa⟩ := Aa
  obtain ⟨l2, gb, cb, nb, wb⟩ := Ab
  have ga5 := (((Fr.app (j := j) (k := k) (S := S3) [primes.map Z.D.int]).trans f4).trans f5).same fa faj fak _ ga
  have cab : ∀ x ∈ l1 ++ l2, Cs x := fun x hx => by
    rcases List.mem_append.mp hx with h | h
    · exact ca x h
    · exact cb x h
  have nab : (l1 ++ l2).length ≤ 40 := by simp; omega
  refine Ends.set (.lst S5.length) (S5 ++ [l1 ++ l2]) ?_ ?_
  · simp only [evE, evEs, List.getElem?_cons_zero, List.getElem?_cons_succ, R.bind_ok, prc, e1, e2, e3, e4]
    rw [binR_addL ga5 gb]
    exact newL_ok (by omega)
  clear e1 e2 e3 e4 prc
  show Ends (run co pf n) co _ [some (.ro (ns.map Z.D.int)), some (.lst k), some (.lst S5.length), none, none, none, none] _ _
  -- mixed
  obtain ⟨x, S6, e1, ⟨q, ys, rfl, hq, hperm, _, _⟩, d6, f6⟩ := mixed_ok (n := n) (by omega) (d5.app [l1 ++ l2]) (m := S5.length) at_end (by omega)
  refine Ends.set (.lst q) S6 (by simp only [evE, evEs, List.getElem?_cons_zero, List.getElem?_cons_succ, R.bind_ok, e1]) ?_
  have cy : ∀ x ∈ ys, Cs x := fun x hx => cab x (hperm.mem_iff.mp hx)
  have ny : ys.length ≤ 40 := by rw [hperm.length_eq]; exact nab
  have wy : ∃ d ∈ ys, isPow d = true := by
    obtain ⟨p, l0, r, m, due, h⟩ := wa rfl
    exact ⟨_, hperm.mem_iff.mpr (List.mem_append_left _ h), by rfl⟩
  clear e1 d1 d2 d3 d4 d5 d6 f2 f3 f4 f5 f6 ga gb ga5 ca cb wa wb cab nab hperm
  show Ends (run co pf n) co _ [some (.ro (ns.map Z.D.int)), some (.lst k), some (.lst q), none, none, none, none] _ _
  -- asked
  generalize hg : (fun d => Z.D.tup [dueOf d, dueOf d]) = g
  have a1 := ask_list (n := n) (by omega) (ρ := [some (.ro (ns.map Z.D.int)), some (.lst k), some (.lst q), none, none, none, none]) (S := S6) (S1 := S6) (it := .v 2) (by simp) (by simp) (by simp [evE]) hq (by omega) cy
  rw [hg] at a1
  have hq7 : (S6 ++ [ys.map g])[q]? = some ys := append_self_none _ _ hq
  have rv : evE (run co pf n) co (.rev (.v 2)) [some (.ro (ns.map Z.D.int)), some (.lst k), some (.lst q), none, none, none, none] (S6 ++ [ys.map g]) = .ok (.lst (S6 ++ [ys.map g]).length) (S6 ++ [ys.map g] ++ [ys.reverse]) := by
    simp only [evE, List.getElem?_cons_zero, List.getElem?_cons_succ, R.bind_ok, revR, hq7]
    exact newL_ok (by simp; omega)
  have a2 := ask_list (n := n) (by omega) (ρ := [some (.ro (ns.map Z.D.int)), some (.lst k), some (.lst q), none, none, none, none]) (by simp) (by simp) rv at_end (by simp; omega) (fun x hx => cy x (List.mem_reverse.mp hx))
  rw [hg] at a2
  refine Ends.set (.lst (S6 ++ [ys.map g] ++ [ys.reverse] ++ [ys.reverse.map g]).length) (S6 ++ [ys.map g] ++ [ys.reverse] ++ [ys.reverse.map g] ++ [(ys ++ ys.reverse).map g]) ?_ ?_
  · rw [evE, a1]
    simp only [R.bind_ok]
    rw [a2]
    simp only [R.bind_ok]
    rw [binR_addL (xs := ys.map g) (ys := ys.reverse.map g) (by rw [List.append_assoc, List.append_assoc]; rw [← List.append_assoc]; exact append_self_none _ _ at_end) at_end, newL_ok (by simp; omega), List.map_append]
  clear a1 a2 rv hq7
  have hq8 : (S6 ++ [ys.map g] ++ [ys.reverse] ++ [ys.reverse.map g] ++ [(ys ++ ys.reverse).map g])[q]? = some ys := by
    repeat' rw [List.append_assoc]
    exact append_self_none _ _ hq
  have hz : (S6 ++ [ys.map g] ++ [ys.reverse] ++ [ys.reverse.map g] ++ [(ys ++ ys.reverse).map g])[(S6 ++ [ys.map g] ++ [ys.reverse] ++ [ys.reverse.map g]).length]? = some ((ys ++ ys.reverse).map g) := at_end
  generalize (S6 ++ [ys.map g] ++ [ys.reverse] ++ [ys.reverse.map g]).length = z at *
  generalize S6 ++ [ys.map g] ++ [ys.reverse] ++ [ys.reverse.map g] ++ [(ys ++ ys.reverse).map g] = S7 at *
  show Ends (run co pf n) co _ [some (.ro (ns.map Z.D.int)), some (.lst k), some (.lst q), some (.lst z), none, none, none] _ _
  -- told
  have a3 := evE_lcF (Γ := run co pf n) (Co := co) (ρ := [some (.ro (ns.map Z.D.int)), some (.lst k), some (.lst q), some (.lst z), none, none, none]) (S := S7) (S1 := S7) (gd := [(q, ys)]) (elt := .v 5) (tg := .nm 5) (it := .e (.v 2)) (t := .val (.cmp .eq (.ix (.ix (.v 5) (.c (.int 0))) (.c (.int 0))) (.c (.str "power")))) (own := [5])
    (fun d : Z.D => d) (fun d => d) isPow ys (by simp [evI, evE, hq8]) (chk_at hq8) (by omega) fun x hx => by
      obtain ⟨w, p, l, r, m, due, rfl, _⟩ := (cy x hx).ex
      refine ⟨[some (.ro (ns.map Z.D.int)), some (.lst k), some (.lst q), some (.lst z), none, some (.tup [rowD w p l r m, due]), none], by simp [asg, wipeR], ?_, fun _ => by simp [evE]⟩
      have i1 : ∀ S, ixR (.tup [rowD w p l r m, due]) (.int 0) S = .ok (rowD w p l r m) S := fun S => rfl
      have i2 : ∀ S, ixR (rowD w p l r m) (.int 0) S = .ok (.str w) S := fun S => rfl
      simp only [evT, evE, List.getElem?_cons_zero, List.getElem?_cons_succ, R.bind_ok, i1, i2, cmpR, eqR_str, Option.map_some, optR_some, truthR]
      rfl
  obtain ⟨d0, hd0, hw0⟩ := wy
  obtain ⟨u, us, hu⟩ : ∃ u us, ys.filter isPow = u :: us := by
    cases e : ys.filter isPow with
    | nil => have : d0 ∈ ys.filter isPow := List.mem_filter.mpr ⟨hd0, hw0⟩; rw [e] at this; cases this
    | cons u us => exact ⟨u, us, rfl⟩
  have hum : u ∈ ys.filter isPow := by rw [hu]; simp
  obtain ⟨huy, hup⟩ := List.mem_filter.mp hum
  have ulen : (ys.filter isPow).length ≤ 40 := Nat.le_trans (List.length_filter_le _ _) ny
  refine Ends.set u (S7 ++ [(ys.filter isPow).map fun d => d]) ?_ ?_
  · rw [evE, a3]
    simp only [R.bind_ok, evE]
    refine ixR_L at_end ?_
    rw [hu]
    exact atI_nat (xs := (u :: us).map fun d => d) (i := 0) (x := u) (by simp)
  clear a3
  have hz8 := append_self_none S7 [(ys.filter isPow).map fun d => d] hz
  generalize S7 ++ [(ys.filter isPow).map fun d => d] = S8 at *
  obtain ⟨w, p0, l, r, m, due, rfl, pl, pr, pm, pv, ha, hpw⟩ := (cy u huy).ex
  have hpw := hpw hup
  show Ends (run co pf n) co _ [some (.ro (ns.map Z.D.int)), some (.lst k), some (.lst q), some (.lst z), some (.tup [rowD w p0 l r m, due]), none, none] _ _
  have i0 : ∀ S, ixR (.tup [rowD w p0 l r m, due]) (.int 0) S = .ok (rowD w p0 l r m) S := fun S => rfl
  have i1 : ∀ S, ixR (.tup [rowD w p0 l r m, due]) (.int 1) S = .ok due S := fun S => rfl
  have j1 : ∀ S, ixR (rowD w p0 l r m) (.int 1) S = .ok (.int p0) S := fun S => rfl
  have j2 : ∀ S, ixR (rowD w p0 l r m) (.int 2) S = .ok l S := fun S => rfl
  have j3 : ∀ S, ixR (rowD w p0 l r m) (.int 3) S = .ok r S := fun S => rfl
  have j4 : ∀ S, ixR (rowD w p0 l r m) (.int 4) S = .ok m S := fun S => rfl
  have hs : ((ys ++ ys.reverse).map g).length < sizeLine := Nat.lt_of_lt_of_le (show ((ys ++ ys.reverse).map g).length < 100000 by simp; omega) (by decide)
  refine Ends.ex .non (S8.set z ((ys ++ ys.reverse).map g ++ [.tup [due, due]])) ?_ ?_
  · have e1 : evE (run co pf n) co (.tup (.cons (.call "pair_power_rest" (.cons (.ix (.ix (.v 4) (.c (.int 0))) (.c (.int 1))) (.cons (.ix (.ix (.v 4) (.c (.int 0))) (.c (.int 2))) (.cons (.ix (.ix (.v 4) (.c (.int 0))) (.c (.int 4))) (.cons (.ix (.ix (.v 4) (.c (.int 0))) (.c (.int 3))) .nil))))) (.cons (.ix (.v 4) (.c (.int 1))) .nil))) [some (.ro (ns.map Z.D.int)), some (.lst k), some (.lst q), some (.lst z), some (.tup [rowD w p0 l r m, due]), none, none] S8 = .ok (.tup [due, due]) S8 := by
      simp only [evE, evEs, List.getElem?_cons_zero, List.getElem?_cons_succ, R.bind_ok, i0, i1, j1, j2, j3, j4, hpw.call (n := n) (by omega)]
      exact newT_ok (by simp)
    rw [evE, show evE (run co pf n) co (.v 3) [some (.ro (ns.map Z.D.int)), some (.lst k), some (.lst q), some (.lst z), some (.tup [rowD w p0 l r m, due]), none, none] S8 = .ok (.lst z) S8 by simp [evE]]
    simp only [R.bind_ok, evEs]
    rw [e1]
    simp only [R.bind_ok]
    unfold mtR
    simp only [hz8]
    rw [if_pos hs]
  -- all
  have hz9 : (S8.set z ((ys ++ ys.reverse).map g ++ [.tup [due, due]]))[z]? = some (((ys ++ ys.reverse).map dueOf ++ [due]).map fun x => Z.D.tup [x, x]) := by
    rw [List.getElem?_set_self (get_lt hz8), ← hg]
    simp [List.map_map, Function.comp_def]
  obtain ⟨n', rfl⟩ : ∃ n', n = n' + 1 := ⟨n - 1, by omega⟩
  obtain ⟨x, S9, e9, rfl⟩ := all_ends (n := n') (m := 4) (by omega) hz9 (by simp; omega) (fun x hx => by
    rcases List.mem_append.mp hx with h | h
    · simp only [List.mem_map] at h
      obtain ⟨y, hy, rfl⟩ := h
      have hy2 : y ∈ ys := by
        rcases List.mem_append.mp hy with h | h
        · exact h
        · exact List.mem_reverse.mp h
      obtain ⟨w, p, l, r, m, due, rfl, _, _, _, pv, _⟩ := (cy y hy2).ex
      exact pv
    · rw [List.mem_singleton.mp h]; exact pv)
  refine Ends.ret (.bl true) S9 ?_ rfl
  simp only [evE, evEs, List.getElem?_cons_zero, List.getElem?_cons_succ, R.bind_ok]
  unfold callR
  rw [show pures [Z.D.lst z] = false from rfl]
  simp only [Bool.false_eq_true, if_false]
  rw [r__law_all]
  have e' : evSs (run co pf n') co b__law_all (List.map some [Z.D.lst z] ++ List.replicate (3 - 1) none) (S8.set z ((ys ++ ys.reverse).map g ++ [.tup [due, due]])) = .rt (.bl true) S9 := e9
  simp only [runFn, List.length_cons, List.length_nil, Nat.zero_add, if_true, e']
theorem law_run (ns : List Int) (h : ns.length ≤ 63) : ∃ S, run co pf 30 ("law" : Str) [.ro (ns.map Z.D.int)] [] = .ok (.bl true) S := by
  obtain ⟨x, S', e, rfl⟩ := law_ends (n := 29) (by omega) ns h
  refine ⟨S', ?_⟩
  rw [show (30 : Nat) = 29 + 1 from rfl, r_law]
  have e' : evSs (run co pf 29) co b_law (List.map some [Z.D.ro (ns.map Z.D.int)] ++ List.replicate (7 - 1) none) [] = .rt (.bl true) S' := e
  simp only [runFn, List.length_cons, List.length_nil, Nat.zero_add, if_true, e']
end
end Z.K01
end
set_option Elab.async false
set_option linter.all false
set_option autoImplicit false
set_option maxRecDepth 100000
set_option maxHeartbeats 0
open PySem PySem.W PySem.Calls PyProof.Rows
theorem PySem.Challenge.cw_onewebtwice_k01_whole_pair_polynomials_b_holds : PySem.Challenge.rw_onewebtwice_k01_whole_pair_polynomials_b.Holds := by
  w_on; o_law
  refine HandSHeadRun.head_any (r := OpenLaw.row PySem.Challenge.rw_onewebtwice_k01_whole_pair_polynomials_b) (q := view (OpenLaw.row PySem.Challenge.rw_onewebtwice_k01_whole_pair_polynomials_b).prog [105]) (H := Z.K01.T.hook 2) (ob := Z.K01.ob) (M := 4000) (loose := Z.K01.names) (d := HandSHeadRun.topDef (OpenLaw.row PySem.Challenge.rw_onewebtwice_k01_whole_pair_polynomials_b).prog 105) (kwd := []) Z.K01.ob_eq
    (by kernel_rfl) (fun s => by kernel_rfl) Z.K01.headRun (by kernel_rfl) (by kernel_rfl) (by kernel_rfl) (by rfl) (by first | assumption | decide +kernel) (by decide +kernel) ⟨rfl, rfl, rfl, rfl, rfl, by decide +kernel⟩ ?hw ?hc
  case hw => w_witness2
  case hc => exact Z.z_law Z.K01.T Z.K01.tok 2 30 rfl (by kernel_rfl) (by kernel_rfl) ⟨rfl, by decide, by decide⟩ (by kernel_rfl) Z.K01.law_run
