import PyProof.Rows.All
import Wide.All
import OpenK.AllK
import Wide.FinOn
import HandS.ForMost
import HandS.Wide
import HandS.WideBits
import HandS.Gcd
import HandS.IsInst
import HandS.Style
import HandS.TupAny
import HandS.TupMul
import HandS.Zip
import HandS.Deep
import HandS.Defaults
import HandS.Exc
import HandS.ExcOwn
import HandS.WordsExc
import KE.KMathGC
import HandS.Dict
import HandS.Flow
import KE.GoesEnum
import KE.GoesMore
import HandS.NoneIn
import HandS.Conv
import HandS.ExcInit
import HandS.ExcField
import HandS.ExcIs
import HandS.Head0
import HandS.Head1
import HandS.Head2
import HandS.HeadEnd
import HandS.HeadHook1
import HandS.HeadHook2
import HandS.Head3
import PySem.Challenge.RW_straightroots_k14_main_whole_divided
set_option Elab.async false
set_option linter.all false
set_option maxRecDepth 100000
section
set_option maxHeartbeats 4000000
/-! # DL: values without addresses, a small evaluator -/
namespace DL
open PySem (Str PyData)

inductive D where
  | non | bl (b : Bool) | int (i : Int) | str (x : Str) | tup (l : List D) | fz (l : List D) | ref (n : Nat) | dct

mutual
def D.beq : D → D → Bool
  | .non, .non => true
  | .bl a, .bl b => a == b
  | .int a, .int b => a == b
  | .str a, .str b => decide (a = b)
  | .tup a, .tup b => D.beqs a b
  | .fz a, .fz b => D.beqs a b
  | .ref a, .ref b => a == b
  | .dct, .dct => true
  | _, _ => false
def D.beqs : List D → List D → Bool
  | [], [] => true
  | a :: as, b :: bs => D.beq a b && D.beqs as bs
  | _, _ => false
end
mutual
theorem D.beq_eq : ∀ {a b : D}, D.beq a b = true → a = b
  | .non, b, h => by cases b <;> first | rfl | (simp [D.beq] at h)
  | .bl a, b, h => by cases b <;> first | (simp [D.beq] at h; rw [h]) | (simp [D.beq] at h)
  | .int a, b, h => by cases b <;> first | (simp [D.beq] at h; rw [h]) | (simp [D.beq] at h)
  | .str a, b, h => by cases b <;> first | (simp [D.beq] at h; rw [h]) | (simp [D.beq] at h)
  | .ref a, b, h => by cases b <;> first | (simp [D.beq] at h; rw [h]) | (simp [D.beq] at h)
  | .dct, b, h => by cases b <;> first | rfl | (simp [D.beq] at h)
  | .tup a, b, h => by
    cases b with
    | tup b => rw [D.beqs_eq (a := a) (b := b) (by simpa [D.beq] using h)]
    | _ => simp [D.beq] at h
  | .fz a, b, h => by
    cases b with
    | fz b => rw [D.beqs_eq (a := a) (b := b) (by simpa [D.beq] using h)]
    | _ => simp [D.beq] at h
theorem D.beqs_eq : ∀ {a b : List D}, D.beqs a b = true → a = b
  | [], [], _ => rfl
  | [], _ :: _, h => by simp [D.beqs] at h
  | _ :: _, [], h => by simp [D.beqs] at h
  | x :: xs, y :: ys, h => by
    simp only [D.beqs, Bool.and_eq_true] at h
    rw [D.beq_eq h.1, D.beqs_eq h.2]
end
mutual
theorem D.beq_refl : ∀ a : D, D.beq a a = true
  | .non => rfl
  | .dct => rfl
  | .bl a => by simp [D.beq]
  | .int a => by simp [D.beq]
  | .str a => by simp [D.beq]
  | .ref a => by simp [D.beq]
  | .tup a => by simp only [D.beq]; exact D.beqs_refl a
  | .fz a => by simp only [D.beq]; exact D.beqs_refl a
theorem D.beqs_refl : ∀ a : List D, D.beqs a a = true
  | [] => rfl
  | x :: xs => by simp only [D.beqs, Bool.and_eq_true]; exact ⟨D.beq_refl x, D.beqs_refl xs⟩
end

/-- the lists that may change, one behind another as they are made -/
abbrev Store := List (List D)
def sbeq : Store → Store → Bool
  | [], [] => true
  | a :: as, b :: bs => D.beqs a b && sbeq as bs
  | _, _ => false
theorem sbeq_eq : ∀ {a b : Store}, sbeq a b = true → a = b
  | [], [], _ => rfl
  | [], _ :: _, h => by simp [sbeq] at h
  | _ :: _, [], h => by simp [sbeq] at h
  | x :: xs, y :: ys, h => by
    simp only [sbeq, Bool.and_eq_true] at h
    rw [D.beqs_eq h.1, sbeq_eq h.2]
theorem sbeq_refl : ∀ a : Store, sbeq a a = true
  | [] => rfl
  | x :: xs => by simp only [sbeq, Bool.and_eq_true]; exact ⟨D.beqs_refl x, sbeq_refl xs⟩

/-- what a piece of code gives: a value and the store; an exception (its class's number, its arguments); nothing known -/
inductive R (α : Type) where
  | ok (a : α) (S : Store) | ex (c : Nat) (as : List D) (S : Store) | bad
def R.bind {α β : Type} (r : R α) (f : α → Store → R β) : R β := match r with
  | .ok a S => f a S
  | .ex c as S => .ex c as S
  | .bad => .bad
@[simp] theorem R.bind_ok {α β : Type} {a : α} {S : Store} {f : α → Store → R β} : (R.ok a S).bind f = f a S := rfl
abbrev En := List (Option D)

/-- the items of a list or a tuple -/
def items (S : Store) : D → Option (List D)
  | .tup l => some l
  | .fz l => some l
  | .ref n => S[n]?
  | _ => none
/-- a list's items -/
def lstOf (S : Store) : D → Option (List D)
  | .fz l => some l
  | .ref n => S[n]?
  | _ => none

/-- data as the model compares it: lists read off the store, to some depth -/
def toP (S : Store) : Nat → D → Option PyData
  | _, .non => some .none
  | _, .bl b => some (.bool b)
  | _, .int i => some (.int i)
  | _, .str x => some (.str x)
  | n + 1, .tup l => (l.mapM (toP S n)).map .tuple
  | n + 1, .fz l => (l.mapM (toP S n)).map .list
  | n + 1, .ref k => match S[k]? with
    | some l => (l.mapM (toP S n)).map .list
    | none => none
  | _, .dct => none
  | 0, _ => none
def toPs (S : Store) (d : D) : Option PyData := match toP S 12 d with
  | some p => if PySem.SeqAt.shaped p then some p else none
  | none => none

def truth (S : Store) : D → Option Bool
  | .non => some false
  | .bl b => some b
  | .int i => some (i != 0)
  | .str x => if x.length ≤ PySem.sizeLine then some (x.length != 0) else none
  | .tup l => some !l.isEmpty
  | .fz l => some !l.isEmpty
  | .ref n => S[n]?.map fun l => !l.isEmpty
  | .dct => none
def truthR (d : D) (S : Store) : R Bool := match truth S d with
  | some b => .ok b S
  | none => .bad

inductive Bop where | add | sub | mul | fdiv | mod | pow
  deriving DecidableEq
inductive Cop where | eq | ne | lt | le | gt | ge | in_ | nin | is_ | isn
  deriving DecidableEq
inductive Bi where | len | abs | int | max | min | gcd | divmod | tuple | list | sum | bool | any | all | repr | comb | fact
  deriving DecidableEq
inductive Mt where | append | pop | bits
  deriving DecidableEq
inductive Ty where | int | str | bool | tuple | list
  deriving DecidableEq

/-- told by Nat.ble: unfolded, it does not count down from its bound -/
def mulOk (i j : Int) : Bool := Nat.ble (PySem.Builtin.Int.intBits i + PySem.Builtin.Int.intBits j) 134217728
theorem mulOk_eq (i j : Int) : mulOk i j = decide ((PySem.Builtin.Int.intBits i : Int) + (PySem.Builtin.Int.intBits j : Int) ≤ 134217728) := by
  rw [Bool.eq_iff_iff]
  unfold mulOk
  rw [Nat.ble_eq, decide_eq_true_eq]
  omega
def divOk (i j : Int) : Bool := !PySem.Builtin.divisionGoesByPylong i j
def powOk (i j : Int) : Bool := decide (0 ≤ j) && (decide (j ≤ 1000000) && decide (i.natAbs < 2 ^ 64))
def rep (l : List D) (n : Nat) : List D := (List.replicate n l).flatten
def newL (l : List D) (S : Store) : R D := if l.length ≤ PySem.sizeLine then .ok (.ref S.length) (S ++ [l]) else .bad
def newT (l : List D) (S : Store) : R D := if l.length ≤ PySem.sizeLine then .ok (.tup l) S else .bad

def opD (o : Bop) (a b : D) (S : Store) : R D := match o, a, b with
  | .add, .int i, .int j => .ok (.int (i + j)) S
  | .sub, .int i, .int j => .ok (.int (i - j)) S
  | .mul, .int i, .int j => if mulOk i j then .ok (.int (i * j)) S else .bad
  | .fdiv, .int i, .int j => if j = 0 then .bad else if divOk i j then .ok (.int (i.fdiv j)) S else .bad
  | .mod, .int i, .int j => if j = 0 then .bad else .ok (.int (i.fmod j)) S
  | .pow, .int i, .int j => if powOk i j then .ok (.int (i ^ j.toNat)) S else .bad
  | .add, .str x, .str y => if x.length + y.length ≤ PySem.sizeLine then .ok (.str (x ++ y)) S else .bad
  | .add, .tup l, .tup m => newT (l ++ m) S
  | .mul, .tup l, .int k => if (-(2 ^ 63) ≤ k ∧ k ≤ 1000) ∧ l.length ≤ 1000 then .ok (.tup (rep l k.toNat)) S else .bad
  | .add, .ref m, .ref n => match S[m]?, S[n]? with
    | some l, some k => newL (l ++ k) S
    | _, _ => .bad
  | .mul, .ref m, .int k => match S[m]? with
    | some l => if (-(2 ^ 63) ≤ k ∧ k < 2 ^ 63) ∧ l.length * k.toNat ≤ PySem.sizeLine then .ok (.ref S.length) (S ++ [rep l k.toNat]) else .bad
    | none => .bad
  | _, _, _ => .bad

def inD (x : D) (y : D) (S : Store) : Option Bool := match y with
  | .ref n => match toPs S x, toPs S (.ref n) with
    | some d, some (.list ds) => some (ds.any fun z => PyData.eqv z d)
    | _, _ => none
  | .tup l => match toPs S x, toPs S (.tup l) with
    | some d, some (.tuple ds) => some (ds.any fun z => PyData.eqv z d)
    | _, _ => none
  | _ => none
def eqD (a b : D) (S : Store) : Option Bool := match toPs S a, toPs S b with
  | some d, some e => some (PyData.eqv d e)
  | _, _ => none
def isNon : D → Bool
  | .non => true
  | _ => false
def cmpD (o : Cop) (a b : D) (S : Store) : Option Bool := match o with
  | .eq => eqD a b S
  | .ne => (eqD a b S).map (!·)
  | .in_ => inD a b S
  | .nin => (inD a b S).map (!·)
  | .is_ => match b with | .non => some (isNon a) | _ => none
  | .isn => match b with | .non => some (!isNon a) | _ => none
  | .lt => match a, b with | .int i, .int j => some (decide (i < j)) | _, _ => none
  | .le => match a, b with | .int i, .int j => some (decide (i ≤ j)) | _, _ => none
  | .gt => match a, b with | .int i, .int j => some (decide (j < i)) | _, _ => none
  | .ge => match a, b with | .int i, .int j => some (decide (j ≤ i)) | _, _ => none
def cmpR (o : Cop) (a b : D) (S : Store) : R D := match cmpD o a b S with
  | some k => .ok (.bl k) S
  | none => .bad

def allInt : List D → Option (List Int)
  | [] => some []
  | .int i :: r => (allInt r).map (i :: ·)
  | _ :: _ => none

def allBl : List D → Option (List Bool)
  | [] => some []
  | .bl b :: r => (allBl r).map (b :: ·)
  | _ :: _ => none

def biD (f : Bi) (xs : List D) (S : Store) : R D := match f, xs with
  | .len, [d] => match items S d with
    | some l => .ok (.int l.length) S
    | none => .bad
  | .abs, [.int i] => .ok (.int (if i < 0 then -i else i)) S
  | .int, [.int i] => .ok (.int i) S
  | .int, [.bl b] => .ok (.int (if b then 1 else 0)) S
  | .bool, [.int i] => .ok (.bl (i != 0)) S
  | .bool, [.bl b] => .ok (.bl b) S
  | .max, [.int i, .int j] => .ok (.int (if j > i then j else i)) S
  | .min, [.int i, .int j] => .ok (.int (if j < i then j else i)) S
  | .gcd, [.int i, .int j] => .ok (.int ((Nat.gcd i.natAbs j.natAbs : Nat) : Int)) S
  | .divmod, [.int i, .int j] => if 0 < j then (if divOk i j then .ok (.tup [.int (i / j), .int (i % j)]) S else .bad) else .bad
  | .tuple, [d] => match items S d with
    | some l => .ok (.tup l) S
    | none => .bad
  | .list, [d] => match items S d with
    | some l => .ok (.ref S.length) (S ++ [l])
    | none => .bad
  | .any, [d] => match (lstOf S d).bind allBl with
    | some l => .ok (.bl (l.any id)) S
    | none => .bad
  | .all, [d] => match (lstOf S d).bind allBl with
    | some l => .ok (.bl (l.all id)) S
    | none => .bad
  | .repr, [d] => match toPs S d with
    | some p => if p.showable && decide (p.shown.length ≤ PySem.sizeLine) then .ok (.str p.shown) S else .bad
    | none => .bad
  | .comb, [.int i, .int j] => if decide (0 ≤ i) && (decide (0 ≤ j) && decide (i ≤ 18000)) then .ok (.int (PySem.W.mcComb i j)) S else .bad
  | .fact, [.int i] => if decide (0 ≤ i) && decide (i ≤ 20000) then .ok (.int ((PySem.Builtin.Math.factorialNat i.toNat : Nat) : Int)) S else .bad
  | .sum, [d] => match (lstOf S d).bind allInt with
    | some l => .ok (.int l.sum) S
    | none => .bad
  | _, _ => .bad

def tyOf (S : Store) : D → Option Ty
  | .bl _ => some .bool
  | .int _ => some .int
  | .str _ => some .str
  | .tup _ => some .tuple
  | .fz _ => some .list
  | .ref n => S[n]?.map fun _ => .list
  | .non => none
  | .dct => none
def isTy (t : Option Ty) (u : Ty) : Bool := match t with
  | some .bool => decide (u = .bool) || decide (u = .int)
  | some v => decide (v = u)
  | none => false
def isiR (d : D) (ts : List Ty) (S : Store) : R D := match d with
  | .ref n => match S[n]? with
    | some _ => .ok (.bl (ts.any (isTy (some .list)))) S
    | none => .bad
  | d => .ok (.bl (ts.any (isTy (tyOf S d)))) S

def setAt (S : Store) (n : Nat) (l : List D) : Store := S.set n l
def mtD (m : Mt) (o : D) (xs : List D) (S : Store) : R D := match m, o, xs with
  | .bits, .int i, [] => .ok (.int (PySem.Builtin.Int.intBits i : Nat)) S
  | .append, .ref n, [d] => match S[n]? with
    | some l => if l.length < PySem.sizeLine then .ok .non (setAt S n (l ++ [d])) else .bad
    | none => .bad
  | .pop, .ref n, [] => match S[n]? with
    | some l => match l.getLast? with
      | some d => .ok d (setAt S n l.dropLast)
      | none => .bad
    | none => .bad
  | _, _, _ => .bad

def recvOk (m : Mt) (x : D) (S : Store) : Bool := match m, x with
  | .bits, .int _ => true
  | .append, .ref n => decide (n < S.length)
  | .pop, .ref n => decide (n < S.length)
  | _, _ => false

def idxR (a i : D) (S : Store) : R D := match i with
  | .int k => match items S a with
    | some l => match L2.atI l k with
      | some d => .ok d S
      | none => .bad
    | none => .bad
  | _ => .bad
/-- xs[lo:hi] -/
def cutD (xs : List D) (lo hi : Option Int) : List D := (xs.drop (HT.sIx xs.length 0 lo)).take (HT.sIx xs.length xs.length hi - HT.sIx xs.length 0 lo)
def partR : Option D → Option (Option Int)
  | none => some none
  | some (.int i) => some (some i)
  | some _ => none
def slcR (a : D) (l h : Option Int) (S : Store) : R D := match a with
  | .tup xs => .ok (.tup (cutD xs l h)) S
  | d => match lstOf S d with
    | some xs => .ok (.ref S.length) (S ++ [cutD xs l h])
    | none => .bad
/-- an optional part is an int -/
def partOk (l : List D) (S : Store) : R (Option Int) := match partR l.head? with
  | some o => .ok o S
  | none => .bad
def revR (a : D) (S : Store) : R D := match a with
  | .tup xs => .ok (.tup xs.reverse) S
  | d => match lstOf S d with
    | some xs => .ok (.ref S.length) (S ++ [xs.reverse])
    | none => .bad

/-! ### syntax -/
inductive Tg where
  | name (i : Nat) | tup (ts : List Tg)
inductive Ex where
  | var (i : Nat) | int (i : Int) | bl (b : Bool) | non | str (x : Str)
  | cst (c : Nat)
  | tup (es : List Ex) | lst (es : List Ex)
  | dct
  | bin (o : Bop) (a b : Ex) | neg (a : Ex) | nt (a : Ex)
  | and_ (a b : Ex) | or_ (a b : Ex)
  | cmp (o : Cop) (a b : Ex) | cmp2 (o p : Cop) (a b c : Ex)
  | ife (t a b : Ex)
  | call (f : Nat) (es : List Ex) | callk (f : Nat) (es ks : List Ex) (perm : List Nat)
  | bi (b : Bi) (es : List Ex) | isi (e : Ex) (ts : List Ty)
  | meth (m : Mt) (e : Ex) (es : List Ex)
  | idx (a i : Ex) | slc (a : Ex) (lo hi : List Ex) | rev (a : Ex)
  | range (es : List Ex) | enum (e : Ex) | zip (a b : Ex) | seq (e : Ex)
  | lrg (t : Bool) (es : List Ex)
  | lc (el : Ex) (tg : Tg) (it : Ex) (ifs : List Ex) (own : List Nat)
/-- what is assigned to -/
inductive LT where
  | name (i : Nat) | sub (o i : Ex) | tup (ts : List LT)
/-- an except suite's own expressions -/
inductive HEx where
  | int (i : Int) | str (x : Str) | bl (b : Bool) | non
  | fld (j : Nat) (cs : List Nat) | var (i : Nat)
  | tup (es : List HEx) | lst (es : List HEx)
  | rep (a : HEx) | eq (a b : HEx)
  | isE (cs : List Nat) (a b : HEx)
/-- an except clause: which classes it takes, the slot of its name, what it returns -/
structure Hd where
  cs : List Nat
  slot : Option Nat
  e : HEx
inductive St where
  | asg (t : LT) (e : Ex) | aug (i : Nat) (o : Bop) (e : Ex)
  | expr (e : Ex) | ret (e : Ex) | retN
  | ite (t : Ex) (a b : List St)
  | for_ (t : Tg) (it : Ex) (body : List St)
  | while_ (t : Ex) (body : List St)
  | pass | brk | cont
  | raise (c : Nat) (es : List Ex) | try_ (body : List St) (hs : List Hd) | no

/-! ### the evaluator -/
/-- what a walk goes over: its items; the lists that have to stay as they are meanwhile -/
structure It where
  items : List D
  dep : List (Nat × List D)
def It.still (S : Store) (dep : List (Nat × List D)) : Bool := dep.all fun p => match S[p.1]? with
  | some l => D.beqs l p.2
  | none => false
def depOf (S : Store) : D → List (Nat × List D)
  | .ref n => match S[n]? with
    | some l => [(n, l)]
    | none => []
  | _ => []
def rangeL (lo : Int) (n : Nat) : List D := (List.range n).map fun i => .int (lo + (i : Nat))
def rangeDn (lo : Int) (n : Nat) : List D := (List.range n).map fun i => .int (lo - (i : Nat))
def enumL (l : List D) : List D := l.mapIdx fun i d => .tup [.int (i : Nat), d]
def zipL (l m : List D) : List D := (l.zip m).map fun p => .tup [p.1, p.2]
def zipOk : D → D → Bool
  | .tup _, .tup _ => true
  | .tup _, _ => false
  | _, .tup _ => false
  | _, _ => true
def boundOk (i : Int) : Bool := Nat.ble (i.natAbs + 1) 4611686018427387904
theorem boundOk_eq (i : Int) : boundOk i = (decide (-(2 ^ 62) < i) && decide (i < 2 ^ 62)) := by
  rw [Bool.eq_iff_iff]
  unfold boundOk
  rw [Nat.ble_eq, Bool.and_eq_true, decide_eq_true_eq, decide_eq_true_eq]
  omega

/-- list(range(i, j)), tuple(range(i, j)) -/
def lrgO (t : Bool) (i j : Int) (S : Store) : R D := if boundOk i && (boundOk j && Nat.ble (j - i).toNat 16777216) then (if t then .ok (.tup (rangeL i (j - i).toNat)) S else .ok (.ref S.length) (S ++ [rangeL i (j - i).toNat])) else .bad
def lrgR (t : Bool) (vs : List D) (S : Store) : R D := match vs with
  | [.int j] => lrgO t 0 j S
  | [.int i, .int j] => lrgO t i j S
  | _ => .bad
def permL {α : Type} (perm : List Nat) (l : List α) : List α := perm.filterMap fun i => l[i]?
mutual
def Tg.put (S : Store) : Tg → D → En → Option En
  | .name i, d, env => some (env.set i (some d))
  | .tup ts, d, env => match items S d with
    | some l => Tg.puts S ts l env
    | none => none
def Tg.puts (S : Store) : List Tg → List D → En → Option En
  | [], [], env => some env
  | t :: ts, d :: l, env => match Tg.put S t d env with
    | some env' => Tg.puts S ts l env'
    | none => none
  | _, _, _ => none
end
def wipeD (env : En) : List Nat → En
  | [] => env
  | v :: vs => (wipeD env vs).set v none

section
variable (F : Nat → List D → Store → R D) (C : List D)

/-- the items of a comprehension, one behind another: the new list stands at n -/
def lcLoop (n : Nat) (dep : List (Nat × List D)) (el : En → Store → R D) (tt : En → Store → R Bool) (tg : Tg) (env : En) : List D → Store → R D
  | [], S => if It.still S dep then .ok (.ref n) S else .bad
  | d :: r, S =>
    if It.still S dep then match Tg.put S tg d env with
      | some env' => match tt env' S with
        | .ok true S1 => match el env' S1 with
          | .ok y S2 => match S2[n]? with
            | some acc => if acc.length < PySem.sizeLine then lcLoop n dep el tt tg env r (setAt S2 n (acc ++ [y])) else .bad
            | _ => .bad
          | _ => .bad
        | .ok false S1 => lcLoop n dep el tt tg env r S1
        | _ => .bad
      | none => .bad
    else .bad

mutual
def ev : Ex → En → Store → R D
  | .var i, env, S => match env[i]? with
    | some (some d) => .ok d S
    | _ => .bad
  | .int i, _, S => .ok (.int i) S
  | .bl b, _, S => .ok (.bl b) S
  | .non, _, S => .ok .non S
  | .str x, _, S => .ok (.str x) S
  | .dct, _, S => .ok .dct S
  | .cst c, _, S => match C[c]? with
    | some d => .ok d S
    | none => .bad
  | .tup es, env, S => (evs es env S).bind newT
  | .lst es, env, S => (evs es env S).bind newL
  | .bin o a b, env, S => (ev a env S).bind fun x S1 => (ev b env S1).bind fun y S2 => opD o x y S2
  | .neg a, env, S => (ev a env S).bind fun x S1 => match x with
    | .int i => .ok (.int (-i)) S1
    | _ => .bad
  | .nt a, env, S => (ev a env S).bind fun x S1 => (truthR x S1).bind fun b S2 => .ok (.bl !b) S2
  | .and_ a b, env, S => (ev a env S).bind fun x S1 => (truthR x S1).bind fun k S2 => if k then ev b env S2 else .ok x S2
  | .or_ a b, env, S => (ev a env S).bind fun x S1 => (truthR x S1).bind fun k S2 => if k then .ok x S2 else ev b env S2
  | .cmp o a b, env, S => (ev a env S).bind fun x S1 => (ev b env S1).bind fun y S2 => cmpR o x y S2
  | .cmp2 o p a b c, env, S => (ev a env S).bind fun x S1 => (ev b env S1).bind fun y S2 => match cmpD o x y S2 with
    | some true => (ev c env S2).bind fun z S3 => cmpR p y z S3
    | some false => .ok (.bl false) S2
    | none => .bad
  | .ife t a b, env, S => (ev t env S).bind fun x S1 => (truthR x S1).bind fun k S2 => if k then ev a env S2 else ev b env S2
  | .call f es, env, S => (evs es env S).bind fun vs S1 => F f vs S1
  | .callk f es ks perm, env, S => (evs es env S).bind fun vs S1 => (evs ks env S1).bind fun ws S2 => F f (permL perm (vs ++ ws)) S2
  | .bi b es, env, S => (evs es env S).bind fun vs S1 => biD b vs S1
  | .isi e ts, env, S => (ev e env S).bind fun x S1 => isiR x ts S1
  | .meth m e es, env, S => (ev e env S).bind fun x S1 => if recvOk m x S1 then (evs es env S1).bind fun vs S2 => mtD m x vs S2 else .bad
  | .idx a i, env, S => (ev a env S).bind fun x S1 => (ev i env S1).bind fun y S2 => idxR x y S2
  | .slc a lo hi, env, S => (ev a env S).bind fun x S1 => ((evs lo env S1).bind partOk).bind fun l S2 => ((evs hi env S2).bind partOk).bind fun h S3 => slcR x l h S3
  | .rev a, env, S => (ev a env S).bind fun x S1 => revR x S1
  | .lrg t es, env, S => (evs es env S).bind fun vs S1 => lrgR t vs S1
  | .lc el tg it ifs own, env, S => (evi it env S).bind fun I S1 =>
    lcLoop S1.length I.dep (fun env' S' => ev el env' S') (fun env' S' => evt ifs env' S') tg (wipeD env own) I.items (S1 ++ [[]])
  | _, _, _ => .bad
def evs : List Ex → En → Store → R (List D)
  | [], _, S => .ok [] S
  | e :: es, env, S => (ev e env S).bind fun x S1 => (evs es env S1).bind fun xs S2 => .ok (x :: xs) S2
/-- a comprehension's tests -/
def evt : List Ex → En → Store → R Bool
  | [], _, S => .ok true S
  | e :: es, env, S => (ev e env S).bind fun x S1 => (truthR x S1).bind fun k S2 => if k then evt es env S2 else .ok false S2
/-- what is walked -/
def evi : Ex → En → Store → R It
  | .range es, env, S => (evs es env S).bind fun vs S1 => match vs with
    | [.int j] => if boundOk j then .ok ⟨rangeL 0 j.toNat, []⟩ S1 else .bad
    | [.int i, .int j] => if boundOk i && boundOk j then .ok ⟨rangeL i (j - i).toNat, []⟩ S1 else .bad
    | [.int i, .int j, .int c] => if boundOk i && (boundOk j && decide (c = -1)) then .ok ⟨rangeDn i (i - j).toNat, []⟩ S1 else .bad
    | _ => .bad
  | .enum e, env, S => (ev e env S).bind fun x S1 => match items S1 x with
    | some l => .ok ⟨enumL l, depOf S1 x⟩ S1
    | none => .bad
  | .zip a b, env, S => (ev a env S).bind fun x S1 => (ev b env S1).bind fun y S2 => match items S2 x, items S2 y with
    | some l, some m => if zipOk x y then .ok ⟨zipL l m, depOf S2 x ++ depOf S2 y⟩ S2 else .bad
    | _, _ => .bad
  | .seq e, env, S => (ev e env S).bind fun x S1 => match items S1 x with
    | some l => .ok ⟨l, depOf S1 x⟩ S1
    | none => .bad
  | _, _, _ => .bad
end

def test (e : Ex) (env : En) (S : Store) : R Bool := (ev F C e env S).bind truthR

mutual
def hev (c : Nat) (as : List D) : HEx → En → Store → R D
  | .int i, _, S => .ok (.int i) S
  | .str x, _, S => .ok (.str x) S
  | .bl b, _, S => .ok (.bl b) S
  | .non, _, S => .ok .non S
  | .fld j cs, _, S => if cs.contains c then match as[j]? with
    | some d => .ok d S
    | none => .bad
    else .bad
  | .var i, env, S => match env[i]? with
    | some (some d) => .ok d S
    | _ => .bad
  | .tup es, env, S => (hevs c as es env S).bind newT
  | .lst es, env, S => (hevs c as es env S).bind newL
  | .rep a, env, S => (hev c as a env S).bind fun x S1 => biD .repr [x] S1
  | .eq a b, env, S => (hev c as a env S).bind fun x S1 => (hev c as b env S1).bind fun y S2 => cmpR .eq x y S2
  | .isE cs a b, env, S => if cs.contains c then hev c as a env S else hev c as b env S
def hevs (c : Nat) (as : List D) : List HEx → En → Store → R (List D)
  | [], _, S => .ok [] S
  | e :: es, env, S => (hev c as e env S).bind fun x S1 => (hevs c as es env S1).bind fun xs S2 => .ok (x :: xs) S2
end
/-- a statement's end -/
inductive RS where
  | nx (env : En) (S : Store) | rt (d : D) (S : Store) | bk (env : En) (S : Store) | ct (env : En) (S : Store)
  | ex (c : Nat) (as : List D) (env : En) (S : Store) | bad
def R.thenS {α : Type} (r : R α) (env : En) (f : α → Store → RS) : RS := match r with
  | .ok a S => f a S
  | .ex c as S => .ex c as env S
  | .bad => .bad
@[simp] theorem R.thenS_ok {α : Type} {a : α} {S : Store} {env : En} {f : α → Store → RS} : (R.ok a S).thenS env f = f a S := rfl
def RS.seq (r : RS) (f : En → Store → RS) : RS := match r with
  | .nx env S => f env S
  | r => r
@[simp] theorem RS.seq_nx {env : En} {S : Store} {f : En → Store → RS} : (RS.nx env S).seq f = f env S := rfl

def RS.catch (r : RS) (f : Nat → List D → En → Store → RS) : RS := match r with
  | .ex c as env S => f c as env S
  | r => r
def hret : R D → RS
  | .ok d S => .rt d S
  | _ => .bad
def Hd.env (h : Hd) (env : En) : En := match h.slot with
  | some i => env.set i none
  | none => env
def handle (c : Nat) (as : List D) : List Hd → En → Store → RS
  | [], env, S => .ex c as env S
  | h :: r, env, S => if h.cs.contains c then hret (hev c as h.e (h.env env) S) else handle c as r env S

def forLoop (dep : List (Nat × List D)) (tg : Tg) (body : En → Store → RS) : List D → En → Store → RS
  | [], env, S => if It.still S dep then .nx env S else .bad
  | d :: r, env, S => if It.still S dep then match Tg.put S tg d env with
      | some env' => match body env' S with
        | .nx e S' => forLoop dep tg body r e S'
        | .ct e S' => forLoop dep tg body r e S'
        | .bk e S' => .nx e S'
        | .rt v S' => .rt v S'
        | .ex c as e S' => .ex c as e S'
        | .bad => .bad
      | none => .bad
    else .bad
def whileLoop (t : En → Store → R Bool) (body : En → Store → RS) : Nat → En → Store → RS
  | 0, _, _ => .bad
  | n + 1, env, S => (t env S).thenS env fun k S1 => if k then match body env S1 with
      | .nx e S' => whileLoop t body n e S'
      | .ct e S' => whileLoop t body n e S'
      | .bk e S' => .nx e S'
      | .rt v S' => .rt v S'
      | .ex c as e S' => .ex c as e S'
      | .bad => .bad
    else .nx env S1

def setR (y k x : D) (env : En) (S : Store) : RS := match y, k with
  | .ref n, .int j => match S[n]? with
    | some l => match L2.ixN l.length j with
      | some p => .nx env (setAt S n (l.set p x))
      | none => .bad
    | none => .bad
  | _, _ => .bad
mutual
def putL : LT → D → En → Store → RS
  | .name i, d, env, S => .nx (env.set i (some d)) S
  | .sub o i, d, env, S => (ev F C o env S).thenS env fun y S1 => (ev F C i env S1).thenS env fun k S2 => setR y k d env S2
  | .tup ts, d, env, S => match items S d with
    | some l => if l.length = ts.length then putLs ts l env S else .bad
    | none => .bad
def putLs : List LT → List D → En → Store → RS
  | [], [], env, S => .nx env S
  | t :: ts, d :: l, env, S => (putL t d env S).seq fun env' S' => putLs ts l env' S'
  | _, _, _, _ => .bad
end
variable (N : Nat)
mutual
def exec : St → En → Store → RS
  | .asg t e, env, S => (ev F C e env S).thenS env fun x S1 => putL F C t x env S1
  | .aug i o e, env, S => match env[i]? with
    | some (some x) => (ev F C e env S).thenS env fun y S1 => match x, y, o with
      | .int a, .int b, .add => .nx (env.set i (some (.int (a + b)))) S1
      | .int a, .int b, .sub => .nx (env.set i (some (.int (a - b)))) S1
      | _, _, _ => .bad
    | _ => .bad
  | .expr e, env, S => (ev F C e env S).thenS env fun _ S1 => .nx env S1
  | .ret e, env, S => (ev F C e env S).thenS env fun x S1 => .rt x S1
  | .retN, _, S => .rt .non S
  | .ite t a b, env, S => (test F C t env S).thenS env fun k S1 => if k then execs a env S1 else execs b env S1
  | .for_ t it body, env, S => (evi F C it env S).thenS env fun I S1 => forLoop I.dep t (fun e S' => execs body e S') I.items env S1
  | .while_ t body, env, S => whileLoop (test F C t) (fun e S' => execs body e S') N env S
  | .pass, env, S => .nx env S
  | .brk, env, S => .bk env S
  | .cont, env, S => .ct env S
  | .raise c es, env, S => (evs F C es env S).thenS env fun vs S1 => .ex c vs env S1
  | .try_ body hs, env, S => (execs body env S).catch fun c as env' S' => handle c as hs env' S'
  | .no, _, _ => .bad
def execs : List St → En → Store → RS
  | [], env, S => .nx env S
  | s :: r, env, S => (exec s env S).seq fun env' S' => execs r env' S'
end
end

mutual
def D.closed (n : Nat) : D → Bool
  | .tup l => D.closeds n l
  | .fz l => D.closeds n l
  | .ref k => decide (k < n)
  | _ => true
def D.closeds (n : Nat) : List D → Bool
  | [] => true
  | d :: r => D.closed n d && D.closeds n r
end
def cleanS (S S' : Store) : Bool := sbeq (S'.take S.length) S || (S'.take S.length).all (D.closeds S.length)
/-- what a call leaves: its own lists are forgotten where nothing holds them -/
def leave (S : Store) (d : D) (S' : Store) : R D :=
  if S'.length = S.length then .ok d S'
  else if decide (S.length ≤ S'.length) && (D.closed S.length d && cleanS S S') then .ok d (S'.take S.length)
  else match d with
    | .ref m => if S.length ≤ m then match S'[m]? with
        | some l => if decide (S.length ≤ S'.length) && (D.closeds S.length l && cleanS S S') then .ok (.ref S.length) (S'.take S.length ++ [l]) else .ok d S'
        | _ => .ok d S'
      else .ok d S'
    | _ => .ok d S'

structure Fn where
  np : Nat
  nn : Nat
  body : List St
def startD (nn : Nat) (ds : List D) : En := ds.map some ++ List.replicate (nn - ds.length) none
def endR (S : Store) : RS → R D
  | .nx _ S' => leave S .non S'
  | .rt d S' => leave S d S'
  | .ex c as _ S' => .ex c as S'
  | _ => .bad
/-- a call, k deep at most -/
def run (T : List Fn) (C : List D) (N : Nat) : Nat → Nat → List D → Store → R D
  | 0, _, _, _ => .bad
  | k + 1, f, ds, S => match T[f]? with
    | some fn => if ds.length = fn.np then endR S (execs (run T C N k) C N fn.body (startD fn.nn ds) S) else .bad
    | none => .bad
end DL

namespace DL
theorem t1 : ev (fun _ _ _ => .bad) [] (.bin .add (.int 1) (.tup [.int 2])) [] [] = .bad := rfl
theorem t3 (x : Int) : execs (fun _ _ _ => .bad) [] 9 [.asg (.name 0) (.bin .add (.var 0) (.int 1)), .while_ (.cmp .lt (.int 5) (.int 3)) [.pass], .ret (.var 0)] [some (.int x)] [] = .rt (.int (x + 1)) [] := rfl
end DL

end
section
set_option maxHeartbeats 4000000
/-! # DL, soundness 1: values, stores, what is wanted -/
namespace DL
open PySem PySem.Spec PyProof.Rows L2
abbrev Frag := PySem.W.Frag

/-- a list that never changes -/
def SqF (K : Frag) (H : Hp) (a : Addr) (xs : List V) : Prop :=
  (∃ o, H a = some (.frz o (.lst xs))) ∨
    ∃ (o : Obj) (its : Array Value) (n : Nat), K.lookup a = some o ∧ o.cls = .type "list" ∧ o.dict = none ∧ o.data = .seq its n ∧ its.size ≤ sizeLine ∧ Vals xs its.toList
theorem SqF.l {K : Frag} {H : Hp} {a : Addr} {xs : List V} (h : SqF K H a xs) : SqL K H a xs := by
  rcases h with ⟨o, h⟩ | h
  · exact .inl (.inr ⟨o, h⟩)
  · exact .inr h

mutual
def At (K : Frag) (H : Hp) (ρ : List Addr) : D → V → Prop
  | .non, v => v = .non
  | .bl b, v => v = .bl b
  | .int i, v => v = .int i
  | .str x, v => v = .str x
  | .tup l, v => ∃ a xs, v = .ref a ∧ SqT K H a xs ∧ AtL K H ρ l xs
  | .fz l, v => ∃ a xs, v = .ref a ∧ SqF K H a xs ∧ AtL K H ρ l xs
  | .ref n, v => ∃ a, v = .ref a ∧ ρ[n]? = some a
  | .dct, v => ∃ a, v = .ref a ∧ H a = some (.dK [])
def AtL (K : Frag) (H : Hp) (ρ : List Addr) : List D → List V → Prop
  | [], xs => xs = []
  | d :: ds, xs => ∃ x r, xs = x :: r ∧ At K H ρ d x ∧ AtL K H ρ ds r
end

structure Ext (H H' : Hp) : Prop where
  tup : ∀ a xs, H a = some (.tup xs) → H' a = some (.tup xs)
  frz : ∀ a o u, H a = some (.frz o u) → H' a = some (.frz o u)
  dct : ∀ a, H a = some (.dK []) → H' a = some (.dK [])
  xd : ∀ a fs, H a = some (.xd fs) → H' a = some (.xd fs)
theorem Ext.refl (H : Hp) : Ext H H := ⟨fun _ _ h => h, fun _ _ _ h => h, fun _ h => h, fun _ _ h => h⟩
theorem Ext.trans {H H1 H2 : Hp} (a : Ext H H1) (b : Ext H1 H2) : Ext H H2 := ⟨fun c xs h => b.tup c xs (a.tup c xs h), fun c o u h => b.frz c o u (a.frz c o u h), fun c h => b.dct c (a.dct c h), fun c fs h => b.xd c fs (a.xd c fs h)⟩
theorem Ext.sqT {K : Frag} {H H' : Hp} (e : Ext H H') {a : Addr} {xs : List V} (h : SqT K H a xs) : SqT K H' a xs := by
  rcases h with (h | ⟨o, h⟩) | h
  · exact .inl (.inl (e.tup _ _ h))
  · exact .inl (.inr ⟨o, e.frz _ _ _ h⟩)
  · exact .inr h
theorem Ext.sqF {K : Frag} {H H' : Hp} (e : Ext H H') {a : Addr} {xs : List V} (h : SqF K H a xs) : SqF K H' a xs := by
  rcases h with ⟨o, h⟩ | h
  · exact .inl ⟨o, e.frz _ _ _ h⟩
  · exact .inr h
/-- a new object -/
theorem Ext.new {H : Hp} {p : Addr} {o : HO} (h : H p = none) : Ext H (upd H p o) :=
  ⟨fun a xs e => by rw [upd_ne (ne_of_none e h)]; exact e, fun a ob u e => by rw [upd_ne (ne_of_none e h)]; exact e, fun a e => by rw [upd_ne (ne_of_none e h)]; exact e, fun a fs e => by rw [upd_ne (ne_of_none e h)]; exact e⟩
/-- a list written -/
theorem Ext.wr {H : Hp} {p : Addr} {xs ys : List V} (h : H p = some (.lst xs)) : Ext H (upd H p (.lst ys)) :=
  ⟨fun a zs e => by rw [upd_ne (fun z => by subst z; rw [h] at e; cases e)]; exact e, fun a ob u e => by rw [upd_ne (fun z => by subst z; rw [h] at e; cases e)]; exact e, fun a e => by rw [upd_ne (fun z => by subst z; rw [h] at e; cases e)]; exact e, fun a fs e => by rw [upd_ne (fun z => by subst z; rw [h] at e; cases e)]; exact e⟩

/-- the heap goes on, the list of addresses grows -/
structure Step (H : Hp) (ρ : List Addr) (H' : Hp) (ρ' : List Addr) : Prop where
  ext : Ext H H'
  pre : ρ <+: ρ'
theorem Step.refl (H : Hp) (ρ : List Addr) : Step H ρ H ρ := ⟨.refl H, List.prefix_refl ρ⟩
theorem Step.trans {H H1 H2 : Hp} {ρ ρ1 ρ2 : List Addr} (a : Step H ρ H1 ρ1) (b : Step H1 ρ1 H2 ρ2) : Step H ρ H2 ρ2 := ⟨a.ext.trans b.ext, a.pre.trans b.pre⟩
theorem pre_get {ρ ρ' : List Addr} (h : ρ <+: ρ') {n : Nat} {a : Addr} (e : ρ[n]? = some a) : ρ'[n]? = some a := by
  obtain ⟨t, rfl⟩ := h
  have hn : n < ρ.length := (List.getElem?_eq_some_iff.mp e).1
  rw [List.getElem?_append_left hn]; exact e

section
variable {K : Frag} {H H' : Hp} {ρ ρ' : List Addr}
mutual
theorem At.mono (st : Step H ρ H' ρ') : ∀ {d : D} {v : V}, At K H ρ d v → At K H' ρ' d v
  | .non, v, h => by simpa [At] using h
  | .bl b, v, h => by simpa [At] using h
  | .int i, v, h => by simpa [At] using h
  | .str x, v, h => by simpa [At] using h
  | .tup l, v, h => by
    simp only [At] at h ⊢
    obtain ⟨a, xs, e, s, q⟩ := h
    exact ⟨a, xs, e, st.ext.sqT s, AtL.mono st q⟩
  | .fz l, v, h => by
    simp only [At] at h ⊢
    obtain ⟨a, xs, e, s, q⟩ := h
    exact ⟨a, xs, e, st.ext.sqF s, AtL.mono st q⟩
  | .ref n, v, h => by
    simp only [At] at h ⊢
    obtain ⟨a, e, q⟩ := h
    exact ⟨a, e, pre_get st.pre q⟩
  | .dct, v, h => by
    simp only [At] at h ⊢
    obtain ⟨a, e, q⟩ := h
    exact ⟨a, e, st.ext.dct _ q⟩
theorem AtL.mono (st : Step H ρ H' ρ') : ∀ {l : List D} {xs : List V}, AtL K H ρ l xs → AtL K H' ρ' l xs
  | [], xs, h => by simpa [AtL] using h
  | d :: ds, xs, h => by
    simp only [AtL] at h ⊢
    obtain ⟨x, r, e, a, q⟩ := h
    exact ⟨x, r, e, At.mono st a, AtL.mono st q⟩
end
theorem AtL.nil : AtL K H ρ [] [] := by simp [AtL]
theorem AtL.cons {d : D} {v : V} {l : List D} {xs : List V} (h : At K H ρ d v) (t : AtL K H ρ l xs) : AtL K H ρ (d :: l) (v :: xs) := by
  simp only [AtL]; exact ⟨v, xs, rfl, h, t⟩
theorem AtL.inv {d : D} {l : List D} {xs : List V} (h : AtL K H ρ (d :: l) xs) : ∃ v r, xs = v :: r ∧ At K H ρ d v ∧ AtL K H ρ l r := by simpa only [AtL] using h
theorem AtL.length : ∀ {l : List D} {xs : List V}, AtL K H ρ l xs → l.length = xs.length
  | [], xs, h => by simp only [AtL] at h; subst h; rfl
  | d :: ds, xs, h => by
    obtain ⟨x, r, rfl, _, q⟩ := h.inv
    simp [AtL.length q]
theorem AtL.get : ∀ {l : List D} {xs : List V} {i : Nat} {d : D}, AtL K H ρ l xs → l[i]? = some d → ∃ v, xs[i]? = some v ∧ At K H ρ d v
  | [], _, _, _, _, e => by simp at e
  | d :: ds, xs, 0, d', h, e => by
    obtain ⟨x, r, rfl, a, q⟩ := h.inv
    simp at e; subst e
    exact ⟨x, rfl, a⟩
  | d :: ds, xs, i + 1, d', h, e => by
    obtain ⟨x, r, rfl, a, q⟩ := h.inv
    obtain ⟨v, e1, e2⟩ := AtL.get (i := i) q (by simpa using e)
    exact ⟨v, by simpa using e1, e2⟩
theorem AtL.append : ∀ {l m : List D} {xs ys : List V}, AtL K H ρ l xs → AtL K H ρ m ys → AtL K H ρ (l ++ m) (xs ++ ys)
  | [], _, _, _, h, q => by simp only [AtL] at h; subst h; exact q
  | d :: ds, m, xs, ys, h, q => by
    obtain ⟨x, r, rfl, a, t⟩ := h.inv
    exact .cons a (AtL.append t q)
theorem AtL.take : ∀ {l : List D} {xs : List V} (n : Nat), AtL K H ρ l xs → AtL K H ρ (l.take n) (xs.take n)
  | [], xs, n, h => by simp only [AtL] at h; subst h; simp [AtL]
  | d :: ds, xs, 0, h => by simp [AtL]
  | d :: ds, xs, n + 1, h => by
    obtain ⟨x, r, rfl, a, t⟩ := h.inv
    exact .cons a (AtL.take n t)
theorem AtL.drop : ∀ {l : List D} {xs : List V} (n : Nat), AtL K H ρ l xs → AtL K H ρ (l.drop n) (xs.drop n)
  | [], xs, n, h => by simp only [AtL] at h; subst h; simp [AtL]
  | d :: ds, xs, 0, h => h
  | d :: ds, xs, n + 1, h => by
    obtain ⟨x, r, rfl, a, t⟩ := h.inv
    exact AtL.drop n t
theorem AtL.reverse : ∀ {l : List D} {xs : List V}, AtL K H ρ l xs → AtL K H ρ l.reverse xs.reverse
  | [], xs, h => by simp only [AtL] at h; subst h; exact .nil
  | d :: ds, xs, h => by
    obtain ⟨x, r, rfl, a, t⟩ := h.inv
    rw [List.reverse_cons, List.reverse_cons]
    exact (AtL.reverse t).append (.cons a .nil)
theorem AtL.set {d : D} {v : V} (a : At K H ρ d v) : ∀ {l : List D} {xs : List V} (i : Nat), AtL K H ρ l xs → AtL K H ρ (l.set i d) (xs.set i v)
  | [], xs, i, h => by simp only [AtL] at h; subst h; exact .nil
  | _ :: ds, xs, 0, h => by
    obtain ⟨x, r, rfl, _, t⟩ := h.inv
    exact .cons a t
  | _ :: ds, xs, i + 1, h => by
    obtain ⟨x, r, rfl, b, t⟩ := h.inv
    exact .cons b (AtL.set a i t)
theorem AtL.rep : ∀ {l : List D} {xs : List V} (n : Nat), AtL K H ρ l xs → AtL K H ρ (rep l n) (List.replicate n xs).flatten
  | l, xs, 0, h => by simp [DL.rep, AtL]
  | l, xs, n + 1, h => by
    have := AtL.rep n h
    unfold DL.rep at this ⊢
    rw [List.replicate_succ, List.replicate_succ, List.flatten_cons, List.flatten_cons]
    exact h.append this
theorem AtL.dropLast : ∀ {l : List D} {xs : List V}, AtL K H ρ l xs → AtL K H ρ l.dropLast xs.dropLast := fun {l xs} h => by
  rw [List.dropLast_eq_take, List.dropLast_eq_take, h.length]
  exact h.take _
theorem AtL.cut {l : List D} {xs : List V} (lo hi : Option Int) (h : AtL K H ρ l xs) : AtL K H ρ (cutD l lo hi) (cutV xs lo hi) := by
  unfold cutD cutV
  rw [h.length]
  exact (h.drop _).take _
end

/-- the store is held -/
structure Rep (K : Frag) (H : Hp) (ρ : List Addr) (S : Store) : Prop where
  nd : ρ.Nodup
  len : ρ.length = S.length
  at_ : ∀ (n : Nat) (a : Addr) (l : List D), ρ[n]? = some a → S[n]? = some l → ∃ xs, H a = some (.lst xs) ∧ AtL K H ρ l xs
section
variable {K : Frag} {H H' : Hp} {ρ ρ' : List Addr} {S S' : Store}
theorem Rep.get (r : Rep K H ρ S) {n : Nat} {l : List D} (e : S[n]? = some l) : ∃ a xs, ρ[n]? = some a ∧ H a = some (.lst xs) ∧ AtL K H ρ l xs := by
  have hn : n < ρ.length := by rw [r.len]; exact (List.getElem?_eq_some_iff.mp e).1
  obtain ⟨xs, h1, h2⟩ := r.at_ n ρ[n] l (List.getElem?_eq_getElem hn) e
  exact ⟨_, xs, List.getElem?_eq_getElem hn, h1, h2⟩
theorem Rep.fresh (r : Rep K H ρ S) {p : Addr} (hp : H p = none) : p ∉ ρ := fun hm => by
  obtain ⟨n, hn, e⟩ := List.getElem_of_mem hm
  have hs : n < S.length := by rw [← r.len]; exact hn
  obtain ⟨xs, h1, _⟩ := r.at_ n p S[n] (by rw [List.getElem?_eq_getElem hn, e]) (List.getElem?_eq_getElem hs)
  rw [hp] at h1; cases h1
/-- nothing of the store is touched -/
theorem Rep.keep (r : Rep K H ρ S) (st : Ext H H') (k : ∀ a xs, a ∈ ρ → H a = some (.lst xs) → H' a = some (.lst xs)) : Rep K H' ρ S :=
  ⟨r.nd, r.len, fun n a l e1 e2 => by
    obtain ⟨xs, h1, h2⟩ := r.at_ n a l e1 e2
    exact ⟨xs, k a xs (List.mem_of_getElem? e1) h1, h2.mono ⟨st, List.prefix_refl ρ⟩⟩⟩
theorem Rep.newT (r : Rep K H ρ S) {p : Addr} {o : HO} (hp : H p = none) : Rep K (upd H p o) ρ S :=
  r.keep (.new hp) fun a xs _ e => by rw [upd_ne (ne_of_none e hp)]; exact e
/-- a new list -/
theorem Rep.newL (r : Rep K H ρ S) {p : Addr} {l : List D} {xs : List V} (hp : H p = none) (h : AtL K H ρ l xs) : Rep K (upd H p (.lst xs)) (ρ ++ [p]) (S ++ [l]) := by
  have st : Step H ρ (upd H p (.lst xs)) (ρ ++ [p]) := ⟨.new hp, List.prefix_append _ _⟩
  refine ⟨?_, by simp [r.len], fun n a m e1 e2 => ?_⟩
  · rw [List.nodup_append]
    exact ⟨r.nd, by simp, fun a ha b hb => by
      have : b = p := by simpa using hb
      subst this
      exact fun z => r.fresh hp (z ▸ ha)⟩
  · by_cases hn : n < ρ.length
    · rw [List.getElem?_append_left hn] at e1
      rw [List.getElem?_append_left (by rw [← r.len]; exact hn)] at e2
      obtain ⟨ys, h1, h2⟩ := r.at_ n a m e1 e2
      exact ⟨ys, by rw [upd_ne (ne_of_none h1 hp)]; exact h1, h2.mono st⟩
    · have hn' : n = ρ.length := by
        have : n < (ρ ++ [p]).length := (List.getElem?_eq_some_iff.mp e1).1
        simp at this; omega
      subst hn'
      rw [List.getElem?_concat_length] at e1
      rw [r.len, List.getElem?_concat_length] at e2
      cases e1; cases e2
      exact ⟨xs, upd_same, h.mono st⟩
/-- a list written -/
theorem Rep.wr (r : Rep K H ρ S) {n : Nat} {a : Addr} {xs ys : List V} {l : List D} (e : ρ[n]? = some a) (hx : H a = some (.lst xs)) (h : AtL K H ρ l ys) : Rep K (upd H a (.lst ys)) ρ (S.set n l) := by
  have st : Step H ρ (upd H a (.lst ys)) ρ := ⟨.wr hx, List.prefix_refl ρ⟩
  refine ⟨r.nd, by rw [List.length_set]; exact r.len, fun m b k e1 e2 => ?_⟩
  by_cases hm : m = n
  · subst hm
    rw [e] at e1; cases e1
    have hl : m < S.length := by rw [← r.len]; exact (List.getElem?_eq_some_iff.mp e).1
    rw [List.getElem?_set_self hl] at e2; cases e2
    exact ⟨ys, upd_same, h.mono st⟩
  · rw [List.getElem?_set_ne (Ne.symm hm)] at e2
    obtain ⟨zs, h1, h2⟩ := r.at_ m b k e1 e2
    refine ⟨zs, ?_, h2.mono st⟩
    rw [upd_ne fun z => hm ?_]
    · exact h1
    · subst z
      obtain ⟨l1, q1⟩ := List.getElem?_eq_some_iff.mp e1
      obtain ⟨l2, q2⟩ := List.getElem?_eq_some_iff.mp e
      exact (List.getElem_inj r.nd).mp (q1.trans q2.symm)
end

/-- the frame's names -/
def EnvR (K : Frag) (H : Hp) (ρ : List Addr) (env : En) (σ : L2.St) : Prop :=
  σ.length = env.length ∧ ∀ (i : Nat) d, env[i]? = some (some d) → ∃ v, σ[i]? = some (some v) ∧ At K H ρ d v
theorem EnvR.mono {K : Frag} {H H' : Hp} {ρ ρ' : List Addr} {env : En} {σ : L2.St} (st : Step H ρ H' ρ') (h : EnvR K H ρ env σ) : EnvR K H' ρ' env σ :=
  ⟨h.1, fun i d e => let ⟨v, e1, e2⟩ := h.2 i d e; ⟨v, e1, e2.mono st⟩⟩
theorem EnvR.set {K : Frag} {H : Hp} {ρ : List Addr} {env : En} {σ : L2.St} {i : Nat} {d : D} {v : V} (h : EnvR K H ρ env σ) (a : At K H ρ d v) : EnvR K H ρ (env.set i (some d)) (σ.set i (some v)) := by
  refine ⟨by rw [List.length_set, List.length_set]; exact h.1, fun j e q => ?_⟩
  by_cases hj : j = i
  · subst hj
    have hl : j < env.length := by
      have := (List.getElem?_eq_some_iff.mp q).1
      simpa using this
    rw [List.getElem?_set_self hl] at q; cases q
    exact ⟨v, List.getElem?_set_self (by rw [h.1]; exact hl), a⟩
  · rw [List.getElem?_set_ne (Ne.symm hj)] at q ⊢
    exact h.2 j e q
/-- what stays the same: the written part, what is wished of an exception, how an exception lies -/
structure Pm where
  K : Frag
  W : WX
  XA : Nat → List D → Hp → List Addr → Value → Option Addr → Prop
  J : Hp → List Addr → Prop
  jm : ∀ H ρ H' ρ', Step H ρ H' ρ' → J H ρ → J H' ρ'
  Js : L2.St → Prop
abbrev Pm.of (K : Frag) (W : WX) (XA : Nat → List D → Hp → List Addr → Value → Option Addr → Prop) : Pm := ⟨K, W, XA, fun _ _ => True, fun _ _ _ _ _ _ => trivial, fun _ => True⟩
structure Rel (P : Pm) (H : Hp) (ρ : List Addr) (S : Store) (σ : L2.St) (env : En) : Prop where
  rep : Rep P.K H ρ S
  env : EnvR P.K H ρ env σ
  j : P.J H ρ
  js : P.Js σ
section
variable (P : Pm) (σ : L2.St) (H : Hp) (ρ : List Addr)
def ExP (σ : L2.St) (c : Nat) (as : List D) (S' : Store) : Prop := ∀ ρ' cls d H', Step H ρ H' ρ' → Rep P.K H' ρ' S' → P.XA c as H' ρ' cls d → P.W cls d σ H'
def Post {α β : Type} (rel : Hp → List Addr → α → β → Prop) (r : R α) (Q : β → Hp → Prop) : Prop := match r with
  | .ok a S' => ∀ ρ' v H', Step H ρ H' ρ' → Rep P.K H' ρ' S' → rel H' ρ' a v → Q v H'
  | .ex c as S' => ExP P H ρ σ c as S'
  | .bad => False
end
section
variable {P : Pm} {σ : L2.St} {H H1 : Hp} {ρ ρ1 : List Addr} {α β γ δ : Type} {rel : Hp → List Addr → α → β → Prop} {rel' : Hp → List Addr → γ → δ → Prop}
theorem ExP.step {c : Nat} {as : List D} {S' : Store} (st : Step H ρ H1 ρ1) (h : ExP P H ρ σ c as S') : ExP P H1 ρ1 σ c as S' :=
  fun ρ' cls d H' s r x => h ρ' cls d H' (st.trans s) r x
theorem Post.step {r : R α} {Q : β → Hp → Prop} (st : Step H ρ H1 ρ1) (h : Post P σ H ρ rel r Q) : Post P σ H1 ρ1 rel r Q := by
  cases r with
  | ok a S' => exact fun ρ' v H' s q e => h ρ' v H' (st.trans s) q e
  | ex c as S' => exact ExP.step st h
  | bad => exact h
/-- the first part, then the rest -/
theorem Post.bind {r : R α} {f : α → Store → R γ} {Q : δ → Hp → Prop} {Φ : β → Hp → Prop} (h : Post P σ H ρ rel' (r.bind f) Q)
    (k : ∀ a S1 ρ1 v H1, r = .ok a S1 → Step H ρ H1 ρ1 → Rep P.K H1 ρ1 S1 → rel H1 ρ1 a v → Post P σ H1 ρ1 rel' (f a S1) Q → Φ v H1) : Post P σ H ρ rel r Φ := by
  cases r with
  | ok a S' => exact fun ρ' v H' s q e => k a S' ρ' v H' rfl s q e (Post.step s h)
  | ex c as S' => exact h
  | bad => exact h
theorem Post.done {a : α} {S : Store} {Q : β → Hp → Prop} {v : β} (h : Post P σ H ρ rel (.ok a S) Q) (r : Rep P.K H ρ S) (e : rel H ρ a v) : Q v H := h ρ v H (.refl H ρ) r e
theorem Post.to {a : α} {S : Store} {Q : β → Hp → Prop} {v : β} (h : Post P σ H ρ rel (.ok a S) Q) (st : Step H ρ H1 ρ1) (r : Rep P.K H1 ρ1 S) (e : rel H1 ρ1 a v) : Q v H1 := h ρ1 v H1 st r e
end
def relV (P : Pm) : Hp → List Addr → D → V → Prop := fun H ρ d v => At P.K H ρ d v
def relL (P : Pm) : Hp → List Addr → List D → List V → Prop := fun H ρ l xs => AtL P.K H ρ l xs
def relB : Hp → List Addr → Bool → Bool → Prop := fun _ _ b c => b = c
def rdE (P : Pm) (m : En → Store → R D) : TE := fun σ H Q => ∃ ρ env S, Rel P H ρ S σ env ∧ Post P σ H ρ (relV P) (m env S) Q
def rdA (P : Pm) (m : En → Store → R (List D)) : TA := fun σ H Q => ∃ ρ env S, Rel P H ρ S σ env ∧ Post P σ H ρ (relL P) (m env S) Q
def rdT (P : Pm) (m : En → Store → R Bool) : TT := fun σ H Q => ∃ ρ env S, Rel P H ρ S σ env ∧ Post P σ H ρ relB (m env S) Q
theorem Rel.at {P : Pm} {H H' : Hp} {ρ ρ' : List Addr} {S S' : Store} {σ : L2.St} {env : En} (r : Rel P H ρ S σ env) (st : Step H ρ H' ρ') (q : Rep P.K H' ρ' S') : Rel P H' ρ' S' σ env := ⟨q, r.env.mono st, P.jm _ _ _ _ st r.j, r.js⟩
end DL

end
section
set_option maxHeartbeats 4000000
/-! # DL, soundness 2: expressions -/
namespace DL
open PySem PySem.Spec PyProof.Rows L2

theorem PE.imp {X : Cx} {e : Expr} {t t' : TE} (h : PE X e t) (i : ∀ σ H Q, t' σ H Q → t σ H Q) : PE X e t' := ⟨fun pins s σ H Q I q => h.run pins s σ H Q I (i σ H Q q)⟩
theorem PT.imp {X : Cx} {e : Expr} {t t' : TT} (h : PT X e t) (i : ∀ σ H Q, t' σ H Q → t σ H Q) : PT X e t' := ⟨fun pins s σ H Q I q => h.run pins s σ H Q I (i σ H Q q)⟩
theorem PA.imp {X : Cx} {e : List Expr} {t t' : TA} (h : PA X e t) (i : ∀ σ H Q, t' σ H Q → t σ H Q) : PA X e t' := ⟨fun pos pins s σ H Q I q => h.run pos pins s σ H Q I (i σ H Q q)⟩
theorem OpR.imp {X : Cx} {f : Value → Value → Sem Value} {r r' : R2} (h : OpR X f r) (i : ∀ x y H Q, r' x y H Q → r x y H Q) : OpR X f r' :=
  fun pins s σ H x y v u Q I rx ry q => h pins s σ H x y v u Q I rx ry (i x y H Q q)
theorem CallR.imp {X : Cx} {f : Value} {r r' : List V → Hp → VK → Prop} (h : CallR X f r) (i : ∀ xs H Q, r' xs H Q → r xs H Q) : CallR X f r' :=
  fun pins s σ H xs us Q I rx q => h pins s σ H xs us Q I rx (i xs H Q q)
theorem CallR.or {X : Cx} {f : Value} {r r' : List V → Hp → VK → Prop} (h : CallR X f r) (h' : CallR X f r') : CallR X f (fun xs H Q => r xs H Q ∨ r' xs H Q) := by
  intro pins s σ H xs us Q I rx q
  rcases q with q | q
  · exact h pins s σ H xs us Q I rx q
  · exact h' pins s σ H xs us Q I rx q

/-- no exception here -/
def PostN (P : Pm) (H : Hp) (ρ : List Addr) {α β : Type} (rel : Hp → List Addr → α → β → Prop) (r : R α) (Q : β → Hp → Prop) : Prop := match r with
  | .ok a S' => ∀ ρ' v H', Step H ρ H' ρ' → Rep P.K H' ρ' S' → rel H' ρ' a v → Q v H'
  | _ => False
def NoEx {α : Type} (r : R α) : Prop := ∀ c as S, r ≠ .ex c as S
theorem Post.noex {P : Pm} {σ : L2.St} {H : Hp} {ρ : List Addr} {α β : Type} {rel : Hp → List Addr → α → β → Prop} {r : R α} {Q : β → Hp → Prop} (n : NoEx r) (h : Post P σ H ρ rel r Q) : PostN P H ρ rel r Q := by
  cases r with
  | ok a S => exact h
  | ex c as S => exact absurd rfl (n c as S)
  | bad => exact h
/-- by values, two -/
def r2 (P : Pm) (f : D → D → Store → R D) : R2 := fun x y H Q => ∃ ρ a b S, Rep P.K H ρ S ∧ At P.K H ρ a x ∧ At P.K H ρ b y ∧ PostN P H ρ (relV P) (f a b S) Q
theorem At.int_inv {K : Frag} {H : Hp} {ρ : List Addr} {i : Int} {v : V} (h : At K H ρ (.int i) v) : v = .int i := by simpa only [At] using h
theorem At.str_inv {K : Frag} {H : Hp} {ρ : List Addr} {i : Str} {v : V} (h : At K H ρ (.str i) v) : v = .str i := by simpa only [At] using h
theorem At.bl_inv {K : Frag} {H : Hp} {ρ : List Addr} {i : Bool} {v : V} (h : At K H ρ (.bl i) v) : v = .bl i := by simpa only [At] using h
theorem At.non_inv {K : Frag} {H : Hp} {ρ : List Addr} {v : V} (h : At K H ρ .non v) : v = .non := by simpa only [At] using h
theorem At.tup_inv {K : Frag} {H : Hp} {ρ : List Addr} {l : List D} {v : V} (h : At K H ρ (.tup l) v) : ∃ a xs, v = .ref a ∧ SqT K H a xs ∧ AtL K H ρ l xs := by simpa only [At] using h
theorem At.fz_inv {K : Frag} {H : Hp} {ρ : List Addr} {l : List D} {v : V} (h : At K H ρ (.fz l) v) : ∃ a xs, v = .ref a ∧ SqF K H a xs ∧ AtL K H ρ l xs := by simpa only [At] using h
theorem At.ref_inv {K : Frag} {H : Hp} {ρ : List Addr} {n : Nat} {v : V} (h : At K H ρ (.ref n) v) : ∃ a, v = .ref a ∧ ρ[n]? = some a := by simpa only [At] using h
theorem At.dct_inv {K : Frag} {H : Hp} {ρ : List Addr} {v : V} (h : At K H ρ .dct v) : ∃ a, v = .ref a ∧ H a = some (.dK []) := by simpa only [At] using h
theorem At.mk_dct {K : Frag} {H : Hp} {ρ : List Addr} {a : Addr} (e : H a = some (.dK [])) : At K H ρ .dct (.ref a) := by
  simp only [At]; exact ⟨a, rfl, e⟩
theorem At.mk_int {K : Frag} {H : Hp} {ρ : List Addr} {i : Int} : At K H ρ (.int i) (.int i) := by simp only [At]
theorem At.mk_bl {K : Frag} {H : Hp} {ρ : List Addr} {i : Bool} : At K H ρ (.bl i) (.bl i) := by simp only [At]
theorem At.mk_str {K : Frag} {H : Hp} {ρ : List Addr} {i : Str} : At K H ρ (.str i) (.str i) := by simp only [At]
theorem At.mk_non {K : Frag} {H : Hp} {ρ : List Addr} : At K H ρ .non .non := by simp only [At]
theorem At.mk_tup {K : Frag} {H : Hp} {ρ : List Addr} {l : List D} {a : Addr} {xs : List V} (s : SqT K H a xs) (h : AtL K H ρ l xs) : At K H ρ (.tup l) (.ref a) := by
  simp only [At]; exact ⟨a, xs, rfl, s, h⟩
theorem At.mk_ref {K : Frag} {H : Hp} {ρ : List Addr} {n : Nat} {a : Addr} (e : ρ[n]? = some a) : At K H ρ (.ref n) (.ref a) := by
  simp only [At]; exact ⟨a, rfl, e⟩
/-- items: a list or a tuple that may be read -/
theorem items_inv {K : Frag} {H : Hp} {ρ : List Addr} {S : Store} {d : D} {l : List D} {v : V} (r : Rep K H ρ S) (h : At K H ρ d v) (e : items S d = some l) : ∃ a xs, v = .ref a ∧ (SqL K H a xs ∨ SqT K H a xs) ∧ AtL K H ρ l xs := by
  cases d <;> simp only [items] at e <;> try cases e
  · obtain ⟨a, xs, rfl, s, q⟩ := h.tup_inv
    exact ⟨a, xs, rfl, .inr s, q⟩
  · obtain ⟨a, xs, rfl, s, q⟩ := h.fz_inv
    exact ⟨a, xs, rfl, .inl s.l, q⟩
  · obtain ⟨a, rfl, ea⟩ := h.ref_inv
    obtain ⟨b, xs, eb, hb, q⟩ := r.get e
    rw [ea] at eb; cases eb
    exact ⟨a, xs, rfl, .inl (.of hb), q⟩
theorem lstOf_inv {K : Frag} {H : Hp} {ρ : List Addr} {S : Store} {d : D} {l : List D} {v : V} (r : Rep K H ρ S) (h : At K H ρ d v) (e : lstOf S d = some l) : ∃ a xs, v = .ref a ∧ SqL K H a xs ∧ AtL K H ρ l xs := by
  cases d <;> simp only [lstOf] at e <;> try cases e
  · obtain ⟨a, xs, rfl, s, q⟩ := h.fz_inv
    exact ⟨a, xs, rfl, s.l, q⟩
  · obtain ⟨a, rfl, ea⟩ := h.ref_inv
    obtain ⟨b, xs, eb, hb, q⟩ := r.get e
    rw [ea] at eb; cases eb
    exact ⟨a, xs, rfl, .of hb, q⟩
theorem step_new {H : Hp} {ρ : List Addr} {p : Addr} {o : HO} (hp : H p = none) : Step H ρ (upd H p o) ρ := ⟨.new hp, List.prefix_refl ρ⟩
theorem step_newL {H : Hp} {ρ : List Addr} {p : Addr} {o : HO} (hp : H p = none) : Step H ρ (upd H p o) (ρ ++ [p]) := ⟨.new hp, List.prefix_append _ _⟩
/-- a new list is handed on -/
theorem post_newL {P : Pm} {H : Hp} {ρ : List Addr} {S : Store} {l : List D} {xs : List V} {Q : VK} {p : Addr} (r : Rep P.K H ρ S) (a : AtL P.K H ρ l xs) (hp : H p = none)
    (h : PostN P H ρ (relV P) (.ok (.ref S.length) (S ++ [l])) Q) : Q (.ref p) (upd H p (.lst xs)) :=
  h _ _ _ (step_newL hp) (r.newL hp a) (At.mk_ref (by rw [← r.len]; exact List.getElem?_concat_length))
theorem post_newT {P : Pm} {H : Hp} {ρ : List Addr} {S : Store} {l : List D} {xs : List V} {Q : VK} {p : Addr} (r : Rep P.K H ρ S) (a : AtL P.K H ρ l xs) (hp : H p = none)
    (h : PostN P H ρ (relV P) (.ok (.tup l) S) Q) : Q (.ref p) (upd H p (.tup xs)) :=
  h _ _ _ (step_new hp) (r.newT hp) (At.mk_tup (.of upd_same) (a.mono (step_new hp)))

section
variable {X : Cx} {P : Pm}
/-- two values, an operator -/
theorem pe_bin {op : Operator} {f : D → D → Store → R D} {a b : Expr} {pos : Pos} {m1 m2 : En → Store → R D} (ho : OpR X (binaryOp op) (r2 P f)) (nx : ∀ x y S, NoEx (f x y S)) (ha : PE X a (rdE P m1)) (hb : PE X b (rdE P m2)) :
    PE X (.BinOp a op b pos) (rdE P fun env S => (m1 env S).bind fun x S1 => (m2 env S1).bind fun y S2 => f x y S2) := by
  refine PE.imp (pe_op ho ha hb) fun σ H Q ⟨ρ, env, S, r, h⟩ => ?_
  refine ⟨ρ, env, S, r, h.bind fun x S1 ρ1 v H1 _ st1 q1 a1 h1 => ?_⟩
  refine ⟨ρ1, env, S1, r.at st1 q1, h1.bind fun y S2 ρ2 u H2 _ st2 q2 a2 h2 => ?_⟩
  exact ⟨ρ2, x, y, S2, q2, a1.mono st2, a2, h2.noex (nx x y S2)⟩
theorem pe_cmpb {op : CmpOp} {f : D → D → Store → R D} {a b : Expr} {pos : Pos} {m1 m2 : En → Store → R D} (ho : OpR X (compareOp op) (r2 P f)) (nx : ∀ x y S, NoEx (f x y S)) (ha : PE X a (rdE P m1)) (hb : PE X b (rdE P m2)) (hm : behindInMarks op b = false) :
    PE X (.Compare a [op] [b] pos) (rdE P fun env S => (m1 env S).bind fun x S1 => (m2 env S1).bind fun y S2 => f x y S2) := by
  refine PE.imp (pe_cmpR ho ha hb hm) fun σ H Q ⟨ρ, env, S, r, h⟩ => ?_
  refine ⟨ρ, env, S, r, h.bind fun x S1 ρ1 v H1 _ st1 q1 a1 h1 => ?_⟩
  refine ⟨ρ1, env, S1, r.at st1 q1, h1.bind fun y S2 ρ2 u H2 _ st2 q2 a2 h2 => ?_⟩
  exact ⟨ρ2, x, y, S2, q2, a1.mono st2, a2, h2.noex (nx x y S2)⟩

theorem noex_opD (o : Bop) (x y : D) (S : Store) : NoEx (opD o x y S) := by
  intro c as S' h
  unfold opD at h
  (repeat' split at h) <;> first | cases h | (unfold newT at h; split at h <;> cases h) | (unfold newL at h; split at h <;> cases h)

/-- // by any divisor but 0, of a size that is reckoned here -/
def CDivG (i j : Int) : Prop := j ≠ 0 ∧ Builtin.divisionGoesByPylong i j = false
theorem op_fdivG : OpR X (binaryOp .FloorDiv) (rI CDivG fun i j => .int (i.fdiv j)) := opI fun _ _ _ _ _ _ _ hc q => floordiv_int hc.1 q (.inl hc.2)

theorem bop_add (hK : P.K = X.K) : OpR X (binaryOp .Add) (r2 P (opD .add)) := by
  refine OpR.imp (OpR.or op_add (OpR.or op_add_str (OpR.or op_catA op_cat))) fun x y H Q ⟨ρ, a, b, S, r, ha, hb, h⟩ => ?_
  cases a <;> cases b <;> simp only [opD] at h <;> try exact False.elim h
  · cases ha.int_inv; cases hb.int_inv
    exact .inl ⟨_, _, rfl, rfl, h _ _ _ (.refl H ρ) r .mk_int⟩
  · cases ha.str_inv; cases hb.str_inv
    refine .inr (.inl ⟨_, _, rfl, rfl, ?_⟩)
    split at h
    · rename_i hl
      exact ⟨hl, h _ _ _ (.refl H ρ) r .mk_str⟩
    · exact False.elim h
  · obtain ⟨p, xs, rfl, sx, ax⟩ := ha.tup_inv
    obtain ⟨q, ys, rfl, sy, ay⟩ := hb.tup_inv
    have h : PostN P H ρ (relV P) (newT _ S) Q := h
    unfold newT at h
    split at h
    · rename_i hl
      refine .inr (.inr (.inl ⟨p, q, xs, ys, rfl, rfl, hK ▸ sx, hK ▸ sy, ?_, fun e => ?_, fun e1 e2 => ?_, fun _ _ p hp => post_newT r (ax.append ay) hp h⟩))
      · rw [← ax.length, ← ay.length, ← List.length_append]; exact hl
      · subst e
        have := ax.length
        have e0 := List.eq_nil_of_length_eq_zero (this.trans rfl)
        refine h _ _ _ (.refl H ρ) r ?_
        exact At.mk_tup sy (by rw [e0, List.nil_append]; exact ay)
      · subst e2
        have := ay.length
        have e0 := List.eq_nil_of_length_eq_zero (this.trans rfl)
        refine h _ _ _ (.refl H ρ) r ?_
        exact At.mk_tup sx (by rw [e0, List.append_nil]; exact ax)
    · exact False.elim h
  · rename_i m n
    obtain ⟨p, rfl, ep⟩ := ha.ref_inv
    obtain ⟨q, rfl, eq⟩ := hb.ref_inv
    have h : PostN P H ρ (relV P) (match S[m]?, S[n]? with | some l, some k => newL (l ++ k) S | _, _ => .bad) Q := h
    cases e1 : S[m]? with
    | none => rw [e1] at h; exact False.elim h
    | some l =>
      cases e2 : S[n]? with
      | none => rw [e1, e2] at h; exact False.elim h
      | some k =>
        rw [e1, e2] at h
        obtain ⟨p', xs, ep', hx, ax⟩ := r.get e1
        obtain ⟨q', ys, eq', hy, ay⟩ := r.get e2
        rw [ep] at ep'; cases ep'
        rw [eq] at eq'; cases eq'
        have h : PostN P H ρ (relV P) (newL (l ++ k) S) Q := h
        unfold newL at h
        split at h
        · rename_i hl
          refine .inr (.inr (.inr ⟨p, q, xs, ys, rfl, rfl, hx, hy, ?_, fun t ht => post_newL r (ax.append ay) ht h⟩))
          rw [← ax.length, ← ay.length, ← List.length_append]; exact hl
        · exact False.elim h
theorem bop_sub : OpR X (binaryOp .Sub) (r2 P (opD .sub)) := by
  refine OpR.imp op_sub fun x y H Q ⟨ρ, a, b, S, r, ha, hb, h⟩ => ?_
  cases a <;> cases b <;> simp only [opD] at h <;> try exact False.elim h
  cases ha.int_inv; cases hb.int_inv
  exact ⟨_, _, rfl, rfl, h _ _ _ (.refl H ρ) r .mk_int⟩
theorem bop_fdiv : OpR X (binaryOp .FloorDiv) (r2 P (opD .fdiv)) := by
  refine OpR.imp op_fdivG fun x y H Q ⟨ρ, a, b, S, r, ha, hb, h⟩ => ?_
  cases a <;> cases b <;> simp only [opD] at h <;> try exact False.elim h
  cases ha.int_inv; cases hb.int_inv
  split at h
  · exact False.elim h
  · rename_i h0
    split at h
    · rename_i h1
      refine ⟨_, _, rfl, rfl, ⟨h0, ?_⟩, h _ _ _ (.refl H ρ) r .mk_int⟩
      simpa [divOk] using h1
    · exact False.elim h
theorem bop_mod : OpR X (binaryOp .Mod) (r2 P (opD .mod)) := by
  refine OpR.imp op_modN fun x y H Q ⟨ρ, a, b, S, r, ha, hb, h⟩ => ?_
  cases a <;> cases b <;> simp only [opD] at h <;> try exact False.elim h
  cases ha.int_inv; cases hb.int_inv
  split at h
  · exact False.elim h
  · rename_i h0
    exact ⟨_, _, rfl, rfl, h0, h _ _ _ (.refl H ρ) r .mk_int⟩
theorem bop_pow : OpR X (binaryOp .Pow) (r2 P (opD .pow)) := by
  refine OpR.imp op_pow fun x y H Q ⟨ρ, a, b, S, r, ha, hb, h⟩ => ?_
  cases a <;> cases b <;> simp only [opD] at h <;> try exact False.elim h
  cases ha.int_inv; cases hb.int_inv
  split at h
  · rename_i h0
    simp only [powOk, Bool.and_eq_true, decide_eq_true_eq] at h0
    exact ⟨_, _, rfl, rfl, ⟨h0.1, h0.2.1, h0.2.2⟩, h _ _ _ (.refl H ρ) r .mk_int⟩
  · exact False.elim h
end
end DL

end
section
set_option maxHeartbeats 4000000
/-! # DL: tuple * int, all signs -/
namespace DL
open PySem PySem.Spec PyProof.Rows L2
theorem tuple_mul0 (l : Addr) (items : Array Value) (n : Nat) (dd : Option Addr) (sl : Array (Option Value)) (x : Int) (u : Tok) (c0 : (decide (x < -(2 ^ 63)) || decide (x ≥ 2 ^ 63)) = false) (c1 : (items.isEmpty || x == 1) = false) (c2 : (decide (x ≤ 0) || items.isEmpty) = true) :
    Meets (Builtin.«tuple.__mul__» ⟨[.ref l, .int x u], []⟩) (fun _ R s => s.heap.get? l = some { cls := .type "tuple", dict := dd, data := .seq items n, slots := sl } ∧
      R (.ok (.ret (Value.ref s.heap.objs.size))) { s with heap := s.heap.push { cls := Value.type "tuple", data := Data.seq #[] }, toks := s.toks }) :=
  .of_wp fun prog w A R s h => by
    obtain ⟨hp, g, d, tk, os⟩ := s
    obtain ⟨hl, h⟩ := h
    have f1 := AutoSeq1.idx_int
    have hsz : (#[] : Array Value).size ≤ sizeLine := Nat.zero_le _
    wp_walk using wpAny_loadPart' hl
    repeat (first
      | (refine wpAny_ite_false (decide_eq_false (by rw [c0]; exact Bool.false_ne_true)) ?_; wp_walk using wpAny_loadPart' hl)
      | (refine wpAny_ite_false (decide_eq_false (by rw [c1]; exact Bool.false_ne_true)) ?_; wp_walk using wpAny_loadPart' hl)
      | (refine wpAny_ite_true (decide_eq_true (by rw [c2])) ?_; wp_walk using wpAny_loadPart' hl)
      | (refine wpAny_ite_false (decide_eq_false (Nat.not_lt.mpr hsz)) ?_; wp_walk using wpAny_loadPart' hl))
    exact ⟨_, rfl, h⟩
theorem tuple_mul1 (l : Addr) (items : Array Value) (n : Nat) (dd : Option Addr) (sl : Array (Option Value)) (x : Int) (u : Tok) (c0 : (decide (x < -(2 ^ 63)) || decide (x ≥ 2 ^ 63)) = false) (c1 : (items.isEmpty || x == 1) = true) :
    Meets (Builtin.«tuple.__mul__» ⟨[.ref l, .int x u], []⟩) (fun _ R s => s.heap.get? l = some { cls := .type "tuple", dict := dd, data := .seq items n, slots := sl } ∧
      R (.ok (.ret (Value.ref l))) s) :=
  .of_wp fun prog w A R s h => by
    obtain ⟨hp, g, d, tk, os⟩ := s
    obtain ⟨hl, h⟩ := h
    have f1 := AutoSeq1.idx_int
    wp_walk using wpAny_loadPart' hl
    repeat (first
      | (refine wpAny_ite_false (decide_eq_false (by rw [c0]; exact Bool.false_ne_true)) ?_; wp_walk using wpAny_loadPart' hl)
      | (refine wpAny_ite_true (decide_eq_true (by rw [c1])) ?_; wp_walk using wpAny_loadPart' hl))
    exact ⟨_, rfl, h⟩

def rRepA (K : PySem.W.Frag) : R2 := fun x y H Q => ∃ l k xs, x = .ref l ∧ y = .int k ∧ SqT K H l xs ∧ -(2 ^ 63) ≤ k ∧ k ≤ 1000 ∧ xs.length ≤ 1000 ∧
  (xs = [] ∨ k = 1 → Q (.ref l) H) ∧ (¬ (xs = [] ∨ k = 1) → ∀ p, H p = none → Q (.ref p) (upd H p (.tup (List.replicate k.toNat xs).flatten)))
section
variable {X : Cx}
theorem op_repA : OpR X (binaryOp .Mult) (rRepA X.K) := by
  intro pins s σ H x y v u Q I rx ry h
  obtain ⟨l, k, xs, rfl, rfl, hT, h1, h2, hz, q1, q2⟩ := h
  by_cases hb : ¬ (xs = [] ∨ k = 1) ∧ 2 ≤ k
  · exact op_repT pins s σ H _ _ v u Q I rx ry ⟨l, k, xs, rfl, rfl, hT, fun e => hb.1 (.inl e), hb.2, h2, hz, q2 hb.1⟩
  · cases rx
    obtain ⟨t, rfl⟩ := ry
    obtain ⟨its, r, ⟨⟨cls, dd, data, sl⟩, ho, hc, n, hd⟩, hs⟩ := I.tuple hT
    simp only at hc hd
    subst hc hd
    have hle : its.length = xs.length := r.length.symm
    have c0 : (decide (k < -(2 ^ 63)) || decide (k ≥ 2 ^ 63)) = false := by
      rw [decide_eq_false (by omega), decide_eq_false (by omega)] <;> rfl
    by_cases hs1 : xs = [] ∨ k = 1
    · have c1 : (its.toArray.isEmpty || k == 1) = true := by
        rcases hs1 with e | e
        · subst e
          cases its with
          | nil => rfl
          | cons a b => simp at hle
        · subst e; simp
      refine wpAny_binaryOp_repeat_ref (T := "tuple") (U := "int") (by decide) ⟨_, ho, rfl⟩ (fun s' => typeIs_int s' k t) noFill_tuple_mul F.fills_int_mul F.slot_int_rmul repeat_tuple F.slot_int_index.lookup
        (call_meets F.slot_int_rmul (typeIs_int s k t) F.entry_int_rmul (F.args_int_rmul_2 _ _) (int_rmul_tuple k t l its.toArray n dd sl)
          ⟨ho, rfl, ⟨_, ho, rfl⟩, call_meets F.slot_tuple_mul ⟨_, ho, rfl⟩ F.entry_tuple_mul (F.args_tuple_mul_2 _ _) (tuple_mul1 l its.toArray n dd sl k t c0 c1) ⟨ho, ?_⟩⟩)
      exact ⟨.ref l, H, I, rfl, q1 hs1⟩
    · have hk : k ≤ 0 := by
        have : ¬ 2 ≤ k := fun z => hb ⟨hs1, z⟩
        have : ¬ k = 1 := fun z => hs1 (.inr z)
        omega
      have hne : its ≠ [] := fun e => hs1 (.inl (by
        rw [e] at hle
        exact List.eq_nil_of_length_eq_zero hle.symm))
      have hi : its.toArray.isEmpty = false := by
        cases its with
        | nil => exact absurd rfl hne
        | cons a b => rfl
      have c1 : (its.toArray.isEmpty || k == 1) = false := by
        rw [hi, Bool.false_or]
        exact beq_eq_false_iff_ne.mpr (by omega)
      have c2 : (decide (k ≤ 0) || its.toArray.isEmpty) = true := by
        rw [decide_eq_true hk, Bool.true_or]
      refine wpAny_binaryOp_repeat_ref (T := "tuple") (U := "int") (by decide) ⟨_, ho, rfl⟩ (fun s' => typeIs_int s' k t) noFill_tuple_mul F.fills_int_mul F.slot_int_rmul repeat_tuple F.slot_int_index.lookup
        (call_meets F.slot_int_rmul (typeIs_int s k t) F.entry_int_rmul (F.args_int_rmul_2 _ _) (int_rmul_tuple k t l its.toArray n dd sl)
          ⟨ho, rfl, ⟨_, ho, rfl⟩, call_meets F.slot_tuple_mul ⟨_, ho, rfl⟩ F.entry_tuple_mul (F.args_tuple_mul_2 _ _) (tuple_mul0 l its.toArray n dd sl k t c0 c1 c2) ⟨ho, ?_⟩⟩)
      have e0 : (List.replicate k.toNat xs).flatten = [] := by
        have : k.toNat = 0 := by omega
        rw [this]; rfl
      refine ⟨.ref s.heap.objs.size, _, I.laid (t' := s.toks) (o := .tup (List.replicate k.toNat xs).flatten) (fun b ob q => Heap.get?_push_of_some _ q) (Nat.le_refl _) ?_, rfl, q2 hs1 _ (I.hok.fresh (Nat.le_refl _))⟩
      rw [e0]
      exact ⟨Nat.zero_le _, [], .nil, IsTup.new _ _⟩
end
section
variable {X : Cx} {P : Pm}
theorem bop_mul (hK : P.K = X.K) : OpR X (binaryOp .Mult) (r2 P (opD .mul)) := by
  refine OpR.imp (OpR.or op_mulX (OpR.or op_repA op_rep)) fun x y H Q ⟨ρ, a, b, S, r, ha, hb, h⟩ => ?_
  cases a <;> cases b <;> simp only [opD] at h <;> try exact False.elim h
  · cases ha.int_inv; cases hb.int_inv
    split at h
    · rename_i h1
      simp only [mulOk_eq, decide_eq_true_eq] at h1
      exact .inl ⟨_, _, rfl, rfl, h1, h _ _ _ (.refl H ρ) r .mk_int⟩
    · exact False.elim h
  · rename_i l k
    obtain ⟨p, xs, rfl, sx, ax⟩ := ha.tup_inv
    cases hb.int_inv
    split at h
    · rename_i h1
      refine .inr (.inl ⟨p, _, xs, rfl, rfl, hK ▸ sx, h1.1.1, h1.1.2, by rw [← ax.length]; exact h1.2, fun e => ?_, fun e t ht => post_newT r (ax.rep _) ht h⟩)
      refine h _ _ _ (.refl H ρ) r ?_
      refine At.mk_tup sx ?_
      have q := ax.rep k.toNat
      rcases e with e | e
      · subst e
        have e0 := List.eq_nil_of_length_eq_zero (ax.length.trans rfl)
        subst e0
        have : rep [] k.toNat = [] := by simp [DL.rep]
        rw [this]; exact .nil
      · subst e
        have : rep l (1 : Int).toNat = l := by simp [DL.rep, List.replicate]
        rw [this]; exact ax
    · exact False.elim h
  · rename_i n k
    obtain ⟨p, rfl, ep⟩ := ha.ref_inv
    cases hb.int_inv
    cases e1 : S[n]? with
    | none => rw [e1] at h; exact False.elim h
    | some l =>
      rw [e1] at h
      have h : PostN P H ρ (relV P) (if (-(2 ^ 63) ≤ k ∧ k < 2 ^ 63) ∧ l.length * k.toNat ≤ PySem.sizeLine then .ok (.ref S.length) (S ++ [DL.rep l k.toNat]) else .bad) Q := h
      obtain ⟨p', xs, ep', hx, ax⟩ := r.get e1
      rw [ep] at ep'; cases ep'
      split at h
      · rename_i h1
        exact .inr (.inr ⟨p, _, xs, rfl, rfl, hx, h1.1.1, h1.1.2, by rw [← ax.length]; exact h1.2, fun t ht => post_newL r (ax.rep _) ht h⟩)
      · exact False.elim h
end
end DL

end
section
set_option maxHeartbeats 4000000
/-! # DL, soundness 3: comparisons, built-in calls -/
namespace DL
open PySem PySem.Spec PyProof.Rows L2

/-! ### data -/
theorem mapM_cons_some {α β : Type} {f : α → Option β} {a : α} {l : List α} {ys : List β} (h : (a :: l).mapM f = some ys) : ∃ y r, f a = some y ∧ l.mapM f = some r ∧ ys = y :: r := by
  rw [List.mapM_cons] at h
  cases e1 : f a with
  | none => rw [e1] at h; cases h
  | some y =>
    rw [e1] at h
    cases e2 : l.mapM f with
    | none => rw [e2] at h; cases h
    | some r =>
      rw [e2] at h
      cases h
      exact ⟨y, r, rfl, rfl, rfl⟩
theorem dpAll_of {K : Frag} {H : Hp} {ρ : List Addr} {S : Store} {n : Nat} (ih : ∀ d v p, At K H ρ d v → toP S n d = some p → Dp K H v p) : ∀ {l : List D} {xs : List V} {ps : List PyData}, AtL K H ρ l xs → l.mapM (toP S n) = some ps → DpAll K H xs ps
  | [], xs, ps, h, e => by
    simp only [AtL] at h; subst h
    cases e; exact .nil
  | d :: ds, xs, ps, h, e => by
    obtain ⟨x, r, rfl, a, q⟩ := h.inv
    obtain ⟨y, r', e1, e2, rfl⟩ := mapM_cons_some e
    exact .cons (ih _ _ _ a e1) (dpAll_of ih q e2)
theorem dp_of {K : Frag} {H : Hp} {ρ : List Addr} {S : Store} (r : Rep K H ρ S) : ∀ (n : Nat) (d : D) (v : V) (p : PyData), At K H ρ d v → toP S n d = some p → Dp K H v p
  | n, .non, v, p, h, e => by cases h.non_inv; cases n <;> (cases e; exact .non)
  | n, .bl b, v, p, h, e => by cases h.bl_inv; cases n <;> (cases e; exact .bl b)
  | n, .int b, v, p, h, e => by cases h.int_inv; cases n <;> (cases e; exact .int b)
  | n, .str b, v, p, h, e => by cases h.str_inv; cases n <;> (cases e; exact .str b)
  | n, .dct, v, p, h, e => by cases n <;> cases e
  | 0, .tup l, v, p, h, e => by cases e
  | 0, .fz l, v, p, h, e => by cases e
  | 0, .ref l, v, p, h, e => by cases e
  | n + 1, .tup l, v, p, h, e => by
    obtain ⟨a, xs, rfl, s, q⟩ := h.tup_inv
    have e : (l.mapM (toP S n)).map PyData.tuple = some p := e
    cases e2 : l.mapM (toP S n) with
    | none => rw [e2] at e; cases e
    | some ps =>
      rw [e2] at e; cases e
      exact .tup s (dpAll_of (fun d v p h e => dp_of r n d v p h e) q e2)
  | n + 1, .fz l, v, p, h, e => by
    obtain ⟨a, xs, rfl, s, q⟩ := h.fz_inv
    have e : (l.mapM (toP S n)).map PyData.list = some p := e
    cases e2 : l.mapM (toP S n) with
    | none => rw [e2] at e; cases e
    | some ps =>
      rw [e2] at e; cases e
      exact .lst s.l (dpAll_of (fun d v p h e => dp_of r n d v p h e) q e2)
  | n + 1, .ref k, v, p, h, e => by
    obtain ⟨a, rfl, ea⟩ := h.ref_inv
    have e : (match S[k]? with | some l => (l.mapM (toP S n)).map PyData.list | none => none) = some p := e
    cases ek : S[k]? with
    | none => rw [ek] at e; cases e
    | some l =>
      rw [ek] at e
      obtain ⟨b, xs, eb, hb, q⟩ := r.get ek
      rw [ea] at eb; cases eb
      have e : (l.mapM (toP S n)).map PyData.list = some p := e
      cases e2 : l.mapM (toP S n) with
      | none => rw [e2] at e; cases e
      | some ps =>
        rw [e2] at e; cases e
        exact .lst (.of hb) (dpAll_of (fun d v p h e => dp_of r n d v p h e) q e2)
theorem dps_of {K : Frag} {H : Hp} {ρ : List Addr} {S : Store} (r : Rep K H ρ S) {d : D} {v : V} {p : PyData} (h : At K H ρ d v) (e : toPs S d = some p) : Dp K H v p ∧ SeqAt.shaped p = true := by
  unfold toPs at e
  cases e1 : toP S 12 d with
  | none => rw [e1] at e; cases e
  | some q =>
    rw [e1] at e
    have e : (if SeqAt.shaped q then some q else none) = some p := e
    split at e
    · rename_i hs
      cases e
      exact ⟨dp_of r _ _ _ _ h e1, hs⟩
    · cases e

theorem noex_cmpR (o : Cop) (x y : D) (S : Store) : NoEx (cmpR o x y S) := by
  intro c as S' h
  unfold cmpR at h
  split at h <;> cases h
/-- a comparison by values: cmpD's answer -/
def rCmp (P : Pm) (o : Cop) : R2 := fun x y H Q => ∃ ρ a b S k, Rep P.K H ρ S ∧ At P.K H ρ a x ∧ At P.K H ρ b y ∧ cmpD o a b S = some k ∧ Q (.bl k) H
theorem rCmp_of {P : Pm} {o : Cop} {x y : V} {H : Hp} {Q : VK} (h : r2 P (cmpR o) x y H Q) : rCmp P o x y H Q := by
  obtain ⟨ρ, a, b, S, r, ha, hb, h⟩ := h
  unfold cmpR at h
  cases e : cmpD o a b S with
  | none => rw [e] at h; exact False.elim h
  | some k =>
    rw [e] at h
    exact ⟨ρ, a, b, S, k, r, ha, hb, e, h _ _ _ (.refl H ρ) r .mk_bl⟩
section
variable {X : Cx} {P : Pm}
theorem cop_eq (hK : P.K = X.K) (hu : X.A.units + 65 < cLine) : OpR X (compareOp .Eq) (rCmp P .eq) := by
  refine OpR.imp (op_eqD (by omega)) fun x y H Q ⟨ρ, a, b, S, k, r, ha, hb, e, h⟩ => ?_
  have e : eqD a b S = some k := e
  unfold eqD at e
  split at e
  · rename_i d e' h1 h2
    cases e
    obtain ⟨p1, s1⟩ := dps_of r ha h1
    obtain ⟨p2, s2⟩ := dps_of r hb h2
    exact ⟨d, e', hK ▸ p1, hK ▸ p2, s1, s2, h⟩
  · cases e
theorem cop_ne (hK : P.K = X.K) (hu : X.A.units + 65 < cLine) : OpR X (compareOp .NotEq) (rCmp P .ne) := by
  refine OpR.imp (op_neD (by omega)) fun x y H Q ⟨ρ, a, b, S, k, r, ha, hb, e, h⟩ => ?_
  have e : (eqD a b S).map (!·) = some k := e
  cases e1 : eqD a b S with
  | none => rw [e1] at e; cases e
  | some k' =>
    rw [e1] at e; cases e
    unfold eqD at e1
    split at e1
    · rename_i d e' h1 h2
      cases e1
      obtain ⟨p1, s1⟩ := dps_of r ha h1
      obtain ⟨p2, s2⟩ := dps_of r hb h2
      exact ⟨d, e', hK ▸ p1, hK ▸ p2, s1, s2, h⟩
    · cases e1
theorem inD_inv {K : Frag} {H : Hp} {ρ : List Addr} {S : Store} {a b : D} {x y : V} {k : Bool} (r : Rep K H ρ S) (ha : At K H ρ a x) (hb : At K H ρ b y) (e : inD a b S = some k) :
    ∃ d ds, Dp K H x d ∧ (Dp K H y (.list ds) ∨ Dp K H y (.tuple ds)) ∧ SeqAt.shaped d = true ∧ PyData.canLayAll0 ds = true ∧ k = ds.any fun z => PyData.eqv z d := by
  unfold inD at e
  split at e
  · split at e
    · rename_i d ds h1 h2
      cases e
      obtain ⟨p1, s1⟩ := dps_of r ha h1
      obtain ⟨p2, s2⟩ := dps_of r hb h2
      exact ⟨d, ds, p1, .inl p2, s1, SeqAt.canLay_of_shaped s2, rfl⟩
    · cases e
  · split at e
    · rename_i d ds h1 h2
      cases e
      obtain ⟨p1, s1⟩ := dps_of r ha h1
      obtain ⟨p2, s2⟩ := dps_of r hb h2
      exact ⟨d, ds, p1, .inr p2, s1, SeqAt.canLay_of_shaped s2, rfl⟩
    · cases e
  · cases e
/-- in a list or a tuple, by data -/
def rInA (K : Frag) (neg : Bool) : R2 := fun x y H Q => ∃ d ds, Dp K H x d ∧ (Dp K H y (.list ds) ∨ Dp K H y (.tuple ds)) ∧ SeqAt.shaped d = true ∧ PyData.canLayAll0 ds = true ∧ Q (.bl (if neg then !ds.any fun z => PyData.eqv z d else ds.any fun z => PyData.eqv z d)) H
theorem op_inA (hu : X.A.units + 65 < cLine) : OpR X (compareOp .In) (rInA X.K false) := by
  intro pins s σ H x y v u Q I rx ry h
  obtain ⟨d, ds, hd, he, sd, se, q⟩ := h
  obtain ⟨as, r1⟩ := Dp.reads I d x v hd rx
  rcases he with he | he
  · obtain ⟨bs, r2⟩ := Dp.reads I (.list ds) y u he ry
    exact SeqAt.in_list_reads r2 r1 se (SeqAt.canLay_of_shaped sd) (room_in_shaped sd hu) ⟨.bl _, H, I, rfl, q⟩
  · obtain ⟨bs, r2⟩ := Dp.reads I (.tuple ds) y u he ry
    exact SeqAt.in_tuple_reads r2 r1 se (SeqAt.canLay_of_shaped sd) (room_in_shaped sd hu) ⟨.bl _, H, I, rfl, q⟩
theorem op_notInA (hu : X.A.units + 65 < cLine) : OpR X (compareOp .NotIn) (rInA X.K true) := by
  intro pins s σ H x y v u Q I rx ry h
  obtain ⟨d, ds, hd, he, sd, se, q⟩ := h
  obtain ⟨as, r1⟩ := Dp.reads I d x v hd rx
  rcases he with he | he
  · obtain ⟨bs, r2⟩ := Dp.reads I (.list ds) y u he ry
    exact SeqAt.notIn_list_reads r2 r1 se (SeqAt.canLay_of_shaped sd) (room_in_shaped sd hu) ⟨.bl _, H, I, rfl, q⟩
  · obtain ⟨bs, r2⟩ := Dp.reads I (.tuple ds) y u he ry
    exact SeqAt.notIn_tuple_reads r2 r1 se (SeqAt.canLay_of_shaped sd) (room_in_shaped sd hu) ⟨.bl _, H, I, rfl, q⟩
theorem cop_in (hK : P.K = X.K) (hu : X.A.units + 65 < cLine) : OpR X (compareOp .In) (rCmp P .in_) := by
  refine OpR.imp (op_inA hu) fun x y H Q ⟨ρ, a, b, S, k, r, ha, hb, e, h⟩ => ?_
  have e : inD a b S = some k := e
  obtain ⟨d, ds, p1, p2, s1, s2, rfl⟩ := inD_inv r ha hb e
  exact ⟨d, ds, hK ▸ p1, hK ▸ p2, s1, s2, h⟩
theorem cop_nin (hK : P.K = X.K) (hu : X.A.units + 65 < cLine) : OpR X (compareOp .NotIn) (rCmp P .nin) := by
  refine OpR.imp (op_notInA hu) fun x y H Q ⟨ρ, a, b, S, k, r, ha, hb, e, h⟩ => ?_
  have e : (inD a b S).map (!·) = some k := e
  cases e1 : inD a b S with
  | none => rw [e1] at e; cases e
  | some k' =>
    rw [e1] at e; cases e
    obtain ⟨d, ds, p1, p2, s1, s2, rfl⟩ := inD_inv r ha hb e1
    exact ⟨d, ds, hK ▸ p1, hK ▸ p2, s1, s2, h⟩
theorem isNon_iff {K : Frag} {H : Hp} {ρ : List Addr} {a : D} {x : V} (h : At K H ρ a x) : decide (x = .non) = isNon a := by
  cases a
  · cases h.non_inv; rfl
  · cases h.bl_inv; rfl
  · cases h.int_inv; rfl
  · cases h.str_inv; rfl
  · obtain ⟨_, _, rfl, _⟩ := h.tup_inv; rfl
  · obtain ⟨_, _, rfl, _⟩ := h.fz_inv; rfl
  · obtain ⟨_, rfl, _⟩ := h.ref_inv; rfl
  · obtain ⟨_, rfl, _⟩ := h.dct_inv; rfl
theorem cop_is : OpR X (compareOp .Is) (rCmp P .is_) := by
  refine OpR.imp op_isN fun x y H Q ⟨ρ, a, b, S, k, r, ha, hb, e, h⟩ => ?_
  cases b <;> simp only [cmpD] at e <;> try cases e
  cases hb.non_inv
  exact ⟨rfl, by rw [isNon_iff ha]; exact h⟩
theorem cop_isn : OpR X (compareOp .IsNot) (rCmp P .isn) := by
  refine OpR.imp op_notN fun x y H Q ⟨ρ, a, b, S, k, r, ha, hb, e, h⟩ => ?_
  cases b <;> simp only [cmpD] at e <;> try cases e
  cases hb.non_inv
  exact ⟨rfl, by rw [isNon_iff ha]; exact h⟩
theorem cop_lt : OpR X (compareOp .Lt) (rCmp P .lt) := by
  refine OpR.imp op_lt fun x y H Q ⟨ρ, a, b, S, k, r, ha, hb, e, h⟩ => ?_
  cases a <;> cases b <;> simp only [cmpD] at e <;> try cases e
  cases ha.int_inv; cases hb.int_inv; exact ⟨_, _, rfl, rfl, h⟩
theorem cop_le : OpR X (compareOp .LtE) (rCmp P .le) := by
  refine OpR.imp op_le fun x y H Q ⟨ρ, a, b, S, k, r, ha, hb, e, h⟩ => ?_
  cases a <;> cases b <;> simp only [cmpD] at e <;> try cases e
  cases ha.int_inv; cases hb.int_inv; exact ⟨_, _, rfl, rfl, h⟩
theorem cop_gt : OpR X (compareOp .Gt) (rCmp P .gt) := by
  refine OpR.imp op_gt fun x y H Q ⟨ρ, a, b, S, k, r, ha, hb, e, h⟩ => ?_
  cases a <;> cases b <;> simp only [cmpD] at e <;> try cases e
  cases ha.int_inv; cases hb.int_inv; exact ⟨_, _, rfl, rfl, h⟩
theorem cop_ge : OpR X (compareOp .GtE) (rCmp P .ge) := by
  refine OpR.imp op_ge fun x y H Q ⟨ρ, a, b, S, k, r, ha, hb, e, h⟩ => ?_
  cases a <;> cases b <;> simp only [cmpD] at e <;> try cases e
  cases ha.int_inv; cases hb.int_inv; exact ⟨_, _, rfl, rfl, h⟩
def Cop.py : Cop → CmpOp
  | .eq => .Eq | .ne => .NotEq | .lt => .Lt | .le => .LtE | .gt => .Gt | .ge => .GtE | .in_ => .In | .nin => .NotIn | .is_ => .Is | .isn => .IsNot
theorem cop_all (hK : P.K = X.K) (hu : X.A.units + 65 < cLine) : ∀ o : Cop, OpR X (compareOp o.py) (rCmp P o)
  | .eq => cop_eq hK hu | .ne => cop_ne hK hu | .lt => cop_lt | .le => cop_le | .gt => cop_gt | .ge => cop_ge
  | .in_ => cop_in hK hu | .nin => cop_nin hK hu | .is_ => cop_is | .isn => cop_isn

variable {a b c : Expr} {pos : Pos} {m1 m2 m3 : En → Store → R D}
abbrev mCmp (o : Cop) (m1 m2 : En → Store → R D) : En → Store → R D := fun env S => (m1 env S).bind fun x S1 => (m2 env S1).bind fun y S2 => cmpR o x y S2
theorem d_cmp (hK : P.K = X.K) (hu : X.A.units + 65 < cLine) (o : Cop) (ha : PE X a (rdE P m1)) (hb : PE X b (rdE P m2)) (hm : behindInMarks o.py b = false) : PE X (.Compare a [o.py] [b] pos) (rdE P (mCmp o m1 m2)) :=
  pe_cmpb (OpR.imp (cop_all hK hu o) fun _ _ _ _ h => rCmp_of h) (noex_cmpR o) ha hb hm
theorem post_test {σ : L2.St} {H : Hp} {ρ : List Addr} {r : R D} {Q : Bool → Hp → Prop} (hb : ∀ d S', r = .ok d S' → ∃ k, d = .bl k) (h : Post P σ H ρ relB (r.bind truthR) Q) :
    Post P σ H ρ (relV P) r fun x H' => ∃ k, x = .bl k ∧ Q k H' := by
  cases r with
  | ok d S' =>
    obtain ⟨k, rfl⟩ := hb d S' rfl
    exact fun ρ' v H' st q a => ⟨k, At.bl_inv a, h ρ' k H' st q rfl⟩
  | ex c as S' => exact h
  | bad => exact h
theorem bind_ok {α β : Type} {r : R α} {f : α → Store → R β} {d : β} {S' : Store} (h : r.bind f = .ok d S') : ∃ a S1, r = .ok a S1 ∧ f a S1 = .ok d S' := by
  cases r with
  | ok a S1 => exact ⟨a, S1, rfl, h⟩
  | ex _ _ _ => cases h
  | bad => cases h
theorem cmpR_bl {o : Cop} {x y d : D} {S S' : Store} (h : cmpR o x y S = .ok d S') : ∃ k, d = .bl k := by
  unfold cmpR at h
  split at h
  · cases h; exact ⟨_, rfl⟩
  · cases h
theorem mCmp_bl {o : Cop} {env : En} {S S' : Store} {d : D} (h : mCmp o m1 m2 env S = .ok d S') : ∃ k, d = .bl k := by
  obtain ⟨x, S1, _, h⟩ := bind_ok h
  obtain ⟨y, S2, _, h⟩ := bind_ok h
  exact cmpR_bl h
theorem d_cmpT (hK : P.K = X.K) (hu : X.A.units + 65 < cLine) (o : Cop) (ha : PE X a (rdE P m1)) (hb : PE X b (rdE P m2)) (hm : behindInMarks o.py b = false) : PT X (.Compare a [o.py] [b] pos) (rdT P fun env S => (mCmp o m1 m2 env S).bind truthR) := by
  refine PT.imp (pt_cmpR (cop_all hK hu o) ha hb hm) fun σ H Q ⟨ρ, env, S, r, h⟩ => ?_
  have h := post_test (fun d S' e => mCmp_bl e) h
  refine ⟨ρ, env, S, r, h.bind fun x S1 ρ1 v H1 _ st1 q1 a1 h1 => ?_⟩
  refine ⟨ρ1, env, S1, r.at st1 q1, h1.bind fun y S2 ρ2 u H2 _ st2 q2 a2 h2 => ?_⟩
  exact rCmp_of ⟨ρ2, x, y, S2, q2, a1.mono st2, a2, h2.noex (noex_cmpR o x y S2)⟩
abbrev mCmp2 (o p : Cop) (m1 m2 m3 : En → Store → R D) : En → Store → R D := fun env S => (m1 env S).bind fun x S1 => (m2 env S1).bind fun y S2 => match cmpD o x y S2 with
    | some true => (m3 env S2).bind fun z S3 => cmpR p y z S3
    | some false => .ok (.bl false) S2
    | none => .bad
theorem chain_imp {o p : Cop} {σ : L2.St} {H : Hp} {Q : VK} (h : rdE P (mCmp2 o p m1 m2 m3) σ H Q) : tChain (rCmp P o) (rCmp P p) (rdE P m1) (rdE P m2) (rdE P m3) σ H Q := by
  obtain ⟨ρ, env, S, r, h⟩ := h
  refine ⟨ρ, env, S, r, h.bind fun x S1 ρ1 v H1 _ st1 q1 a1 h1 => ?_⟩
  refine ⟨ρ1, env, S1, r.at st1 q1, h1.bind fun y S2 ρ2 u H2 _ st2 q2 a2 h2 => ?_⟩
  cases e : cmpD o x y S2 with
  | none => rw [e] at h2; exact False.elim h2
  | some k =>
    rw [e] at h2
    refine ⟨ρ2, x, y, S2, k, q2, a1.mono st2, a2, e, k, rfl, ?_⟩
    cases k with
    | false => exact h2.done q2 .mk_bl
    | true =>
      refine ⟨ρ2, env, S2, (r.at st1 q1).at st2 q2, Post.bind (f := fun z S3 => cmpR p y z S3) h2 fun z S3 ρ3 w H3 _ st3 q3 a3 h3 => ?_⟩
      exact rCmp_of ⟨ρ3, y, z, S3, q3, a2.mono st3, a3, h3.noex (noex_cmpR p y z S3)⟩
theorem mCmp2_bl {o p : Cop} {env : En} {S S' : Store} {d : D} (h : mCmp2 o p m1 m2 m3 env S = .ok d S') : ∃ k, d = .bl k := by
  obtain ⟨x, S1, _, h⟩ := bind_ok h
  obtain ⟨y, S2, _, h⟩ := bind_ok h
  split at h
  · obtain ⟨z, S3, _, h⟩ := bind_ok h
    exact cmpR_bl h
  · cases h; exact ⟨_, rfl⟩
  · cases h
theorem d_chain (hK : P.K = X.K) (hu : X.A.units + 65 < cLine) (o p : Cop) (ha : PE X a (rdE P m1)) (hb : PE X b (rdE P m2)) (hc : PE X c (rdE P m3))
    (hm : behindInMarks p.py c = false) : PE X (.Compare a [o.py, p.py] [b, c] pos) (rdE P (mCmp2 o p m1 m2 m3)) :=
  PE.imp (pe_chain (cop_all hK hu o) (cop_all hK hu p) ha hb hc hm) fun σ H Q h => chain_imp h
theorem d_chainT (hK : P.K = X.K) (hu : X.A.units + 65 < cLine) (o p : Cop) (ha : PE X a (rdE P m1)) (hb : PE X b (rdE P m2)) (hc : PE X c (rdE P m3))
    (hm : behindInMarks p.py c = false) : PT X (.Compare a [o.py, p.py] [b, c] pos) (rdT P fun env S => (mCmp2 o p m1 m2 m3 env S).bind truthR) := by
  refine PT.imp (pt_chain (cop_all hK hu o) (cop_all hK hu p) ha hb hc hm) fun σ H Q ⟨ρ, env, S, r, h⟩ => ?_
  exact chain_imp ⟨ρ, env, S, r, post_test (fun d S' e => mCmp2_bl e) h⟩
end
end DL

end
section
set_option maxHeartbeats 4000000
/-! # DL, soundness 4: names, displays, truth, built-in calls, places -/
namespace DL
open PySem PySem.Spec PyProof.Rows L2
section
variable {X : Cx} {P : Pm} {a b c e : Expr} {es : List Expr} {pos p : Pos} {m m1 m2 m3 : En → Store → R D} {ma : En → Store → R (List D)}
/-! ### names, constants -/
theorem d_var {i : Nat} {x : Str} (hN : X.N[i]? = some x) (hv : Vis X.env.scope x) (hd : (x == ("__debug__" : Str)) = false) (hcd : (x == ("__classdict__" : Str)) = false) : PE X (.Name x pos) (rdE P fun env S => match env[i]? with
    | some (some d) => .ok d S
    | _ => .bad) := by
  refine PE.imp (pe_var (i := i) hN hv hd hcd) fun σ H Q ⟨ρ, env, S, r, h⟩ => ?_
  dsimp only at h
  cases ei : env[i]? with
  | none => rw [ei] at h; exact False.elim h
  | some o =>
    cases o with
    | none => rw [ei] at h; exact False.elim h
    | some d =>
      rw [ei] at h
      obtain ⟨v, ev, av⟩ := r.env.2 i d ei
      exact ⟨v, ev, Post.done (rel := relV P) h r.rep av⟩
theorem d_const {d : D} {v : V} (he : PE X e (tC v)) (ha : ∀ H ρ, At P.K H ρ d v) : PE X e (rdE P fun _ S => .ok d S) :=
  PE.imp he fun σ H Q ⟨ρ, env, S, r, h⟩ => Post.done (rel := relV P) h r.rep (ha H ρ)
theorem d_int {i : Int} {j} : PE X (.Constant (.int i) j pos) (rdE P fun _ S => .ok (.int i) S) := d_const pe_int fun _ _ => .mk_int
theorem d_bl {i : Bool} {j} : PE X (.Constant (.bool i) j pos) (rdE P fun _ S => .ok (.bl i) S) := d_const pe_bl fun _ _ => .mk_bl
theorem d_str {i : Str} {j} : PE X (.Constant (.str i) j pos) (rdE P fun _ S => .ok (.str i) S) := d_const pe_str fun _ _ => .mk_str
theorem d_non {j} : PE X (.Constant .none j pos) (rdE P fun _ S => .ok .non S) := d_const pe_non fun _ _ => .mk_non
/-! ### argument lists -/
theorem d_nil : PA X [] (rdA P fun _ S => .ok [] S) := PA.imp pa_nil fun σ H Q ⟨ρ, env, S, r, h⟩ => Post.done (rel := relL P) h r.rep .nil
theorem d_cons (ha : PE X e (rdE P m)) (hr : PA X es (rdA P ma)) (hs : starEach (e :: es) X.env = (false, eval e X.env) :: starEach es X.env) : PA X (e :: es) (rdA P fun env S => (m env S).bind fun x S1 => (ma env S1).bind fun xs S2 => .ok (x :: xs) S2) := by
  refine PA.imp (pa_cons ha hr hs) fun σ H Q ⟨ρ, env, S, r, h⟩ => ?_
  refine ⟨ρ, env, S, r, h.bind fun x S1 ρ1 v H1 _ st1 q1 a1 h1 => ?_⟩
  refine ⟨ρ1, env, S1, r.at st1 q1, h1.bind fun y S2 ρ2 u H2 _ st2 q2 a2 h2 => ?_⟩
  exact h2.done q2 (.cons (a1.mono st2) a2)
/-! ### displays -/
theorem d_tup {k} (h : PA X es (rdA P ma)) : PE X (.Tuple es k pos) (rdE P fun env S => (ma env S).bind newT) := by
  refine PE.imp (pe_tup h) fun σ H Q ⟨ρ, env, S, r, h⟩ => ?_
  refine ⟨ρ, env, S, r, h.bind fun x S1 ρ1 v H1 _ st1 q1 a1 h1 => ?_⟩
  unfold newT at h1
  split at h1
  · rename_i hl
    exact ⟨by rw [← a1.length]; exact hl, fun p hp => post_newT q1 a1 hp h1⟩
  · exact False.elim h1
theorem d_lst (h : PA X es (rdA P ma)) : PE X (.List es pos) (rdE P fun env S => (ma env S).bind newL) := by
  refine PE.imp (pe_lst h) fun σ H Q ⟨ρ, env, S, r, h⟩ => ?_
  refine ⟨ρ, env, S, r, h.bind fun x S1 ρ1 v H1 _ st1 q1 a1 h1 => ?_⟩
  unfold newL at h1
  split at h1
  · rename_i hl
    exact ⟨by rw [← a1.length]; exact hl, fun p hp => post_newL q1 a1 hp h1⟩
  · exact False.elim h1
/-! ### truth -/
theorem truV_of {K : Frag} {H : Hp} {ρ : List Addr} {S : Store} {d : D} {v : V} {k : Bool} (r : Rep K H ρ S) (h : At K H ρ d v) (e : truth S d = some k) : TruV K v H k := by
  have em : ∀ {l : List D} {xs : List V}, AtL K H ρ l xs → (!l.isEmpty) = !xs.isEmpty := fun {l xs} a => by
    have := a.length
    cases l <;> cases xs <;> first | rfl | simp at this
  cases d
  · cases h.non_inv; cases e; rfl
  · cases h.bl_inv; cases e; rfl
  · cases h.int_inv; cases e; rfl
  · rename_i x
    cases h.str_inv
    have e : (if x.length ≤ PySem.sizeLine then some (x.length != 0) else none) = some k := e
    split at e
    · rename_i hl
      cases e
      refine ⟨hl, ?_⟩
      cases hx : x.length with
      | zero => rfl
      | succ n =>
        have h1 : (n + 1 != 0) = true := by simp
        have h2 : (((n + 1 : Nat) : Int) != 0) = true := by simp; omega
        rw [h1, h2]
    · cases e
  · obtain ⟨a, xs, rfl, s, q⟩ := h.tup_inv
    cases e
    exact .inr (.inl ⟨xs, s, em q⟩)
  · obtain ⟨a, xs, rfl, s, q⟩ := h.fz_inv
    cases e
    exact .inl ⟨xs, s.l, em q⟩
  · rename_i n
    obtain ⟨a, rfl, ea⟩ := h.ref_inv
    have e : S[n]?.map (fun l => !l.isEmpty) = some k := e
    cases en : S[n]? with
    | none => rw [en] at e; cases e
    | some l =>
      rw [en] at e; cases e
      obtain ⟨b, xs, eb, hb, q⟩ := r.get en
      rw [ea] at eb; cases eb
      exact .inl ⟨xs, .of hb, em q⟩
  · cases e
theorem noex_truthR (x : D) (S : Store) : NoEx (truthR x S) := by
  intro c as S' h; unfold truthR at h; split at h <;> cases h
/-- behind a truth -/
theorem post_truth {σ : L2.St} {H : Hp} {ρ : List Addr} {S : Store} {d : D} {v : V} {γ δ : Type} {rel : Hp → List Addr → γ → δ → Prop} {f : Bool → Store → R γ} {Q : δ → Hp → Prop} (r : Rep P.K H ρ S) (a : At P.K H ρ d v) (h : Post P σ H ρ rel ((truthR d S).bind f) Q) :
    ∃ k, TruV P.K v H k ∧ Post P σ H ρ rel (f k S) Q := by
  unfold truthR at h
  cases e : truth S d with
  | none => rw [e] at h; exact False.elim h
  | some k =>
    rw [e] at h
    exact ⟨k, truV_of r a e, h⟩
theorem d_nt (hK : P.K = X.K) (ha : PE X a (rdE P m)) : PE X (.UnaryOp .Not a pos) (rdE P fun env S => (m env S).bind fun x S1 => (truthR x S1).bind fun b S2 => .ok (.bl !b) S2) := by
  refine PE.imp (pe_notT ha) fun σ H Q ⟨ρ, env, S, r, h⟩ => ?_
  refine ⟨ρ, env, S, r, h.bind fun x S1 ρ1 v H1 _ st1 q1 a1 h1 => ?_⟩
  obtain ⟨k, t, h2⟩ := post_truth q1 a1 h1
  exact ⟨k, hK ▸ t, h2.done q1 .mk_bl⟩
abbrev mAnd (m1 m2 : En → Store → R D) : En → Store → R D := fun env S => (m1 env S).bind fun x S1 => (truthR x S1).bind fun k S2 => if k then m2 env S2 else .ok x S2
abbrev mOr (m1 m2 : En → Store → R D) : En → Store → R D := fun env S => (m1 env S).bind fun x S1 => (truthR x S1).bind fun k S2 => if k then .ok x S2 else m2 env S2
theorem d_and (hK : P.K = X.K) (ha : PE X a (rdE P m1)) (hb : PE X (.BoolOp .And (b :: es) pos) (rdE P m2)) : PE X (.BoolOp .And (a :: b :: es) pos) (rdE P (mAnd m1 m2)) := by
  refine PE.imp (pe_andT ha hb) fun σ H Q ⟨ρ, env, S, r, h⟩ => ?_
  refine ⟨ρ, env, S, r, h.bind fun x S1 ρ1 v H1 _ st1 q1 a1 h1 => ?_⟩
  obtain ⟨k, t, h2⟩ := post_truth q1 a1 h1
  refine ⟨k, hK ▸ t, ?_⟩
  cases k with
  | true => exact ⟨ρ1, env, S1, r.at st1 q1, h2⟩
  | false => exact h2.done q1 a1
theorem d_or (hK : P.K = X.K) (ha : PE X a (rdE P m1)) (hb : PE X (.BoolOp .Or (b :: es) pos) (rdE P m2)) : PE X (.BoolOp .Or (a :: b :: es) pos) (rdE P (mOr m1 m2)) := by
  refine PE.imp (pe_orT ha hb) fun σ H Q ⟨ρ, env, S, r, h⟩ => ?_
  refine ⟨ρ, env, S, r, h.bind fun x S1 ρ1 v H1 _ st1 q1 a1 h1 => ?_⟩
  obtain ⟨k, t, h2⟩ := post_truth q1 a1 h1
  refine ⟨k, hK ▸ t, ?_⟩
  cases k with
  | true => exact h2.done q1 a1
  | false => exact ⟨ρ1, env, S1, r.at st1 q1, h2⟩
abbrev mT (m : En → Store → R D) : En → Store → R Bool := fun env S => (m env S).bind truthR
theorem mT_bind {m : En → Store → R D} {f : D → Store → R D} {env : En} {S : Store} : mT (fun env S => (m env S).bind f) env S = (m env S).bind fun x S1 => (f x S1).bind truthR := by
  show ((m env S).bind f).bind truthR = _
  cases m env S <;> rfl
/-- a test of plain make -/
theorem d_truth (hK : P.K = X.K) (ha : PE X a (rdE P m)) (he : ∀ whole, isTrue a X.env whole = (do let v ← whole; standAt a.pos; holding [v] (truthy v))) : PT X a (rdT P (mT m)) := by
  refine PT.imp (pt_truth ha he) fun σ H Q ⟨ρ, env, S, r, h⟩ => ?_
  refine ⟨ρ, env, S, r, Post.bind (f := truthR) h fun x S1 ρ1 v H1 _ st1 q1 a1 h1 => ?_⟩
  have h1 : Post P σ H1 ρ1 relB ((truthR x S1).bind fun k S2 => .ok k S2) Q := by
    have e : (truthR x S1).bind (fun k S2 => R.ok k S2) = truthR x S1 := by cases truthR x S1 <;> rfl
    rw [e]; exact h1
  obtain ⟨k, t, h2⟩ := post_truth q1 a1 h1
  exact ⟨k, hK ▸ t, h2.done q1 rfl⟩
theorem d_ntT (ha : PT X a (rdT P (mT m))) : PT X (.UnaryOp .Not a pos) (rdT P (mT fun env S => (m env S).bind fun x S1 => (truthR x S1).bind fun b S2 => .ok (.bl !b) S2)) := by
  refine PT.imp (pt_not ha) fun σ H Q ⟨ρ, env, S, r, h⟩ => ?_
  refine ⟨ρ, env, S, r, ?_⟩
  have e : mT (fun env S => (m env S).bind fun x S1 => (truthR x S1).bind fun b S2 => .ok (.bl !b) S2) env S = (mT m env S).bind fun k S2 => .ok (!k) S2 := by
    show ((m env S).bind fun x S1 => (truthR x S1).bind fun b S2 => .ok (.bl !b) S2).bind truthR = ((m env S).bind truthR).bind fun k S2 => .ok (!k) S2
    cases m env S with
    | ok x S1 =>
      show ((truthR x S1).bind fun b S2 => .ok (.bl !b) S2).bind truthR = (truthR x S1).bind fun k S2 => .ok (!k) S2
      cases truthR x S1 <;> rfl
    | ex _ _ _ => rfl
    | bad => rfl
  have h : Post P σ H ρ relB ((mT m env S).bind fun k S2 => .ok (!k) S2) Q := by rw [← e]; exact h
  refine h.bind fun k S1 ρ1 k' H1 _ st1 q1 a1 h1 => ?_
  have a1 : k = k' := a1
  subst a1
  exact h1.done q1 rfl
theorem d_andT (ha : PT X a (rdT P (mT m1))) (hb : PW X (.BoolOp .And (b :: es) pos) (rdT P (mT m2))) : PW X (.BoolOp .And (a :: b :: es) pos) (rdT P (mT (mAnd m1 m2))) := by
  refine ⟨fun whole pins s σ H Q I ⟨ρ, env, S, r, h⟩ => (pw_and ha hb).run whole pins s σ H Q I ?_⟩
  refine ⟨ρ, env, S, r, ?_⟩
  have e : mT (mAnd m1 m2) env S = (mT m1 env S).bind fun k S2 => if k then mT m2 env S2 else .ok false S2 := by
    show ((m1 env S).bind fun x S1 => (truthR x S1).bind fun k S2 => if k then m2 env S2 else .ok x S2).bind truthR = ((m1 env S).bind truthR).bind _
    cases m1 env S with
    | ok x S1 =>
      show ((truthR x S1).bind fun k S2 => if k then m2 env S2 else .ok x S2).bind truthR = (truthR x S1).bind _
      have q : truthR x S1 = match truth S1 x with | some b => .ok b S1 | none => .bad := rfl
      cases et : truth S1 x with
      | none => rw [q, et]; rfl
      | some k =>
        rw [q, et]
        cases k with
        | true => rfl
        | false =>
          show truthR x S1 = .ok false S1
          rw [q, et]
    | ex _ _ _ => rfl
    | bad => rfl
  have h : Post P σ H ρ relB ((mT m1 env S).bind fun k S2 => if k then mT m2 env S2 else .ok false S2) Q := by rw [← e]; exact h
  refine h.bind fun k S1 ρ1 k' H1 _ st1 q1 a1 h1 => ?_
  have a1 : k = k' := a1
  subst a1
  cases k with
  | true => exact ⟨ρ1, env, S1, r.at st1 q1, h1⟩
  | false => exact h1.done q1 rfl
theorem d_orT (ha : PT X a (rdT P (mT m1))) (hb : PW X (.BoolOp .Or (b :: es) pos) (rdT P (mT m2))) : PW X (.BoolOp .Or (a :: b :: es) pos) (rdT P (mT (mOr m1 m2))) := by
  refine ⟨fun whole pins s σ H Q I ⟨ρ, env, S, r, h⟩ => (pw_or ha hb).run whole pins s σ H Q I ?_⟩
  refine ⟨ρ, env, S, r, ?_⟩
  have e : mT (mOr m1 m2) env S = (mT m1 env S).bind fun k S2 => if k then .ok true S2 else mT m2 env S2 := by
    show ((m1 env S).bind fun x S1 => (truthR x S1).bind fun k S2 => if k then .ok x S2 else m2 env S2).bind truthR = ((m1 env S).bind truthR).bind _
    cases m1 env S with
    | ok x S1 =>
      show ((truthR x S1).bind fun k S2 => if k then .ok x S2 else m2 env S2).bind truthR = (truthR x S1).bind _
      have q : truthR x S1 = match truth S1 x with | some b => .ok b S1 | none => .bad := rfl
      cases et : truth S1 x with
      | none => rw [q, et]; rfl
      | some k =>
        rw [q, et]
        cases k with
        | false => rfl
        | true =>
          show truthR x S1 = .ok true S1
          rw [q, et]
    | ex _ _ _ => rfl
    | bad => rfl
  have h : Post P σ H ρ relB ((mT m1 env S).bind fun k S2 => if k then .ok true S2 else mT m2 env S2) Q := by rw [← e]; exact h
  refine h.bind fun k S1 ρ1 k' H1 _ st1 q1 a1 h1 => ?_
  have a1 : k = k' := a1
  subst a1
  cases k with
  | true => exact h1.done q1 rfl
  | false => exact ⟨ρ1, env, S1, r.at st1 q1, h1⟩
theorem d_pw1 {op : BoolOp} (ha : PT X a (rdT P (mT m))) : PW X (.BoolOp op [a] pos) (rdT P (mT m)) := by
  cases op with
  | And => exact ⟨fun whole pins s σ H Q I h => (pw_and1 ha).run whole pins s σ H Q I h⟩
  | Or => exact ⟨fun whole pins s σ H Q I h => (pw_or1 ha).run whole pins s σ H Q I h⟩
theorem d_ife (ht : PT X c (rdT P (mT m3))) (ha : PE X a (rdE P m1)) (hb : PE X b (rdE P m2)) : PE X (.IfExp c a b pos) (rdE P fun env S => (m3 env S).bind fun x S1 => (truthR x S1).bind fun k S2 => if k then m1 env S2 else m2 env S2) := by
  refine PE.imp (pe_ifExp ht ha hb) fun σ H Q ⟨ρ, env, S, r, h⟩ => ?_
  refine ⟨ρ, env, S, r, ?_⟩
  have e : ((m3 env S).bind fun x S1 => (truthR x S1).bind fun k S2 => if k then m1 env S2 else m2 env S2) = (mT m3 env S).bind fun k S2 => if k then m1 env S2 else m2 env S2 := by
    show _ = ((m3 env S).bind truthR).bind _
    cases m3 env S <;> rfl
  have h : Post P σ H ρ (relV P) ((mT m3 env S).bind fun k S2 => if k then m1 env S2 else m2 env S2) Q := by rw [← e]; exact h
  refine h.bind fun k S1 ρ1 k' H1 _ st1 q1 a1 h1 => ?_
  have a1 : k = k' := a1
  subst a1
  cases k with
  | true => exact ⟨ρ1, env, S1, r.at st1 q1, h1⟩
  | false => exact ⟨ρ1, env, S1, r.at st1 q1, h1⟩
theorem d_neg (ha : PE X a (rdE P m)) : PE X (.UnaryOp .USub a pos) (rdE P fun env S => (m env S).bind fun x S1 => match x with
    | .int i => .ok (.int (-i)) S1
    | _ => .bad) := by
  refine PE.imp (pe_un un_neg ha) fun σ H Q ⟨ρ, env, S, r, h⟩ => ?_
  refine ⟨ρ, env, S, r, h.bind fun x S1 ρ1 v H1 _ st1 q1 a1 h1 => ?_⟩
  cases x <;> first | exact False.elim h1 | skip
  cases At.int_inv a1
  exact ⟨_, rfl, h1.done q1 .mk_int⟩
/-! ### built-in calls -/
def rC (P : Pm) (f : List D → Store → R D) : List V → Hp → VK → Prop := fun xs H Q => ∃ ρ ds S, Rep P.K H ρ S ∧ AtL P.K H ρ ds xs ∧ PostN P H ρ (relV P) (f ds S) Q
theorem noex_biD (f : Bi) (xs : List D) (S : Store) : NoEx (biD f xs S) := by
  intro c as S' h
  unfold biD at h
  (repeat' split at h) <;> cases h
theorem AtL.one {K : Frag} {H : Hp} {ρ : List Addr} {d : D} {xs : List V} (h : AtL K H ρ [d] xs) : ∃ v, xs = [v] ∧ At K H ρ d v := by
  obtain ⟨v, r, rfl, a, q⟩ := h.inv
  simp only [AtL] at q; subst q
  exact ⟨v, rfl, a⟩
theorem AtL.two {K : Frag} {H : Hp} {ρ : List Addr} {d e : D} {xs : List V} (h : AtL K H ρ [d, e] xs) : ∃ v u, xs = [v, u] ∧ At K H ρ d v ∧ At K H ρ e u := by
  obtain ⟨v, r, rfl, a, q⟩ := h.inv
  obtain ⟨u, rfl, b⟩ := q.one
  exact ⟨v, u, rfl, a, b⟩
theorem bi_len (hK : P.K = X.K) : CallR X (.builtin "len") (rC P (biD .len)) := by
  refine CallR.imp call_len fun xs H Q ⟨ρ, ds, S, r, ha, h⟩ => ?_
  match ds, ha, h with
  | [d], ha, h =>
    obtain ⟨v, rfl, av⟩ := ha.one
    have h : PostN P H ρ (relV P) (match items S d with | some l => .ok (.int l.length) S | none => .bad) Q := h
    cases e : items S d with
    | none => rw [e] at h; exact False.elim h
    | some l =>
      rw [e] at h
      obtain ⟨a, ys, rfl, s, q⟩ := items_inv r av e
      refine ⟨_, l.length, rfl, ?_, h _ _ _ (.refl H ρ) r .mk_int⟩
      rcases s with s | s
      · exact .inl ⟨ys, hK ▸ s, q.length⟩
      · exact .inr ⟨ys, hK ▸ s, q.length⟩
  | [], _, h => exact False.elim h
  | _ :: _ :: _, _, h => exact False.elim h
theorem bi_tuple (hK : P.K = X.K) : CallR X (.type "tuple") (rC P (biD .tuple)) := by
  refine CallR.imp call_tuple_of fun xs H Q ⟨ρ, ds, S, r, ha, h⟩ => ?_
  match ds, ha, h with
  | [d], ha, h =>
    obtain ⟨v, rfl, av⟩ := ha.one
    have h : PostN P H ρ (relV P) (match items S d with | some l => .ok (.tup l) S | none => .bad) Q := h
    cases e : items S d with
    | none => rw [e] at h; exact False.elim h
    | some l =>
      rw [e] at h
      obtain ⟨a, ys, rfl, s, q⟩ := items_inv r av e
      rcases s with s | s
      · exact ⟨a, ys, rfl, .inl ⟨hK ▸ s, fun t ht => post_newT r q ht h⟩⟩
      · exact ⟨a, ys, rfl, .inr ⟨hK ▸ s, h _ _ _ (.refl H ρ) r (At.mk_tup s q)⟩⟩
  | [], _, h => exact False.elim h
  | _ :: _ :: _, _, h => exact False.elim h
theorem bi_list (hK : P.K = X.K) : CallR X (.type "list") (rC P (biD .list)) := by
  refine CallR.imp call_list_of fun xs H Q ⟨ρ, ds, S, r, ha, h⟩ => ?_
  match ds, ha, h with
  | [d], ha, h =>
    obtain ⟨v, rfl, av⟩ := ha.one
    have h : PostN P H ρ (relV P) (match items S d with | some l => .ok (.ref S.length) (S ++ [l]) | none => .bad) Q := h
    cases e : items S d with
    | none => rw [e] at h; exact False.elim h
    | some l =>
      rw [e] at h
      obtain ⟨a, ys, rfl, s, q⟩ := items_inv r av e
      exact ⟨a, ys, rfl, hK ▸ s, fun t ht => post_newL r q ht h⟩
  | [], _, h => exact False.elim h
  | _ :: _ :: _, _, h => exact False.elim h
theorem bi_abs : CallR X (.builtin "abs") (rC P (biD .abs)) := by
  refine CallR.imp call_abs fun xs H Q ⟨ρ, ds, S, r, ha, h⟩ => ?_
  unfold biD at h
  split at h <;> first | (rename_i q; cases q; done) | exact False.elim h | skip
  obtain ⟨v, rfl, av⟩ := ha.one
  cases av.int_inv
  exact ⟨_, rfl, h _ _ _ (.refl H ρ) r .mk_int⟩
theorem bi_int : CallR X (.type "int") (rC P (biD .int)) := by
  refine CallR.imp call_int1 fun xs H Q ⟨ρ, ds, S, r, ha, h⟩ => ?_
  unfold biD at h
  split at h <;> first | (rename_i q; cases q; done) | exact False.elim h | skip
  · obtain ⟨v, rfl, av⟩ := ha.one
    cases av.int_inv
    exact .inl ⟨_, rfl, h _ _ _ (.refl H ρ) r .mk_int⟩
  · obtain ⟨v, rfl, av⟩ := ha.one
    cases av.bl_inv
    exact .inr ⟨_, rfl, h _ _ _ (.refl H ρ) r .mk_int⟩
theorem bi_bool : CallR X (.type "bool") (rC P (biD .bool)) := by
  refine CallR.imp call_bool1 fun xs H Q ⟨ρ, ds, S, r, ha, h⟩ => ?_
  unfold biD at h
  split at h <;> first | (rename_i q; cases q; done) | exact False.elim h | skip
  · obtain ⟨v, rfl, av⟩ := ha.one
    cases av.int_inv
    exact .inl ⟨_, rfl, h _ _ _ (.refl H ρ) r .mk_bl⟩
  · obtain ⟨v, rfl, av⟩ := ha.one
    cases av.bl_inv
    exact .inr ⟨_, rfl, h _ _ _ (.refl H ρ) r .mk_bl⟩
theorem bi_max (hc : X.calm = true) : CallR X (.builtin "max") (rC P (biD .max)) := by
  refine CallR.imp (call_max2 hc) fun xs H Q ⟨ρ, ds, S, r, ha, h⟩ => ?_
  unfold biD at h
  split at h <;> first | (rename_i q; cases q; done) | exact False.elim h | skip
  obtain ⟨v, u, rfl, av, au⟩ := ha.two
  cases av.int_inv; cases au.int_inv
  exact ⟨_, _, rfl, h _ _ _ (.refl H ρ) r .mk_int⟩
theorem bi_min (hc : X.calm = true) : CallR X (.builtin "min") (rC P (biD .min)) := by
  refine CallR.imp (call_min2 hc) fun xs H Q ⟨ρ, ds, S, r, ha, h⟩ => ?_
  unfold biD at h
  split at h <;> first | (rename_i q; cases q; done) | exact False.elim h | skip
  obtain ⟨v, u, rfl, av, au⟩ := ha.two
  cases av.int_inv; cases au.int_inv
  exact ⟨_, _, rfl, h _ _ _ (.refl H ρ) r .mk_int⟩
theorem bi_gcd : CallR X (.builtin "math.gcd") (rC P (biD .gcd)) := by
  refine CallR.imp cr_gcd fun xs H Q ⟨ρ, ds, S, r, ha, h⟩ => ?_
  unfold biD at h
  split at h <;> first | (rename_i q; cases q; done) | exact False.elim h | skip
  obtain ⟨v, u, rfl, av, au⟩ := ha.two
  cases av.int_inv; cases au.int_inv
  exact ⟨_, _, rfl, h _ _ _ (.refl H ρ) r .mk_int⟩
theorem bi_divmod : CallR X (.builtin "divmod") (rC P (biD .divmod)) := by
  refine CallR.imp call_divmodW fun xs H Q ⟨ρ, ds, S, r, ha, h⟩ => ?_
  unfold biD at h
  split at h <;> first | (rename_i q; cases q; done) | exact False.elim h | skip
  obtain ⟨v, u, rfl, av, au⟩ := ha.two
  cases av.int_inv; cases au.int_inv
  split at h
  · rename_i h0
    split at h
    · rename_i h1
      exact ⟨_, _, rfl, ⟨h0, by simpa [divOk] using h1⟩, fun t ht => post_newT r (.cons .mk_int (.cons .mk_int .nil)) ht h⟩
    · exact False.elim h
  · exact False.elim h
theorem tCB_imp {f : List D → Store → R D} (nx : ∀ ds S, NoEx (f ds S)) {σ : L2.St} {H : Hp} {Q : VK} (h : rdE P (fun env S => (ma env S).bind f) σ H Q) : tCB (rC P f) (rdA P ma) σ H Q := by
  obtain ⟨ρ, env, S, r, h⟩ := h
  refine ⟨ρ, env, S, r, Post.bind (f := f) h fun x S1 ρ1 v H1 _ st1 q1 a1 h1 => ?_⟩
  exact ⟨ρ1, x, S1, q1, a1, h1.noex (nx x S1)⟩
end
end DL

end
section
set_option maxHeartbeats 4000000
/-! # DL: t[::-1] of a tuple -/
namespace HT
open PySem PySem.Spec PyProof.Rows L2
section
variable {prog : Program} {w : World} {A : Around} {E : Value → Shared → Prop} {s : Shared}
theorem rev_places (n : Nat) : Builtin.Slice.slicePlaces ((n : Int) - 1) (-1) (-1) = n := by
  unfold Builtin.Slice.slicePlaces
  have h1 : ¬ (-1 : Int) > 0 := by decide
  rw [if_neg h1]
  by_cases h : (n : Int) - 1 > -1
  · rw [if_pos h]
    have e : ((n : Int) - 1 - -1 - 1) / (- -1) = (n : Int) - 1 := by
      have : (- -1 : Int) = 1 := by decide
      rw [this, Int.ediv_one]; omega
    rw [e]; omega
  · rw [if_neg h]
    have : n = 0 := by omega
    subst this; rfl
theorem filterMap_cg {α β : Type} {f g : α → Option β} : ∀ {l : List α}, (∀ a ∈ l, f a = g a) → l.filterMap f = l.filterMap g
  | [], _ => rfl
  | a :: l, h => by
    rw [List.filterMap_cons, List.filterMap_cons, h a List.mem_cons_self, filterMap_cg fun b hb => h b (List.mem_cons_of_mem _ hb)]
theorem rev_pick (xs : Array Value) : ((List.range xs.size).filterMap fun (k : Nat) => xs[(((xs.size : Int) - 1) + (k : Int) * (-1)).toNat]?).toArray = xs.toList.reverse.toArray := by
  congr 1
  have e2 : (List.range xs.size).filterMap (fun (k : Nat) => xs[(((xs.size : Int) - 1) + (k : Int) * (-1)).toNat]?) = ((List.range xs.size).map fun k => xs.size - 1 - k).filterMap (fun j => xs[j]?) := by
    rw [List.filterMap_map]
    refine filterMap_cg fun k hk => ?_
    have : k < xs.size := List.mem_range.mp hk
    have e3 : (((xs.size : Int) - 1) + (k : Int) * (-1)).toNat = xs.size - 1 - k := by omega
    show xs[(((xs.size : Int) - 1) + (k : Int) * (-1)).toNat]? = xs[xs.size - 1 - k]?
    rw [e3]
  rw [e2, PySem.W.krv_range, List.filterMap_reverse, PySem.W.krv_all]
theorem sliceApplied_rev {sl : Addr} {vl vu vs : Value} {n : Nat} {Q : Int × Int × Nat → Shared → Prop} (hs : s.heap.IsSliceOf sl vl vu vs) (pl : IsPart vl none) (pu : IsPart vu none) (ps : IsPart vs (some (-1)))
    (h : Q ((n : Int) - 1, -1, n) s) : wpAny (model prog w) A (Builtin.Slice.sliceApplied (.ref sl) (pure (n : Int))) Q E s := by
  obtain ⟨os, hos, hcs, hds⟩ := id hs
  unfold Builtin.Slice.sliceApplied Builtin.Slice.sliceFields
  refine wpAny_bind (wpAny_bind (wpAny_field hos hds (x := vl) rfl (wpAny_bind (wpAny_field hos hds (x := vu) rfl (wpAny_bind (wpAny_field hos hds (x := vs) rfl (wpAny_pure ?_)))))))
  refine wpAny_bind (slicePart_ ps ?_)
  show wpAny _ _ (if ((-1 : Int) == 0) = true then _ else _) _ _ s
  rw [if_neg (by decide)]
  refine wpAny_bind (slicePart_ pl (wpAny_bind (slicePart_ pu (wpAny_bind (wpAny_pure ?_)))))
  show wpAny _ _ (pure ((n : Int) - 1, (-1 : Int), Builtin.Slice.slicePlaces ((n : Int) - 1) (-1) (-1))) _ _ s
  rw [rev_places]
  exact wpAny_pure h
theorem getItem_tuple_rev {t sl : Addr} {items : Array Value} {vl vu vs : Value} {Q : Value → Shared → Prop} (ht : IsTup s.heap t items) (hs : s.heap.IsSliceOf sl vl vu vs) (pl : IsPart vl none) (pu : IsPart vu none) (ps : IsPart vs (some (-1)))
    (h : Q (.ref s.heap.objs.size) { s with heap := s.heap.push { cls := .type "tuple", data := .seq items.toList.reverse.toArray } })
    (hsz : items.size ≤ sizeLine) : wpAny (model prog w) A (getItem (.ref t) (.ref sl)) Q E s := by
  have htake : sizeOk (.seq items.toList.reverse.toArray) := by
    show items.toList.reverse.toArray.size ≤ sizeLine
    rw [List.size_toArray, List.length_reverse, Array.length_toList]
    omega
  obtain ⟨os, hos, hcs, hds⟩ := id hs
  have hTs : s.TypeIs (.ref sl) "slice" := ⟨os, hos, hcs⟩
  unfold getItem
  try with_reducible refine wpAny_holding ?_
  first | refine wpAny_bind (wpAny_pure ?_) | skip
  refine wpAny_bind (wpAny_sequenceKey ht.typeIs (by decide) ?_)
  refine wpAny_bind (wpAny_callSpecial?_slot (name := Str.ofString "__getitem__") ht.typeIs PyProof.Rows.slot_tuple_getitem
    (wpAny_call_entry PyProof.Rows.slot_tuple_getitem ht.typeIs entry_tuple_getitem ?_ (args_tuple_getitem _ _)))
  show wpAny _ _ (Builtin.Tuple.tupleItemsOf (.ref t) >>= _) _ _ s
  refine wpAny_bind (tupleItemsOf_ ht ?_)
  refine wpAny_bind (wpAny_typeOf hTs ?_)
  rw [if_pos (by decide)]
  refine wpAny_bind (sliceApplied_rev hs pl pu ps ?_)
  have hno : ¬ ((((items.size : Int) - 1) == 0 && (-1 : Int) == 1 && items.size == items.size) = true) := by
    intro q
    rw [Bool.and_eq_true, Bool.and_eq_true] at q
    have : (-1 : Int) = 1 := eq_of_beq q.1.2
    exact absurd this (by decide)
  show wpAny _ _ (if (((items.size : Int) - 1) == 0 && (-1 : Int) == 1 && items.size == items.size) = true then _ else _) _ _ s
  rw [if_neg hno, rev_pick]
  first
    | exact wpAny_bind (m := Builtin.Tuple.tupleExact _) (wpAny_newObj_type (wpAny_pure ⟨_, rfl, wpAny_pure h⟩) htake)
    | exact wpAny_bind (m := Builtin.Tuple.tupleExact _) (wpAny_newObj_type (wpAny_bind (wpAny_pure (wpAny_pure ⟨_, rfl, wpAny_pure h⟩))) htake)
    | exact wpAny_bind (wpAny_bind (m := Builtin.Tuple.tupleExact _) (wpAny_newObj_type (wpAny_pure (wpAny_pure ⟨_, rfl, wpAny_pure h⟩)) htake))
    | exact wpAny_bind (wpAny_bind (m := Builtin.Tuple.tupleExact _) (wpAny_newObj_type (wpAny_pure ⟨_, rfl, wpAny_pure h⟩) htake))
end
end HT
namespace DL
open PySem PySem.Spec PyProof.Rows L2
section
variable {X : Cx}
/-- [::-1] of a list or a tuple -/
def tRevA (K : PySem.W.Frag) (te : TE) : TE := fun σ H Q => te σ H fun x H1 => ∃ a xs, x = .ref a ∧ ((SqL K H1 a xs ∧ ∀ p, H1 p = none → Q (.ref p) (upd H1 p (.lst xs.reverse))) ∨ (SqT K H1 a xs ∧ ∀ p, H1 p = none → Q (.ref p) (upd H1 p (.tup xs.reverse))))
theorem pe_revA {e : Expr} {te : TE} {k : Nat} {p1 p2 p3 pos : Pos} (he : PE X e te) : PE X (.Subscript e (.Slice none none (some (.UnaryOp .USub (.Constant (.int 1) k p1) p2)) p3) pos) (tRevA X.K te) := by
  refine ⟨fun pins s σ H Q I h => ?_⟩
  refine Subscript_ (thn (he.run pins s σ H _ I h) fun v s1 ⟨x, H1, I1, r1, q1⟩ => ?_)
  obtain ⟨a, xs, ex, q⟩ := q1
  subst ex
  cases r1
  have hst : PO X (some (.UnaryOp .USub (.Constant (.int 1) k p1) p2)) (tPart (tUn (rU fun i => .int (-i)) (tC (.int 1)))) := po_some (pe_un un_neg pe_int)
  refine wpAny_Slice (thn (po_none.run pins s1 σ H1 (fun o H2 => o = none ∧ H2 = H1) I1 ⟨rfl, rfl⟩) fun vl s2 ⟨l, H2, I2, pl, el, e2⟩ => ?_)
  subst el e2
  refine thn (po_none.run pins s2 σ H2 (fun o H3 => o = none ∧ H3 = H2) I2 ⟨rfl, rfl⟩) fun vu s3 ⟨u, H3, I3, pu, eu, e3⟩ => ?_
  subst eu e3
  refine thn (hst.run pins s3 σ H3 (fun o H4 => o = some (-1) ∧ H4 = H3) I3 ⟨1, rfl, -1, rfl, rfl, rfl⟩) fun vs s4 ⟨o, H4, I4, ps, eo, e4⟩ => ?_
  subst eo e4
  have I5 : Inv X pins σ H4 { s4 with heap := s4.heap.push { cls := .type "slice", data := .fields #[vl, vu, vs] } } := I4.kept (t' := s4.toks) fun b ob q => Heap.get?_push_of_some _ q
  show wpAny (model X.prog X.w) X.A (subscriptTail e (.Slice none none (some (.UnaryOp .USub (.Constant (.int 1) k p1) p2)) p3) (.ref a) (.ref s4.heap.objs.size)) (EP X pins σ Q) X.xe { s4 with heap := s4.heap.push { cls := .type "slice", data := .fields #[vl, vu, vs] } }
  rcases q with ⟨hx, q⟩ | ⟨hx, q⟩
  · obtain ⟨its, r, ht, hz⟩ := I5.list hx
    have hlen := r.length
    refine tail_any (ops := [.ref a, .ref s4.heap.objs.size]) ht.isList.typeIs (PySem.slot_list_getitem.lookup) ?_ (by with_unfolding_all rfl)
    refine wpAny_getItem_list_slice ht.isList (Heap.IsSliceOf.new _ vl vu vs) pl pu ps (by decide) ?_ (by rw [List.size_toArray]; omega)
    rw [PySem.W.krv_pick]
    refine ⟨.ref _, _, I5.laid (t' := s4.toks) (o := .lst xs.reverse) (fun b ob q => Heap.get?_push_of_some _ q) (Nat.le_refl _) ?_, rfl, q _ (I5.hok.fresh (Nat.le_refl _))⟩
    exact ⟨by rw [List.length_reverse]; exact hz, _, 0, r.reverse, Heap.get?_push_size _ rfl⟩
  · obtain ⟨its, r, ht, hz⟩ := I5.tuple hx
    have hlen := r.length
    refine tail_any (ops := [.ref a, .ref s4.heap.objs.size]) ht.typeIs (PyProof.Rows.slot_tuple_getitem.lookup) ?_ (by with_unfolding_all rfl)
    refine HT.getItem_tuple_rev ht (Heap.IsSliceOf.new _ vl vu vs) pl pu ps ?_ (by rw [List.size_toArray]; omega)
    refine ⟨.ref _, _, I5.laid (t' := s4.toks) (o := .tup xs.reverse) (fun b ob q => Heap.get?_push_of_some _ q) (Nat.le_refl _) ?_, rfl, q _ (I5.hok.fresh (Nat.le_refl _))⟩
    exact ⟨by rw [List.length_reverse]; exact hz, _, r.reverse, IsTup.new _ _⟩
end
end DL

end
section
set_option maxHeartbeats 4000000
/-! # DL: defs called where no repr is under way -/
namespace DL
open PySem PySem.Spec PyProof.Rows L2
/-- a def's promise, wherever no repr is under way -/
structure FnG (P : Program) (w : World) (K : PySem.W.Frag) (mg : Str → Option Value) (base : Heap) (CX : CXT) (k : Nat) (f : Addr) (fd : FuncData) (ps : List Str) (sp : Sp) : Prop where
  lens : ∀ vs H Q E, sp vs H Q E → vs.length = ps.length
  go : ∀ (A : Around) (up : List Env) (s : Shared) (H : Hp) (as : Args) (us : List Value) (vs : List V) (Q : VK) (E : XK), Room k A → A.guards = some [] → Env0 P w K mg base A up s H → BindsTo s fd as (ps.zip us) → Vals vs us → sp vs H Q E →
    codeAny (model P w) A (.call (.ref f) as) (CR CX up P w H s Q E) s
section
variable {P : Program} {w : World} {K : PySem.W.Frag} {mg : Str → Option Value} {base : Heap} {x qual : Str} {pa : Arguments} {body : List Stmt} {sc : Scope} {dv : List V} {kw : List (Str × V)} {f : Addr} {fd : FuncData}
theorem okG {CX : CXT} {N ps : List Str} {k : Nat} {sp : Sp} (F : FunD K x qual pa body sc dv kw f fd) (S : FnScope N ps sc) (lens : ∀ vs H Q E, sp vs H Q E → vs.length = ps.length)
    (hb : ∀ (cd : Value) (A : Around) (up : List Env) (s : Shared) (H : Hp) (vs : List V) (Q : VK) (E : XK), Room k (A.deeper (envOfC qual sc s.heap.objs.size f cd)) → A.guards = some [] → sp vs H Q E →
      ∃ t, PSs (cxOf CX P w K mg base N qual sc f cd A up s H E) body t ∧ t { nx := fun _ H' => Q .non H', rt := Q } (start N vs) H) : FnG P w K mg base CX (k + 1) f fd ps sp := by
  obtain ⟨oc, od, dV, kV, doc, pm, an, cd, ct, osl, rfl, lk, hcd, _, _⟩ := F.ex
  constructor
  · exact lens
  intro A up s H as us vs Q E rm hg e0 bd rv hs
  obtain ⟨t, pt, ht⟩ := hb cd A up s H vs Q E (rm.deeper _) hg hs
  have hl := lens vs H Q E hs
  have old : ∀ b o, base.get? b = some o → s.heap.get? b = some o := fun b o e => (e0.bs b o e).1
  have KX := e0.mod.kin.keeps old
  have kinds : ∀ q ∈ ps.zip us, sc.names.lookup q.1 = some .local ∨ (sc.names.lookup q.1 = some .cell ∧ ((cellsFrom (s.heap.objs.size + 1) sc.names []).lookup q.1).isSome = true) := by
    rintro ⟨n, v⟩ hq
    exact (S.par n (List.of_mem_zip hq).1).elim .inl fun c => .inr ⟨c, PySem.W.cellsFrom_some _ _ _ (.inl c)⟩
  apply codeAny_call_function rm.depth (KX _ _ lk) rfl S.co S.gen rfl (PySem.W.codeRec_of KX hcd)
  apply bd
  apply wpAny_newFunctionEnv_cells S.kind kinds
  rintro env he s1 new
  subst he
  refine ⟨(e0.mod.nolimit.keeps old).keeps new.toInCall.keep, codeAny_func (wpAny_mono (pt.run [] s1 (start N vs) H _ (inv_start S rm.hd e0 hl rv new) ht) ?_ fun _ _ h => h)⟩
  have back : ∀ {σ' : L2.St} {H' : Hp} {v : V} {u : Value} {s' : Shared}, Inv (cxOf CX P w K mg base N qual sc f cd A up s H E) [] σ' H' s' → RelV v u → Q v H' → CE up P w H s Q u s' :=
    fun {σ' H' v u s'} J r q => ⟨v, H', J.os, J.bare, J.base, J.hok, r, q⟩
  intro fl s' h
  match fl, h with
  | .ret u, ⟨v, σ', H', J, r, q⟩ => exact back J r q
  | .next, ⟨σ', H', J, q⟩ => exact back (v := V.non) (u := Value.none) J rfl q
  | .brk, ⟨_, _, _, q⟩ => exact False.elim q
  | .cont, ⟨_, _, _, q⟩ => exact False.elim q
end
end DL

end
section
set_option maxHeartbeats 4000000
/-! # DL: the law's own call, from such a promise -/
namespace DL
open PySem PySem.Spec PyProof.Rows L2
section
variable {P : Program} {w : World} {K : PySem.W.Frag} {mg mb : Str → Option Value} {CX : CXT} {k : Nat} {fa a : Addr} {fd : FuncData} {x : Str} {sp : Sp} {s1 : Shared} {vs : List Value} {ns : List Int}
/-- what the script is held by: nothing, or itself as a list that stays -/
def soleH (a : Addr) (o : Option HO) : Hp := fun b => if b = a then o else none
theorem sole_at {a : Addr} {o : Option HO} : soleH a o a = o := if_pos rfl
theorem sole_off {a b : Addr} {o : Option HO} (h : b ≠ a) : soleH a o b = none := if_neg h
theorem callG (KX : K.In s1.heap) (hm : s1.heap.Ns mainGlobals mg) (hb : s1.heap.Ns builtinsNs mb) (hbb : ∀ x : Str, x ≠ "__name__" → mb x = bootBuiltins x) (hlim : s1.heap.NoLimit) (hg : s1.gens = #[])
    (ha : s1.heap.get? a = some { cls := .type "list", data := .seq vs.toArray }) (hi : IntsAre vs ns) (hl : ns.length ≤ sizeLine) (rm : Room k callerA)
    (F : ∀ base : Heap, K.In base → base.Ns mainGlobals mg → FnG P w K mg base CX k fa fd [x] sp) (bd : ∀ (s : Shared) (u : Value), BindsTo s fd ⟨[u], []⟩ [(x, u)])
    (hsp : ∀ H : Hp, Only H → SqL K H a (ns.map V.int) → sp [.ref a] H (fun v _ => v = .bl true) fun _ _ _ => False) (hCX : ∀ H e s', CX [] H s1 (fun _ _ _ => False) e s' → False) :
    codeAny (model P w) callerA (.call (.ref fa) ⟨[.ref a], []⟩) (fun r s' => r = .ok (.ret (.bool true)) ∧ OldK s1.heap s'.heap ∧ s'.os = s1.os ∧ AllBare s'.gens) s1 := by
  have main : ∀ o : Option HO, (o = none ∨ ∃ ob, o = some (.frz ob (.lst (ns.map V.int)))) → SqL K (soleH a o) a (ns.map V.int) → HOk P w (soleH a o) s1.heap → (o ≠ none → K.lookup a = none) →
      codeAny (model P w) callerA (.call (.ref fa) ⟨[.ref a], []⟩) (fun r s' => r = .ok (.ret (.bool true)) ∧ OldK s1.heap s'.heap ∧ s'.os = s1.os ∧ AllBare s'.gens) s1 := by
    intro o ho hS hok hK
    have only : Only (soleH a o) := fun b => by
      by_cases e : b = a
      · subst e
        rcases ho with rfl | ⟨ob, rfl⟩
        · exact .inl sole_at
        · exact .inr ⟨ob, _, sole_at⟩
      · exact .inl (sole_off e)
    have away : ∀ {b : Addr} {ob : Obj}, s1.heap.get? b = some ob → (o = none ∨ b ≠ a) → (hidT s1.heap (soleH a o)).get? b = some ob := fun {b ob} e c => hidT_get e (by
      by_cases q : b = a
      · subst q
        rw [sole_at]
        exact c.resolve_right fun n => n rfl
      · exact sole_off q)
    have ns_ : ∀ {b : Addr} {m : Str → Option Value}, s1.heap.Ns b m → (hidT s1.heap (soleH a o)).Ns b m := by
      rintro b m ⟨ob, es, ep, e, d, r⟩
      refine ⟨ob, es, ep, away e (.inr fun q => ?_), d, r⟩
      subst q
      rw [ha] at e
      cases e
      cases (show Data.seq vs.toArray _ = Data.dict es ep from d)
    have kin : K.In (hidT s1.heap (soleH a o)) := fun b ob e => away (KX b ob e) (by
      by_cases q : b = a
      · subst q
        cases ho2 : o with
        | none => exact .inl rfl
        | some z =>
          rw [hK (by rw [ho2]; exact Option.some_ne_none _)] at e
          cases e
      · exact .inr q)
    have e0 : Env0 P w K mg (hidT s1.heap (soleH a o)) callerA [] s1 (soleH a o) :=
      ⟨rfl, ⟨kin, ns_ hm, ⟨mb, ns_ hb, hbb⟩, let ⟨mc, q1, q2⟩ := hlim; ⟨mc, ns_ q1, q2⟩⟩, fun b ob e => of_hidT e, Nat.le_of_eq (hidT_size _ _), trivial, fun b hb => (List.not_mem_nil hb).elim, hok, .of_eq hg⟩
    have ran := (F _ kin (ns_ hm)).go callerA [] s1 (soleH a o) ⟨[.ref a], []⟩ [.ref a] [.ref a] _ _ rm rfl e0 (bd s1 (.ref a)) (.cons rfl .nil) (hsp _ only hS)
    refine codeAny_mono ran ?_
    intro r s' h
    match r, h with
    | .error e, h => exact (hCX _ e s' h).elim
    | .ok .next, h => exact False.elim h
    | .ok .brk, h => exact False.elim h
    | .ok .cont, h => exact False.elim h
    | .ok (.ret u), h =>
      obtain ⟨v, H', os, bare, un, hok', rr, rfl⟩ := h
      obtain rfl : u = Value.bool true := rr
      refine ⟨rfl, OldK.of_keep fun b ob e => ?_, os, bare⟩
      rcases only b with z | ⟨o2, xs, z⟩
      · exact un.keep b ob e z (fun m => (List.not_mem_nil m).elim) (by simp)
      · obtain ⟨g1, _⟩ := hok b _ z
        obtain ⟨g2, _⟩ := hok' b _ (un.frzs b o2 _ z)
        rw [g1] at e
        cases e
        exact g2
  have rv := vals_ints hi
  cases kl : K.lookup a with
  | some ob =>
    have e := KX a ob kl
    rw [ha] at e
    cases e
    refine main none (.inl rfl) (.inr ⟨_, vs.toArray, _, kl, rfl, rfl, rfl, ?_, by simpa using rv⟩) (fun b u z => ?_) fun z => absurd rfl z
    · rw [List.size_toArray, hi.length]
      exact hl
    · by_cases q : b = a
      · subst q
        rw [sole_at] at z
        cases z
      · rw [sole_off q] at z
        cases z
  | none =>
    refine main (some (.frz { cls := .type "list", data := .seq vs.toArray } (.lst (ns.map V.int)))) (.inr ⟨_, rfl⟩) (.inl (.inr ⟨_, sole_at⟩)) (fun b u z => ?_) fun _ => kl
    by_cases q : b = a
    · subst q
      rw [sole_at] at z
      cases z
      refine ⟨ha, ?_, vs, _, rv, ha⟩
      rw [List.length_map]
      exact hl
    · rw [sole_off q] at z
      cases z
end
end DL

end
section
set_option maxHeartbeats 4000000
/-! # DL, soundness 5: isinstance, methods, subscripts, calls of own defs -/
namespace DL
open PySem PySem.Spec PyProof.Rows L2
/-! ### isinstance -/
def tyN : D → String
  | .non => "NoneType" | .bl _ => "bool" | .int _ => "int" | .str _ => "str" | .tup _ => "tuple" | .fz _ => "list" | .ref _ => "list" | .dct => "dict"
def Ty.nm : Ty → String
  | .int => "int" | .str => "str" | .bool => "bool" | .tuple => "tuple" | .list => "list"
def tyB (d : D) (u : Ty) : Bool := match d with
  | .ref _ => isTy (some .list) u
  | d => isTy (tyOf [] d) u
theorem kit_none (u : Ty) : kitB "NoneType" u.nm = some (isTy none u) := by cases u <;> decide +kernel
theorem kit_dct (u : Ty) : kitB "dict" u.nm = some (isTy none u) := by cases u <;> decide +kernel
theorem kit_t (t u : Ty) : kitB t.nm u.nm = some (isTy (some t) u) := by cases t <;> cases u <;> decide +kernel
theorem kit_d (d : D) (u : Ty) : kitB (tyN d) u.nm = some (tyB d u) := by
  cases d
  · exact kit_none u
  · exact kit_t .bool u
  · exact kit_t .int u
  · exact kit_t .str u
  · exact kit_t .tuple u
  · exact kit_t .list u
  · exact kit_t .list u
  · exact kit_dct u
theorem kit_any {K : Frag} (d : D) : ∀ ts : List Ty, PySem.W.kitAny K (.type (tyN d)) (ts.map fun t => .type t.nm) = some (ts.any (tyB d))
  | [] => kitAny_nil
  | t :: ts => by
    rw [List.map_cons]
    refine kitAny_cons (kit_ty (kit_d d t)) (fun e => ?_) (fun e => ?_)
    · rw [kit_any d ts, List.any_cons, e, Bool.false_or]
    · rw [List.any_cons, e, Bool.true_or]
theorem tyx_of {K : Frag} {H : Hp} {ρ : List Addr} {S : Store} {d : D} {v : V} (r : Rep K H ρ S) (h : At K H ρ d v) (hs : ∀ n, d = .ref n → ∃ l, S[n]? = some l) : TyX K H v (.type (tyN d)) := by
  cases d
  · cases h.non_inv; exact .base .non
  · cases h.bl_inv; exact .base (.bl _)
  · cases h.int_inv; exact .base (.int _)
  · cases h.str_inv; exact .base (.str _)
  · obtain ⟨a, xs, rfl, s, _⟩ := h.tup_inv
    rcases s with (s | ⟨o, s⟩) | ⟨o, its, n, k, c, _⟩
    · exact .base (.tup s)
    · exact .fTuple s
    · exact .kTuple k c
  · obtain ⟨a, xs, rfl, s, _⟩ := h.fz_inv
    rcases s with ⟨o, s⟩ | ⟨o, its, n, k, c, _⟩
    · exact .base (.frz s)
    · exact .kList k c
  · rename_i n
    obtain ⟨a, rfl, ea⟩ := h.ref_inv
    obtain ⟨l, el⟩ := hs n rfl
    obtain ⟨b, xs, eb, hb, _⟩ := r.get el
    rw [ea] at eb; cases eb
    exact .base (.lst hb)
  · obtain ⟨a, rfl, ea⟩ := h.dct_inv
    exact .base (.dK ea)
theorem isi_ok {d : D} {ts : List Ty} {S S' : Store} {x : D} (h : isiR d ts S = .ok x S') : x = .bl (ts.any (tyB d)) ∧ S' = S ∧ ∀ n, d = .ref n → ∃ l, S[n]? = some l := by
  cases d <;> try (cases h; exact ⟨rfl, rfl, fun n e => by cases e⟩)
  rename_i n
  have h : (match S[n]? with | some _ => R.ok (D.bl (ts.any (isTy (some .list)))) S | none => .bad) = .ok x S' := h
  cases e : S[n]? with
  | none => rw [e] at h; cases h
  | some l =>
    rw [e] at h; cases h
    exact ⟨rfl, rfl, fun m em => by cases em; exact ⟨l, e⟩⟩
theorem noex_isi (d : D) (ts : List Ty) (S : Store) : NoEx (isiR d ts S) := by
  intro c as S' h; unfold isiR at h; (repeat' split at h) <;> cases h
theorem noex_mtD (m : Mt) (o : D) (xs : List D) (S : Store) : NoEx (mtD m o xs S) := by
  intro c as S' h; unfold mtD at h; (repeat' split at h) <;> cases h
theorem noex_idx (a i : D) (S : Store) : NoEx (idxR a i S) := by
  intro c as S' h; unfold idxR at h; (repeat' split at h) <;> cases h
theorem noex_slc (a : D) (l h' : Option Int) (S : Store) : NoEx (slcR a l h' S) := by
  intro c as S' h; unfold slcR at h; (repeat' split at h) <;> cases h
theorem noex_rev (a : D) (S : Store) : NoEx (revR a S) := by
  intro c as S' h; unfold revR at h; (repeat' split at h) <;> cases h

section
variable {X : Cx} {P : Pm} {a b c e : Expr} {es : List Expr} {pos p p2 : Pos} {m m1 m2 m3 : En → Store → R D} {ma mk : En → Store → R (List D)}
theorem boot_ty (t : Ty) : bootBuiltins (Str.ofString t.nm) = some (.type t.nm) := by cases t <;> decide +kernel
theorem boot_ty_nm (t : Ty) : (Str.ofString t.nm) ≠ "__name__" ∧ ((Str.ofString t.nm) == ("__debug__" : Str)) = false := by cases t <;> decide +kernel
theorem boot_isi : bootBuiltins "isinstance" = some (.builtin "isinstance") := by decide +kernel
theorem d_ty (t : Ty) (hg : Gl X (Str.ofString t.nm)) (hm : X.mg (Str.ofString t.nm) = none) : PE X (.Name (Str.ofString t.nm) p2) (tC (.ty t.nm)) :=
  pe_bltn hg hm (boot_ty t) rfl (boot_ty_nm t).1 (boot_ty_nm t).2
theorem d_isi1 (hK : P.K = X.K) (t : Ty) (hg : Gl X "isinstance") (hm : X.mg "isinstance" = none) (hgt : Gl X (Str.ofString t.nm)) (hmt : X.mg (Str.ofString t.nm) = none) (he : PE X e (rdE P m))
    (hs : starEach [e, .Name (Str.ofString t.nm) p2] X.env = (false, eval e X.env) :: starEach [.Name (Str.ofString t.nm) p2] X.env) (hpl : (backTo pos (starEach [.Name (Str.ofString t.nm) p2] X.env)).any (·.1) = false) :
    PE X (.Call (.Name "isinstance" p) [e, .Name (Str.ofString t.nm) p2] [] pos) (rdE P fun env S => (m env S).bind fun x S1 => isiR x [t] S1) := by
  refine PE.imp (pe_callB call_isi hg hm boot_isi (pa_cons he (pa_cons (d_ty t hgt hmt) pa_nil (by rfl)) hs) (by decide) (by decide) hs hpl) fun σ H Q ⟨ρ, env, S, r, h⟩ => ?_
  refine ⟨ρ, env, S, r, Post.bind (f := fun x S1 => isiR x [t] S1) h fun x S1 ρ1 v H1 _ st1 q1 a1 h1 => ?_⟩
  cases ei : isiR x [t] S1 with
  | ok y S2 =>
    rw [ei] at h1
    obtain ⟨rfl, rfl, hs⟩ := isi_ok ei
    exact ⟨v, .ty t.nm, .type (tyN x), .type t.nm, _, rfl, .ty _, hK ▸ tyx_of q1 a1 hs, kit_ty (kit_d x t), h1.done q1 (by
      have : ([t].any (tyB x)) = tyB x t := by simp
      rw [this]; exact .mk_bl)⟩
  | ex cc as S2 => exact absurd ei (noex_isi x [t] S1 cc as S2)
  | bad => rw [ei] at h1; exact False.elim h1
/-- the names of types, as a display -/
def tyEs (ts : List (Ty × Pos)) : List Expr := ts.map fun t => .Name (Str.ofString t.1.nm) t.2
theorem d_tys {TS : St → Hp → Prop} : ∀ (ts : List (Ty × Pos)), (∀ t ∈ ts, Gl X (Str.ofString t.1.nm) ∧ X.mg (Str.ofString t.1.nm) = none) → PA X (tyEs ts) (fun _ H Q => Q (ts.map fun t => V.ty t.1.nm) H)
  | [], _ => pa_nil
  | t :: ts, h => by
    refine PA.imp (pa_cons (d_ty t.1 (h t List.mem_cons_self).1 (h t List.mem_cons_self).2) (d_tys (TS := TS) ts fun u hu => h u (List.mem_cons_of_mem _ hu)) (by rfl)) fun σ H Q q => q
theorem tys_cls : ∀ ts : List (Ty × Pos), Paired ClsV (ts.map fun t => V.ty t.1.nm) (ts.map fun t => Value.type t.1.nm)
  | [] => .nil
  | t :: ts => .cons (.ty _) (tys_cls ts)
theorem d_isiN (hK : P.K = X.K) (ts : List (Ty × Pos)) {k} (hl : ts.length ≤ 1000) (hg : Gl X "isinstance") (hm : X.mg "isinstance" = none) (hts : ∀ t ∈ ts, Gl X (Str.ofString t.1.nm) ∧ X.mg (Str.ofString t.1.nm) = none) (he : PE X e (rdE P m))
    (hs : starEach [e, .Tuple (tyEs ts) k p2] X.env = (false, eval e X.env) :: starEach [.Tuple (tyEs ts) k p2] X.env) (hpl : (backTo pos (starEach [.Tuple (tyEs ts) k p2] X.env)).any (·.1) = false) :
    PE X (.Call (.Name "isinstance" p) [e, .Tuple (tyEs ts) k p2] [] pos) (rdE P fun env S => (m env S).bind fun x S1 => isiR x (ts.map (·.1)) S1) := by
  refine PE.imp (pe_callB call_isiT hg hm boot_isi (pa_cons he (pa_cons (pe_tup (d_tys (TS := fun _ _ => True) ts hts)) pa_nil (by rfl)) hs) (by decide) (by decide) hs hpl) fun σ H Q ⟨ρ, env, S, r, h⟩ => ?_
  refine ⟨ρ, env, S, r, Post.bind (f := fun x S1 => isiR x (ts.map (·.1)) S1) h fun x S1 ρ1 v H1 _ st1 q1 a1 h1 => ?_⟩
  cases ei : isiR x (ts.map (·.1)) S1 with
  | ok y S2 =>
    rw [ei] at h1
    obtain ⟨rfl, rfl, hs⟩ := isi_ok ei
    refine ⟨by rw [List.length_map]; exact Nat.le_of_lt (small1000 hl), fun t ht => ?_⟩
    refine ⟨v, t, _, .type (tyN x), ts.map fun t => .type t.1.nm, _, rfl, upd_same, ?_, hK ▸ (tyx_of (q1.newT ht) (a1.mono (step_new ht)) hs), ?_, h1.to (step_new ht) (q1.newT ht) .mk_bl⟩
    · exact tys_cls ts
    · have := kit_any (K := X.K) x (ts.map (·.1))
      rw [List.map_map] at this
      exact this
  | ex cc as S2 => exact absurd ei (noex_isi x _ S1 cc as S2)
  | bad => rw [ei] at h1; exact False.elim h1
/-! ### methods -/
theorem recv_ref {mt : Mt} (hm : mt = .append ∨ mt = .pop) {x : D} {S : Store} (h : recvOk mt x S = true) : ∃ n, x = .ref n ∧ n < S.length := by
  rcases hm with rfl | rfl <;> cases x <;> first | (simp only [recvOk] at h; cases h; done) | (simp only [recvOk, decide_eq_true_eq] at h; exact ⟨_, rfl, h⟩)
theorem d_bits (he : PE X e (rdE P m)) (hbase : attributeBase e "bit_length" X.env (eval e X.env) = eval e X.env) (hline : (p.endLine == pos.line) = true) :
    PE X (.Call (.Attribute e "bit_length" p) [] [] pos) (rdE P fun env S => (m env S).bind fun x S1 => if recvOk .bits x S1 then (R.ok ([] : List D) S1).bind fun vs S2 => mtD .bits x vs S2 else .bad) := by
  refine PE.imp (pe_bits he hbase hline) fun σ H Q ⟨ρ, env, S, r, h⟩ => ?_
  refine ⟨ρ, env, S, r, Post.bind (f := fun x S1 => if recvOk .bits x S1 then (R.ok ([] : List D) S1).bind fun vs S2 => mtD .bits x vs S2 else .bad) h fun x S1 ρ1 v H1 _ st1 q1 a1 h1 => ?_⟩
  cases x <;> try exact False.elim h1
  cases At.int_inv a1
  exact ⟨_, rfl, Post.done (rel := relV P) h1 q1 .mk_int⟩
theorem d_append (he : PE X e (rdE P m)) (ha : PE X a (rdE P m1)) (hbase : attributeBase e "append" X.env (eval e X.env) = eval e X.env) (hline : (p.endLine == pos.line) = true)
    (hs : starEach [a] X.env = (false, eval a X.env) :: starEach [] X.env) :
    PE X (.Call (.Attribute e "append" p) [a] [] pos) (rdE P fun env S => (m env S).bind fun x S1 => if recvOk .append x S1 then ((m1 env S1).bind fun y S2 => (R.ok ([] : List D) S2).bind fun ys S3 => .ok (y :: ys) S3).bind fun vs S3 => mtD .append x vs S3 else .bad) := by
  refine PE.imp (pe_bm PySem.F.plainAttrs_list PySem.F.slot_list_append PySem.F.type_list_append mt_append he (d_cons ha d_nil hs) hbase (by rw [hs]; rfl) hline hs (by rfl)) fun σ H Q ⟨ρ, env, S, r, h⟩ => ?_
  refine ⟨ρ, env, S, r, h.bind fun x S1 ρ1 v H1 _ st1 q1 a1 h1 => ?_⟩
  split at h1
  · rename_i hr
    obtain ⟨n, rfl, hn⟩ := recv_ref (.inl rfl) hr
    obtain ⟨l, rfl, el⟩ := At.ref_inv a1
    obtain ⟨l', xs, el', hx, _⟩ := q1.get (List.getElem?_eq_getElem hn)
    rw [el] at el'; cases el'
    refine ⟨.inl ⟨rfl, xs, .of hx⟩, ρ1, env, S1, r.at st1 q1, Post.bind (f := fun vs S2 => mtD .append (.ref n) vs S2) h1 fun ys S2 ρ2 us H2 e2 st2 q2 a2 h2 => ?_⟩
    obtain ⟨y, S3, _, e3⟩ := bind_ok e2
    cases e3
    obtain ⟨u, rfl, au⟩ := AtL.one a2
    have h2 : Post P σ H2 ρ2 (relV P) (match S2[n]? with | some l => if l.length < PySem.sizeLine then .ok .non (setAt S2 n (l ++ [y])) else .bad | none => .bad) Q := h2
    cases e2 : S2[n]? with
    | none => rw [e2] at h2; exact False.elim h2
    | some k =>
      rw [e2] at h2
      obtain ⟨l2, ys, el2, hy, ay⟩ := q2.get e2
      rw [pre_get st2.pre el] at el2; cases el2
      have h2 : Post P σ H2 ρ2 (relV P) (if k.length < PySem.sizeLine then .ok .non (setAt S2 n (k ++ [y])) else .bad) Q := h2
      split at h2
      · rename_i hl
        refine ⟨l, ys, u, rfl, rfl, hy, by rw [← ay.length]; exact hl, ?_⟩
        exact Post.to (rel := relV P) h2 ⟨.wr hy, List.prefix_refl ρ2⟩ (q2.wr (pre_get st2.pre el) hy (ay.append (.cons au .nil))) .mk_non
      · exact False.elim h2
  · exact False.elim h1
theorem getLast_idx {α : Type} : ∀ {l : List α} {d : α}, l.getLast? = some d → l[l.length - 1]? = some d := fun {l d} h => by rw [List.getLast?_eq_getElem?] at h; exact h
theorem d_pop (he : PE X e (rdE P m)) (hbase : attributeBase e "pop" X.env (eval e X.env) = eval e X.env) (hline : (p.endLine == pos.line) = true) :
    PE X (.Call (.Attribute e "pop" p) [] [] pos) (rdE P fun env S => (m env S).bind fun x S1 => if recvOk .pop x S1 then (R.ok ([] : List D) S1).bind fun vs S2 => mtD .pop x vs S2 else .bad) := by
  refine PE.imp (pe_bm0 PySem.F.plainAttrs_list PySem.F.slot_list_pop PySem.F.type_list_pop mt_pop he hbase hline) fun σ H Q ⟨ρ, env, S, r, h⟩ => ?_
  refine ⟨ρ, env, S, r, h.bind fun x S1 ρ1 v H1 _ st1 q1 a1 h1 => ?_⟩
  split at h1
  · rename_i hr
    obtain ⟨n, rfl, hn⟩ := recv_ref (.inr rfl) hr
    obtain ⟨l, rfl, el⟩ := At.ref_inv a1
    have h1 : Post P σ H1 ρ1 (relV P) (match S1[n]? with | some l => (match l.getLast? with | some d => .ok d (setAt S1 n l.dropLast) | none => .bad) | none => .bad) Q := h1
    cases e2 : S1[n]? with
    | none => rw [e2] at h1; exact False.elim h1
    | some k =>
      rw [e2] at h1
      obtain ⟨l2, ys, el2, hy, ay⟩ := q1.get e2
      rw [el] at el2; cases el2
      have h1 : Post P σ H1 ρ1 (relV P) (match k.getLast? with | some d => .ok d (setAt S1 n k.dropLast) | none => .bad) Q := h1
      cases e3 : k.getLast? with
      | none => rw [e3] at h1; exact False.elim h1
      | some d =>
        rw [e3] at h1
        obtain ⟨u, eu, au⟩ := ay.get (getLast_idx e3)
        refine ⟨.inl ⟨rfl, ys, .of hy⟩, l, ys, u, rfl, rfl, hy, by rw [← ay.length]; exact eu, ?_⟩
        have st : Step H1 ρ1 (upd H1 l (.lst ys.dropLast)) ρ1 := ⟨.wr hy, List.prefix_refl ρ1⟩
        exact Post.to (rel := relV P) h1 st (q1.wr el hy ay.dropLast) (au.mono st)
  · exact False.elim h1
/-! ### subscripts -/
theorem d_idx (hK : P.K = X.K) (ha : PE X a (rdE P m1)) (hb : PE X b (rdE P m2)) (hs : PlainIx b) : PE X (.Subscript a b pos) (rdE P fun env S => (m1 env S).bind fun x S1 => (m2 env S1).bind fun y S2 => idxR x y S2) := by
  refine PE.imp (pe_ix ix_seq ha hb hs) fun σ H Q ⟨ρ, env, S, r, h⟩ => ?_
  refine ⟨ρ, env, S, r, h.bind fun x S1 ρ1 v H1 _ st1 q1 a1 h1 => ?_⟩
  refine ⟨ρ1, env, S1, r.at st1 q1, Post.bind (f := fun y S2 => idxR x y S2) h1 fun y S2 ρ2 u H2 _ st2 q2 a2 h2 => ?_⟩
  obtain ⟨k, rfl⟩ : ∃ k, y = .int k := by
    cases y with
    | int k => exact ⟨k, rfl⟩
    | _ => exact False.elim h2
  cases At.int_inv a2
  have h2 : Post P σ H2 ρ2 (relV P) (match items S2 x with | some l => (match L2.atI l k with | some d => .ok d S2 | none => .bad) | none => .bad) Q := h2
  cases e1 : items S2 x with
  | none => rw [e1] at h2; exact False.elim h2
  | some l =>
    rw [e1] at h2
    have h2 : Post P σ H2 ρ2 (relV P) (match L2.atI l k with | some d => .ok d S2 | none => .bad) Q := h2
    cases e2 : L2.atI l k with
    | none => rw [e2] at h2; exact False.elim h2
    | some d =>
      rw [e2] at h2
      obtain ⟨q, xs, rfl, sq, aq⟩ := items_inv q2 (At.mono st2 a1) e1
      have e3 : ∃ w, L2.atI xs k = some w ∧ At P.K H2 ρ2 d w := by
        unfold L2.atI at e2 ⊢
        rw [aq.length] at e2
        cases e4 : ixN xs.length k with
        | none => rw [e4] at e2; cases e2
        | some j =>
          rw [e4] at e2
          exact aq.get e2
      obtain ⟨w, ew, aw⟩ := e3
      have fin : Q w H2 := Post.done (rel := relV P) h2 q2 aw
      rcases sq with sq | sq
      · exact .inl ⟨q, xs, k, w, rfl, rfl, hK ▸ sq, ew, fin⟩
      · exact .inr (.inl ⟨q, xs, k, w, rfl, rfl, hK ▸ sq, ew, fin⟩)
theorem d_rev (hK : P.K = X.K) {k : Nat} {p1 p3 : Pos} (ha : PE X a (rdE P m)) : PE X (.Subscript a (.Slice none none (some (.UnaryOp .USub (.Constant (.int 1) k p1) p2)) p3) pos) (rdE P fun env S => (m env S).bind fun x S1 => revR x S1) := by
  refine PE.imp (pe_revA ha) fun σ H Q ⟨ρ, env, S, r, h⟩ => ?_
  refine ⟨ρ, env, S, r, Post.bind (f := fun x S1 => revR x S1) h fun x S1 ρ1 v H1 _ st1 q1 a1 h1 => ?_⟩
  have lst : ∀ {l : List D}, lstOf S1 x = some l → Post P σ H1 ρ1 (relV P) (.ok (.ref S1.length) (S1 ++ [l.reverse])) Q →
      ∃ a xs, v = .ref a ∧ ((SqL X.K H1 a xs ∧ ∀ p, H1 p = none → Q (.ref p) (upd H1 p (.lst xs.reverse))) ∨ (SqT X.K H1 a xs ∧ ∀ p, H1 p = none → Q (.ref p) (upd H1 p (.tup xs.reverse)))) := fun {l} el hl => by
    obtain ⟨q, xs, rfl, sq, aq⟩ := lstOf_inv q1 a1 el
    exact ⟨q, xs, rfl, .inl ⟨hK ▸ sq, fun t ht => post_newL q1 aq.reverse ht hl⟩⟩
  cases x with
  | tup l =>
    obtain ⟨q, xs, rfl, sq, aq⟩ := At.tup_inv a1
    exact ⟨q, xs, rfl, .inr ⟨hK ▸ sq, fun t ht => post_newT q1 aq.reverse ht h1⟩⟩
  | fz l => exact lst rfl h1
  | non => exact False.elim h1
  | bl _ => exact False.elim h1
  | int _ => exact False.elim h1
  | str _ => exact False.elim h1
  | dct => exact False.elim h1
  | ref n =>
    have h1 : Post P σ H1 ρ1 (relV P) (match S1[n]? with | some xs => .ok (.ref S1.length) (S1 ++ [xs.reverse]) | none => .bad) Q := h1
    cases e : S1[n]? with
    | none => rw [e] at h1; exact False.elim h1
    | some l => rw [e] at h1; exact lst e h1
/-- a slice's part -/
def rdO (P : Pm) (m : En → Store → R (Option Int)) : TO := fun σ H Q => ∃ ρ env S, Rel P H ρ S σ env ∧ Post P σ H ρ (fun _ _ (l o : Option Int) => l = o) (m env S) Q
theorem d_po_none : PO X none (rdO P fun _ S => (R.ok ([] : List D) S).bind partOk) :=
  ⟨fun pins s σ H Q I ⟨ρ, env, S, r, h⟩ => po_none.run pins s σ H Q I (h ρ none H (.refl H ρ) r.rep rfl)⟩
theorem d_po_some (he : PE X e (rdE P m)) : PO X (some e) (rdO P fun env S => ((m env S).bind fun x S1 => (R.ok ([] : List D) S1).bind fun xs S2 => .ok (x :: xs) S2).bind partOk) := by
  refine ⟨fun pins s σ H Q I ⟨ρ, env, S, r, h⟩ => (po_some he).run pins s σ H Q I ?_⟩
  refine ⟨ρ, env, S, r, ?_⟩
  have h : Post P σ H ρ (fun _ _ (l o : Option Int) => l = o) ((m env S).bind fun x S1 => partOk [x] S1) Q := by
    have e : ((m env S).bind fun x S1 => (R.ok ([] : List D) S1).bind fun xs S2 => R.ok (x :: xs) S2).bind partOk = (m env S).bind fun x S1 => partOk [x] S1 := by cases m env S <;> rfl
    rw [← e]; exact h
  refine Post.bind (f := fun x S1 => partOk [x] S1) h fun x S1 ρ1 v H1 _ st1 q1 a1 h1 => ?_
  cases x <;> try exact False.elim h1
  cases At.int_inv a1
  exact ⟨_, rfl, h1 ρ1 _ H1 (.refl H1 ρ1) q1 rfl⟩
theorem d_slc (hK : P.K = X.K) {lo hi : Option Expr} {ml mh : En → Store → R (Option Int)} (ha : PE X a (rdE P m)) (hl : PO X lo (rdO P ml)) (hh : PO X hi (rdO P mh)) :
    PE X (.Subscript a (.Slice lo hi none p2) pos) (rdE P fun env S => (m env S).bind fun x S1 => (ml env S1).bind fun l S2 => (mh env S2).bind fun h S3 => slcR x l h S3) := by
  refine PE.imp (pe_slice (sl_list.or sl_tupA) ha hl hh) fun σ H Q ⟨ρ, env, S, r, h⟩ => ?_
  refine ⟨ρ, env, S, r, h.bind fun x S1 ρ1 v H1 _ st1 q1 a1 h1 => ?_⟩
  refine ⟨ρ1, env, S1, r.at st1 q1, h1.bind fun l S2 ρ2 l' H2 _ st2 q2 e2 h2 => ?_⟩
  refine ⟨ρ2, env, S2, (r.at st1 q1).at st2 q2, Post.bind (f := fun h S3 => slcR x l h S3) h2 fun h S3 ρ3 h' H3 _ st3 q3 e3 h3 => ?_⟩
  have e2 : l = l' := e2
  have e3 : h = h' := e3
  subst e2 e3
  have a3 : At P.K H3 ρ3 x v := At.mono (st2.trans st3) a1
  have lst : ∀ {k : List D}, lstOf S3 x = some k → Post P σ H3 ρ3 (relV P) (.ok (.ref S3.length) (S3 ++ [cutD k l h])) Q → rSlL X.K v l h H3 Q := fun {k} el hl => by
    obtain ⟨q, xs, rfl, sq, aq⟩ := lstOf_inv q3 a3 el
    exact ⟨q, xs, rfl, hK ▸ sq, fun t ht => post_newL q3 (aq.cut l h) ht hl⟩
  cases x with
  | non => exact False.elim h3
  | bl _ => exact False.elim h3
  | int _ => exact False.elim h3
  | str _ => exact False.elim h3
  | dct => exact False.elim h3
  | tup k =>
    obtain ⟨q, xs, rfl, sq, aq⟩ := At.tup_inv a3
    refine .inr ⟨q, xs, rfl, hK ▸ sq, fun hw => ?_, fun _ t ht => post_newT q3 (aq.cut l h) ht h3⟩
    have ek : cutD k l h = k := by
      unfold cutD
      rw [aq.length, hw.1, hw.2, List.drop_zero, ← aq.length, Nat.sub_zero, List.take_length]
    have h3 : Post P σ H3 ρ3 (relV P) (.ok (.tup (cutD k l h)) S3) Q := h3
    rw [ek] at h3
    exact Post.done (rel := relV P) h3 q3 (At.mk_tup sq aq)
  | fz k => exact .inl (lst rfl h3)
  | ref n =>
    have h3 : Post P σ H3 ρ3 (relV P) (match S3[n]? with | some xs => .ok (.ref S3.length) (S3 ++ [cutD xs l h]) | none => .bad) Q := h3
    cases e : S3[n]? with
    | none => rw [e] at h3; exact False.elim h3
    | some k => rw [e] at h3; exact .inl (lst e h3)
/-! ### calls of own defs -/
/-- what a def of the text promises -/
def spD (P0 : Pm) (np : Nat) (f : List D → Store → R D) : Sp := fun vs H Q E => vs.length = np ∧ ∃ ρ ds S, Rep P0.K H ρ S ∧ AtL P0.K H ρ ds vs ∧ match f ds S with
  | .ok d S' => ∀ ρ' v H', Step H ρ H' ρ' → Rep P0.K H' ρ' S' → At P0.K H' ρ' d v → Q v H'
  | .ex c as S' => ∀ ρ' cls dd H', Step H ρ H' ρ' → Rep P0.K H' ρ' S' → P0.XA c as H' ρ' cls dd → E cls dd H'
  | .bad => False
variable {k : Nat} {f : Addr} {fd : FuncData} {ps ks : List Str} {x : Str} {kws : List Keyword} {g : List D → Store → R D} {P0 : Pm}
theorem call_imp (eK : P0.K = P.K) (eX : P0.XA = P.XA) {σ : L2.St} {H : Hp} {ρ : List Addr} {S : Store} {ds : List D} {vs : List V} {Q : VK} (r : Rep P.K H ρ S) (ha : AtL P.K H ρ ds vs) (hl : vs.length = ps.length) (h : Post P σ H ρ (relV P) (g ds S) Q) :
    spD P0 ps.length g vs H Q (WE P.W σ) := by
  refine ⟨hl, ρ, ds, S, eK ▸ r, eK ▸ ha, ?_⟩
  cases e : g ds S with
  | ok d S' =>
    rw [e] at h
    intro ρ' v H' st q a
    rw [eK] at q a
    exact h ρ' v H' st q a
  | ex c as S' =>
    rw [e] at h
    intro ρ' cls dd H' st q a
    rw [eK] at q
    rw [eX] at a
    exact h ρ' cls dd H' st q a
  | bad => rw [e] at h; exact h
/-- the mirror knows how many arguments there are -/
def Arity (n : Nat) (g : List D → Store → R D) : Prop := ∀ ds S, ds.length ≠ n → g ds S = .bad
theorem arity_len {n : Nat} (ar : Arity n g) {σ : L2.St} {H : Hp} {ρ : List Addr} {S : Store} {ds : List D} {Q : VK} (h : Post P σ H ρ (relV P) (g ds S) Q) : ds.length = n := by
  by_cases e : ds.length = n
  · exact e
  · rw [ar ds S e] at h; exact False.elim h
theorem d_call (F : FnG X.prog X.w X.K X.mg X.base (L2.CX X.prog X.w) k f fd ps (spD P0 ps.length g)) (eK : P0.K = P.K) (eX : P0.XA = P.XA) (ar : Arity ps.length g) (tk : Takes X P.W) (hr : Room k X.A) (hgd : X.A.guards = some []) (hg : Gl X x) (hm : X.mg x = some (.ref f)) (hk : PySem.W.keepIn X.K (.ref f) = true) (hb : Binds X.K fd ps [])
    (ha : PA X (e :: es) (rdA P ma)) (hdb : (x == ("__debug__" : Str)) = false) (he : starEach (e :: es) X.env = (false, eval e X.env) :: starEach es X.env) (hpl : (backTo pos (starEach es X.env)).any (·.1) = false) :
    PE X (.Call (.Name x p) (e :: es) [] pos) (rdE P fun env S => (ma env S).bind fun vs S1 => g vs S1) := by
  refine ⟨fun pins s σ H Q I ⟨ρ, env, S, r, h⟩ => ?_⟩
  refine wpAny_Call_Name_kw (ld_glob I hg hm ?_ hdb)
  refine PySem.W.callWith_K (h₀ := X.base) I.ok.mod.kin hk (thn (ha.run pos pins s σ H (fun vs H1 => ∃ ρ1 ds S1, Rep P.K H1 ρ1 S1 ∧ AtL P.K H1 ρ1 ds vs ∧ Post P σ H1 ρ1 (relV P) (g ds S1) Q) I ⟨ρ, env, S, r, Post.bind (f := fun vs S1 => g vs S1) h fun ds S1 ρ1 vs H1 _ st1 q1 a1 h1 => ⟨ρ1, ds, S1, q1, a1, h1⟩⟩) fun us s1 hh => ?_) he hpl
  obtain ⟨vs, H1, I1, r1, ρ1, ds, S1, q1, a1, h1⟩ := hh
  refine ⟨I1.kIn, ?_⟩
  have lv : vs.length = ps.length := by rw [← AtL.length a1]; exact arity_len ar h1
  have bd := hb s1 us I1.kIn (by rw [List.append_nil, ← r1.length]; exact lv)
  rw [List.append_nil] at bd
  refine wpAny_call (codeAny_mono (F.go X.A X.stack s1 H1 ⟨us, []⟩ us vs Q (WE P.W σ) hr hgd I1.env0 bd r1 (call_imp eK eX q1 a1 lv h1)) fun rr s' hq => ?_)
  cases rr with
  | error e => exact passAt tk σ pins H1 s1 e s' I1 hq
  | ok fl =>
    cases fl with
    | ret u => exact I1.after hq
    | next => exact False.elim hq
    | brk => exact False.elim hq
    | cont => exact False.elim hq
end
end DL

end
section
set_option maxHeartbeats 4000000
/-! # DL, soundness: repr, comb, factorial, an empty dict -/
namespace DL
open PySem PySem.Spec PyProof.Rows L2
section
variable {X : Cx} {P : Pm}
theorem bi_comb : CallR X (.builtin "math.comb") (rC P (biD .comb)) := by
  intro pins s σ H xs us Q I rv h
  obtain ⟨ρ, ds, S, r, ha, h⟩ := h
  unfold biD at h
  split at h <;> first | (rename_i q; cases q; done) | exact False.elim h | skip
  rename_i i j
  obtain ⟨v, u, rfl, av, au⟩ := ha.two
  cases av.int_inv; cases au.int_inv
  obtain ⟨t, u', rfl⟩ := Vals.int2 rv
  split at h
  · rename_i hc
    simp only [Bool.and_eq_true, decide_eq_true_eq] at hc
    exact PySem.W.mc_comb hc.1 hc.2.1 (by omega) (.inr hc.2.2) fun _ => ⟨.int _, H, I.tok _, ⟨_, rfl⟩, h _ _ _ (.refl H ρ) r .mk_int⟩
  · exact False.elim h
theorem bi_fact : CallR X (.builtin "math.factorial") (rC P (biD .fact)) := by
  intro pins s σ H xs us Q I rv h
  obtain ⟨ρ, ds, S, r, ha, h⟩ := h
  unfold biD at h
  split at h <;> first | (rename_i q; cases q; done) | exact False.elim h | skip
  rename_i i
  obtain ⟨v, rfl, av⟩ := ha.one
  cases av.int_inv
  cases rv with
  | cons r1 rr =>
    cases rr
    obtain ⟨t, rfl⟩ := r1
    split at h
    · rename_i hc
      simp only [Bool.and_eq_true, decide_eq_true_eq] at hc
      exact PySem.W.mc_factorial hc.1 hc.2 fun _ => ⟨.int _, H, I.tok _, ⟨_, rfl⟩, h _ _ _ (.refl H ρ) r .mk_int⟩
    · exact False.elim h
theorem bi_repr (hK : P.K = X.K) (hg : X.A.guards = some []) (hu : X.A.units + 100 < cLine) : CallR X (.builtin "repr") (rC P (biD .repr)) := by
  intro pins s σ H xs us Q I rv h
  obtain ⟨ρ, ds, S, r, ha, h⟩ := h
  unfold biD at h
  split at h <;> first | (rename_i q; cases q; done) | exact False.elim h | skip
  rename_i d _
  obtain ⟨v, rfl, av⟩ := ha.one
  cases rv with
  | cons r1 rr =>
    cases rr
    rename_i u
    cases ep : toPs S d with
    | none => rw [ep] at h; exact False.elim h
    | some p =>
      rw [ep] at h
      have h : PostN P H ρ (relV P) (if p.showable && decide (p.shown.length ≤ sizeLine) then R.ok (.str p.shown) S else .bad) Q := h
      split at h
      · rename_i hc
        simp only [Bool.and_eq_true, decide_eq_true_eq] at hc
        obtain ⟨dp, sh⟩ := dps_of r av ep
        have q : Q (.str p.shown) H := h _ _ _ (.refl H ρ) r .mk_str
        obtain ⟨as, rd⟩ := Dp.reads I p v u (hK ▸ dp) r1
        cases rd with
        | none => exact PySem.P.repr_of_none ⟨.str _, H, I.tok _, ⟨_, rfl⟩, q⟩
        | bool b => exact PySem.P.repr_of_bool ⟨.str _, H, I.tok _, ⟨_, rfl⟩, q⟩
        | int i t => exact PySem.P.repr_of_int (by simpa [PyData.showable] using hc.1) ⟨.str _, H, I.tok _, ⟨_, rfl⟩, q⟩
        | str x t => exact PySem.P.repr_of_str ⟨.str _, H, I.tok _, ⟨_, rfl⟩, q⟩ (by simpa only [PyData.shown] using hc.2)
        | list h1 h2 h3 h4 =>
          exact repr_of_reads' (.list h1 h2 h3 h4) hc.1 (PyData.noDict_hsm (PyData.hasDict_of_canLay _ (SeqAt.canLay_of_shaped sh))) hg (by have := SeqAt.depth_of_shaped sh; omega) (fun _ _ e => e) (fun h' u' tk hk => ⟨.str _, H, I.kept hk, ⟨_, rfl⟩, q⟩) hc.2
        | tuple h1 h2 h3 h4 =>
          exact repr_of_reads' (.tuple h1 h2 h3 h4) hc.1 (PyData.noDict_hsm (PyData.hasDict_of_canLay _ (SeqAt.canLay_of_shaped sh))) hg (by have := SeqAt.depth_of_shaped sh; omega) (fun _ _ e => e) (fun h' u' tk hk => ⟨.str _, H, I.kept hk, ⟨_, rfl⟩, q⟩) hc.2
        | dict h1 h2 h3 h4 h5 =>
          have := SeqAt.canLay_of_shaped sh
          simp [PyData.canLay0] at this
      · exact False.elim h
theorem d_dct {pos : Pos} : PE X (.Dict [] [] pos) (rdE P fun _ S => .ok .dct S) := by
  refine PE.imp pe_dnewK fun σ H Q ⟨ρ, env, S, r, h⟩ => fun p hp => ?_
  have h : Post P σ H ρ (relV P) (R.ok D.dct S) Q := h
  exact h _ _ _ (step_new hp) (r.rep.newT hp) (.mk_dct upd_same)
end
end DL

end
section
set_option maxHeartbeats 4000000
/-! # DL: enumerate(tuple) -/
namespace PySem
open Builtin Builtin.Str
set_option maxHeartbeats 1000000 in
theorem dl_enumerate_new1 {v : Value} {o : Obj} {H : Heap → Prop} (B : Begins v o H) :
    Meets (Builtin.«enumerate.__new__» ⟨[.type "enumerate", v], []⟩) (fun _ R s => H s.heap ∧
      R (.ok (.ret (.ref (s.heap.push o).objs.size))) { s with heap := (s.heap.push o).push { cls := .type "enumerate", data := .fields #[.none, .bool false, .ref s.heap.objs.size, rawInt 0, .none, .none] } }) :=
  .of_wp fun prog w A R s h => by
    obtain ⟨hp, g, d, tk, os⟩ := s; obtain ⟨h1, h⟩ := h
    have hsub := sub_enumerate
    have q1 : ∀ {A' : Around} {E : Value → Shared → Prop} {Q : Value → Shared → Prop}, Q (.ref hp.objs.size) ⟨hp.push o, g, d, tk, os⟩ → wpAny (model prog w) A' (pyIter v) Q E ⟨hp, g, d, tk, os⟩ :=
      fun q => B.iter prog w _ _ ⟨hp, g, d, tk, os⟩ _ h1 q
    wp_walk using q1
    refine wpAny_stack_any fun st => wpAny_pure ?_
    split
    · rename_i c _ _ _ _ _
      cases (c == Value.type "enumerate")
      · wp_walk using q1
        exact ⟨_, rfl, h⟩
      · wp_walk using q1
        exact ⟨_, rfl, h⟩
    · wp_walk using q1
      exact ⟨_, rfl, h⟩
section
variable {prog : Program} {w : World} {A : Around} {E : Value → Shared → Prop} {s : Shared}
theorem dl_enum_begins1 {v : Value} {o : Obj} {H : Heap → Prop} {Q : Value → Shared → Prop} (B : Begins v o H) (h1 : H s.heap)
    (h : ∀ h', IsEnum h' (s.heap.objs.size + 1) s.heap.objs.size 0 .none → h'.get? s.heap.objs.size = some o → h'.objs.size = s.heap.objs.size + 2 →
      (∀ b o, s.heap.get? b = some o → h'.get? b = some o) → Q (.ref (s.heap.objs.size + 1)) { s with heap := h' }) :
    wpAny (model prog w) A (call (.type "enumerate") [v]) Q E s := by
  refine callType_new F.called_enumerate (by decide) (F.typeCall_enumerate_1 _) (F.newCall_enumerate_1 _) (fun obj => F.args_object_init_2 obj _) F.entry_enumerate_new
    (dl_enumerate_new1 B) ⟨h1, ?_⟩
  have hz : (s.heap.push o).objs.size = s.heap.objs.size + 1 := Heap.size_push ..
  show _ ∧ _
  rw [hz]
  have he : IsEnum ((s.heap.push o).push { cls := .type "enumerate", data := .fields #[.none, .bool false, .ref s.heap.objs.size, rawInt 0, .none, .none] }) (s.heap.objs.size + 1) s.heap.objs.size 0 .none := by
    have := Heap.get?_push_size (s.heap.push o) (o := { cls := .type "enumerate", data := .fields #[.none, .bool false, .ref s.heap.objs.size, rawInt 0, .none, .none] }) rfl
    rw [hz] at this; exact this
  refine ⟨⟨_, he, rfl⟩, h _ he (Heap.get?_push_of_some _ (Heap.get?_push_size _ B.free)) (by rw [Heap.size_push, hz]) fun b o' x => Heap.get?_push_of_some _ (Heap.get?_push_of_some _ x)⟩
end
end PySem
namespace DL
open PySem PySem.Spec PyProof.Rows L2
/-- the tuple at a, each item in a new pair -/
def IteT (K : PySem.W.Frag) (a : Addr) : L2.It :=
  ⟨fun i H => ∃ (xs : List V) (x : V), SqT K H a xs ∧ xs[i]? = some x, fun i H v H' => ∃ T x, v = .ref T ∧ H T = none ∧ H' = upd H T (.tup [.int (i : Nat), x]) ∧ ∀ xs, SqT K H a xs → xs[i]? = some x, fun i H => ∃ xs : List V, SqT K H a xs ∧ xs.length ≤ i⟩
theorem isTuple_of {h : Heap} {a : Addr} {its : Array Value} (p : IsTup h a its) : h.IsTuple a its := p
theorem turn_enumT {P : Program} {w : World} {K : PySem.W.Frag} {elts : List Expr} {kk : Nat} {tpos : Pos} (a e it : Addr) :
    Turn P w K (.Tuple elts kk tpos) (IteT K a) [e, it] e (fun i h => (∃ old, IsEnum h e it ((i : Nat) : Int) old) ∧ h.IsTupleIter it a i ∧ e ≠ it ∧ a ≠ it) where
  mem := by simp
  obj := fun i h st b hb => by
    obtain ⟨⟨old, he⟩, ⟨o, ho, hc, hd⟩, _⟩ := st
    have e' : b = e ∨ b = it := by simpa using hb
    rcases e' with z | z
    · rw [z]; exact ⟨_, he, fun v q => nomatch q⟩
    · rw [z]; exact ⟨o, ho, fun v q => by rw [hd] at q; cases q⟩
  keep := fun i h h' st k => let ⟨⟨old, he⟩, hi, hne, hna⟩ := st; ⟨⟨old, k e (by simp) _ he⟩, hi.at fun o q => k it (by simp) o q, hne, hna⟩
  item := by
    intro X hP hw hK hc i pins s σ H E I hf st hg
    subst hP hw hK
    obtain ⟨⟨old, he⟩, hit, hne, hna⟩ := st
    obtain ⟨xs, x, hq, hx⟩ := hg
    obtain ⟨its, rv, p, hz⟩ := I.tuple hq
    obtain ⟨u, hu, ru⟩ := rv.get hx
    have hel : e < s.heap.objs.size := Heap.lt_size he
    have hil : it < s.heap.objs.size := by obtain ⟨_, q, _⟩ := hit; exact Heap.lt_size q
    have hnea : e ≠ a := fun z => by
      obtain ⟨oa, hoa, hca, _⟩ := isTuple_of p
      rw [← z, he] at hoa; cases hoa; exact absurd (Value.type.inj hca) (by decide)
    have hilen : i < its.toArray.size := by
      have := (List.getElem?_eq_some_iff.mp hu).1
      simpa using this
    refine wpAny_pyNext_enum_itemD (Draws.tuple (A := X.A.in1) (I.ok.hd hc) it a hna its.toArray) he ⟨hit, isTuple_of p⟩ hilen hne (by simp only [List.mem_cons, List.not_mem_nil, or_false, not_or]; exact ⟨hne, hnea⟩) fun x' h' tk hx' ho hst' hT hsz hk => ?_
    obtain ⟨hit', _⟩ := hst'
    have ex : x' = u := by
      have h2 : its.toArray[i]? = some u := by simpa using hu
      rw [h2] at hx'; exact (Option.some.inj hx').symm
    subst ex
    refine ⟨_, rfl, wpAny_letOwnedTupleGo_enum (s := { s with heap := h', toks := tk + 1 }) ho fun h'' he' sb => ?_⟩
    have hT2 : h''.get? s.heap.objs.size = some { cls := .type "tuple", data := .seq #[.int i tk, x'] } := (sb.2 _ (Nat.ne_of_gt hel)).trans hT
    have new : ObjOk X.prog X.w (upd H s.heap.objs.size (.tup [.int (i : Nat), x])) h'' s.heap.objs.size (.tup [.int (i : Nat), x]) :=
      ⟨by show 2 ≤ sizeLine; decide, [.int i tk, x'], .cons ⟨_, rfl⟩ (.cons ru .nil), ⟨_, hT2, rfl, _, rfl⟩⟩
    have I1 : Inv X pins σ (upd H s.heap.objs.size (.tup [.int (i : Nat), x])) { s with heap := h'', toks := tk + 1 } :=
      I.turnedNew (ch := [e, it]) (fun b ob hb q => (sb.2 b (fun z => hb (by simp [z]))).trans (hk b ob (fun z => hb (by simp [z])) (fun z => hb (by simp [z])) q)) hf (Nat.le_refl _) new
    refine ⟨.ref s.heap.objs.size, _, I1, rfl, ⟨_, x, rfl, I.hok.fresh (Nat.le_refl _), rfl, fun ys hy => by rw [I.tuple_inj hy hq]; exact hx⟩, ⟨⟨x', ?_⟩, hit'.at fun o q => (sb.2 it (Ne.symm hne)).trans q, hne, hna⟩, fun b hb => ?_⟩
    · have e1 : ((i + 1 : Nat) : Int) = (i : Int) + 1 := by omega
      rw [e1]; exact he'
    · have hb' : b < s.heap.objs.size := by
        have e' : b = e ∨ b = it := by simpa using hb
        rcases e' with z | z
        · rw [z]; exact hel
        · rw [z]; exact hil
      rw [upd_ne (Nat.ne_of_lt hb')]
      exact (hf b hb).1
  done := by
    intro X hP hw hK hc i pins s σ H E I hf st hg
    subst hP hw hK
    obtain ⟨⟨old, he⟩, hit, hne, hna⟩ := st
    obtain ⟨xs, hq, hx⟩ := hg
    obtain ⟨its, rv, p, hz⟩ := I.tuple hq
    obtain ⟨f0, f1, f2, f3, f4, f5⟩ := hf it (by simp)
    have hl := rv.length
    have hT : s.TypeIs (.ref e) "enumerate" := ⟨_, he, rfl⟩
    unfold pyNext
    refine wpAny_bind (wpAny_attempt (wpAny_callSpecial?_slot (name := Str.ofString "__next__") hT F.slot_enumerate_next
      (wpAny_call_entry F.slot_enumerate_next hT F.entry_enumerate_next ?_ (F.args_enumerate_next_1 _))))
    show wpAny _ _ (field (.ref e) 2 >>= _) _ _ _
    refine wpAny_bind (wpAny_field he rfl (x := .ref it) rfl ?_)
    refine wpAny_bind (wpAny_nextOf_tuple_end (A := X.A.in1) (I.ok.hd hc) hit (isTuple_of p) (by simp; omega) fun h' x he' hx' => ?_)
    obtain ⟨o, ho, hcc⟩ := hx'
    refine wpAny_bind (wpAny_isInstance (T := "StopIteration") (b := true) ⟨o, ho, hcc⟩ isSubtype_stop ?_)
    exact wpAny_pure ⟨rfl, I.turned (t' := s.toks) (fun b o hb q => he' b o hb q) f0 f1 f3 f4 f5⟩
  self := fun A i s Q E st h => let ⟨⟨_, he⟩, _⟩ := st; wpAny_pyIter_enum he h
def iEnumA (K : PySem.W.Frag) (ta : TA) : TI := fun σ H R => ta σ H fun vs H1 => ∃ a xs, vs = [.ref a] ∧ ((SqL K H1 a xs ∧ R (Ite K a) H1) ∨ (SqT K H1 a xs ∧ R (IteT K a) H1))
theorem pi_enumA {X : Cx} {e : Expr} {ta : TA} {p pos tpos : Pos} {elts : List Expr} {kk : Nat} (hg : Gl X "enumerate") (hm : X.mg "enumerate" = none) (ha : PA X [e] ta) (hs : starEach [e] X.env = [(false, eval e X.env)]) :
    PI X (.Tuple elts kk tpos) (.Call (.Name "enumerate" p) [e] [] pos) (iEnumA X.K ta) := by
  refine ⟨fun pins s σ H R I h => ?_⟩
  refine Call_ (ld_blt I hg hm boot_enumerate (PyProof.Rows.callWith_type1 (thn (ha.run pos pins s σ H _ I h) fun us s1 ⟨vs, H1, I1, r1, q1⟩ => ?_) hs rfl))
  obtain ⟨a, xs, ex, q1⟩ := q1
  subst ex
  cases r1 with
  | cons r rr =>
    cases rr
    cases r
    have fp : ∀ b ∈ [s1.heap.objs.size + 1, s1.heap.objs.size], FpOk X pins H1 b := fun b hb => by
      have e' : b = s1.heap.objs.size + 1 ∨ b = s1.heap.objs.size := by simpa using hb
      have hle : s1.heap.objs.size ≤ b := by
        rcases e' with z | z
        · rw [z]; exact Nat.le_add_right _ _
        · rw [z]; exact Nat.le_refl _
      exact I1.fpOk hle (I1.hok.fresh hle)
    rcases q1 with ⟨hq, q⟩ | ⟨hq, q⟩
    · obtain ⟨its, rv, p', hz⟩ := I1.list hq
      refine call_enumerate_list p'.isList fun h' he hit hsz hk => wpAny_pyIter_enum he ?_
      have I2 : Inv X pins σ H1 { s1 with heap := h' } := I1.kept (t' := s1.toks) hk
      exact ⟨s1.heap.objs.size + 1, [s1.heap.objs.size + 1, s1.heap.objs.size], _, _, H1, rfl, I2, turn_enum a (s1.heap.objs.size + 1) s1.heap.objs.size, ⟨⟨.none, he⟩, hit, Nat.succ_ne_self _⟩, fp, q⟩
    · obtain ⟨its, rv, p', hz⟩ := I1.tuple hq
      have hal : a < s1.heap.objs.size := by obtain ⟨_, ho, _⟩ := isTuple_of p'; exact Heap.lt_size ho
      refine dl_enum_begins1 (begins_tuple a its.toArray) (isTuple_of p') fun h' he hit hsz hk => wpAny_pyIter_enum he ?_
      have I2 : Inv X pins σ H1 { s1 with heap := h' } := I1.kept (t' := s1.toks) hk
      exact ⟨s1.heap.objs.size + 1, [s1.heap.objs.size + 1, s1.heap.objs.size], _, _, H1, rfl, I2, turn_enumT a (s1.heap.objs.size + 1) s1.heap.objs.size, ⟨⟨.none, he⟩, ⟨_, hit, rfl, rfl⟩, Nat.succ_ne_self _, Nat.ne_of_lt hal⟩, fp, q⟩
end DL

end
section
set_option maxHeartbeats 4000000
/-! # DL, soundness 6: what is walked, targets, comprehensions -/
namespace DL
open PySem PySem.Spec PyProof.Rows L2

/-- an iterator gives these items, as long as its lists stay as they are -/
structure Serves (K : Frag) (J : L2.It) (H0 : Hp) (ρ0 : List Addr) (I : DL.It) : Prop where
  go : ∀ (i : Nat) H ρ S d, Step H0 ρ0 H ρ → Rep K H ρ S → It.still S I.dep = true → I.items[i]? = some d →
    J.go i H ∧ ∀ x H', J.yld i H x H' → Ext H H' ∧ Rep K H' ρ S ∧ At K H' ρ d x
  stop : ∀ (i : Nat) H ρ S, Step H0 ρ0 H ρ → Rep K H ρ S → It.still S I.dep = true → I.items.length ≤ i → J.stop i H
def rdI (P : Pm) (m : En → Store → R DL.It) : TI := fun σ H R => ∃ ρ env S, Rel P H ρ S σ env ∧ Post P σ H ρ (fun H' ρ' (I : DL.It) (J : L2.It) => Serves P.K J H' ρ' I) (m env S) R
theorem PI.imp {X : Cx} {tg e : Expr} {t t' : TI} (h : PI X tg e t) (i : ∀ σ H R, t' σ H R → t σ H R) : PI X tg e t' := ⟨fun pins s σ H R I q => h.run pins s σ H R I (i σ H R q)⟩

theorem still_cons {S : Store} {p : Nat × List D} {dep : List (Nat × List D)} (h : It.still S (p :: dep) = true) : S[p.1]? = some p.2 ∧ It.still S dep = true := by
  unfold It.still at h ⊢
  rw [List.all_cons, Bool.and_eq_true] at h
  refine ⟨?_, h.2⟩
  have h1 := h.1
  cases e : S[p.1]? with
  | none => rw [e] at h1; cases h1
  | some l => rw [e] at h1; rw [D.beqs_eq h1]
theorem still_app {S : Store} {a b : List (Nat × List D)} (h : It.still S (a ++ b) = true) : It.still S a = true ∧ It.still S b = true := by
  unfold It.still at h ⊢
  rw [List.all_append, Bool.and_eq_true] at h
  exact h
/-- a source of items: a list or tuple at an address -/
def Src (K : Frag) (H : Hp) (a : Addr) (xs : List V) : Prop := SqL K H a xs ∨ SqT K H a xs
/-- behind some steps the source still gives the items -/
theorem src_later {K : Frag} {H0 H : Hp} {ρ0 ρ : List Addr} {S0 S : Store} {d : D} {l : List D} {v : V} (r0 : Rep K H0 ρ0 S0) (a0 : At K H0 ρ0 d v) (e0 : items S0 d = some l) (st : Step H0 ρ0 H ρ) (r : Rep K H ρ S) (hs : It.still S (depOf S0 d) = true) :
    items S d = some l := by
  cases d <;> try exact e0
  rename_i n
  have e1 : S0[n]? = some l := e0
  have : depOf S0 (.ref n) = [(n, l)] := by simp only [depOf, e1]
  rw [this] at hs
  exact (still_cons hs).1
theorem items_sort {K : Frag} {H : Hp} {ρ : List Addr} {S : Store} {d : D} {l : List D} {v : V} (r : Rep K H ρ S) (h : At K H ρ d v) (e : items S d = some l) :
    (∃ a xs, v = .ref a ∧ SqL K H a xs ∧ AtL K H ρ l xs ∧ (∀ m, d ≠ .tup m)) ∨ (∃ a xs, v = .ref a ∧ SqT K H a xs ∧ AtL K H ρ l xs ∧ ∃ m, d = .tup m) := by
  cases d <;> simp only [items] at e <;> try cases e
  · obtain ⟨a, xs, rfl, s, q⟩ := h.tup_inv
    exact .inr ⟨a, xs, rfl, s, q, _, rfl⟩
  · obtain ⟨a, xs, rfl, s, q⟩ := h.fz_inv
    exact .inl ⟨a, xs, rfl, s.l, q, fun m e => by cases e⟩
  · obtain ⟨a, rfl, ea⟩ := h.ref_inv
    obtain ⟨b, xs, eb, hb, q⟩ := r.get e
    rw [ea] at eb; cases eb
    exact .inl ⟨a, xs, rfl, .of hb, q, fun m e => by cases e⟩
section
variable {K : Frag} {H0 : Hp} {ρ0 : List Addr} {S0 : Store} {d : D} {l : List D} {a : Addr}
theorem serves_l (r0 : Rep K H0 ρ0 S0) (a0 : At K H0 ρ0 d (.ref a)) (e0 : items S0 d = some l) (nt : ∀ m, d ≠ .tup m) : Serves K (Itl K a) H0 ρ0 ⟨l, depOf S0 d⟩ := by
  refine ⟨fun i H ρ S x st r hs hx => ?_, fun i H ρ S st r hs hi => ?_⟩
  · rcases items_sort r (a0.mono st) (src_later r0 a0 e0 st r hs) with ⟨b, xs, eb, sq, aq, _⟩ | ⟨_, _, _, _, _, m, em⟩
    · cases eb
      obtain ⟨v, ev, av⟩ := aq.get hx
      refine ⟨⟨xs, v, sq, ev⟩, fun y H' hy => ?_⟩
      obtain ⟨rfl, fy⟩ := hy
      have := fy xs sq
      rw [ev] at this; cases this
      exact ⟨.refl _, r, av⟩
    · exact absurd em (nt m)
  · rcases items_sort r (a0.mono st) (src_later r0 a0 e0 st r hs) with ⟨b, xs, eb, sq, aq, _⟩ | ⟨_, _, _, _, _, m, em⟩
    · cases eb
      exact ⟨xs, sq, by rw [← aq.length]; exact hi⟩
    · exact absurd em (nt m)
theorem serves_t (r0 : Rep K H0 ρ0 S0) (a0 : At K H0 ρ0 (.tup l) (.ref a)) : Serves K (Itt K a) H0 ρ0 ⟨l, []⟩ := by
  obtain ⟨b, xs, eb, sq, aq⟩ := a0.tup_inv
  cases eb
  refine ⟨fun i H ρ S x st r hs hx => ?_, fun i H ρ S st r hs hi => ?_⟩
  · obtain ⟨v, ev, av⟩ := (aq.mono st).get hx
    refine ⟨⟨xs, v, st.ext.sqT sq, ev⟩, fun y H' hy => ?_⟩
    obtain ⟨rfl, fy⟩ := hy
    have := fy xs (st.ext.sqT sq)
    rw [ev] at this; cases this
    exact ⟨.refl _, r, av⟩
  · exact ⟨xs, st.ext.sqT sq, by rw [← aq.length]; exact hi⟩
theorem serves_r (lo : Int) (n : Nat) : Serves K (Itr lo n) H0 ρ0 ⟨rangeL lo n, []⟩ := by
  refine ⟨fun i H ρ S x st r hs hx => ?_, fun i H ρ S st r hs hi => ?_⟩
  · unfold rangeL at hx
    rw [List.getElem?_map] at hx
    cases e : (List.range n)[i]? with
    | none => rw [e] at hx; cases hx
    | some j =>
      rw [e] at hx
      obtain ⟨hj, ej⟩ := List.getElem?_eq_some_iff.mp e
      rw [List.getElem_range] at ej
      rw [List.length_range] at hj
      subst ej
      cases hx
      refine ⟨hj, fun y H' hy => ?_⟩
      obtain ⟨rfl, rfl⟩ := hy
      exact ⟨.refl _, r, .mk_int⟩
  · show n ≤ i
    simpa [rangeL] using hi
theorem enum_get {l : List D} {i : Nat} {x : D} (h : (enumL l)[i]? = some x) : ∃ y, l[i]? = some y ∧ x = .tup [.int (i : Nat), y] := by
  unfold enumL at h
  rw [List.getElem?_mapIdx] at h
  cases e : l[i]? with
  | none => rw [e] at h; cases h
  | some y => rw [e] at h; cases h; exact ⟨y, rfl, rfl⟩
theorem at_pair {K : Frag} {H : Hp} {ρ : List Addr} {x y : D} {u v : V} {T : Addr} (hT : H T = none) (a : At K H ρ x u) (b : At K H ρ y v) : At K (upd H T (.tup [u, v])) ρ (.tup [x, y]) (.ref T) :=
  At.mk_tup (.of upd_same) (.cons (a.mono (step_new hT)) (.cons (b.mono (step_new hT)) .nil))
theorem serves_el (r0 : Rep K H0 ρ0 S0) (a0 : At K H0 ρ0 d (.ref a)) (e0 : items S0 d = some l) (nt : ∀ m, d ≠ .tup m) : Serves K (Ite K a) H0 ρ0 ⟨enumL l, depOf S0 d⟩ := by
  refine ⟨fun i H ρ S x st r hs hx => ?_, fun i H ρ S st r hs hi => ?_⟩
  · obtain ⟨y, ey, rfl⟩ := enum_get hx
    rcases items_sort r (a0.mono st) (src_later r0 a0 e0 st r hs) with ⟨b, xs, eb, sq, aq, _⟩ | ⟨_, _, _, _, _, m, em⟩
    · cases eb
      obtain ⟨v, ev, av⟩ := aq.get ey
      refine ⟨⟨xs, v, sq, ev⟩, fun z H' hz => ?_⟩
      obtain ⟨T, x', rfl, nT, rfl, fx⟩ := hz
      have := fx xs sq
      rw [ev] at this; cases this
      exact ⟨.new nT, r.newT nT, at_pair nT .mk_int av⟩
    · exact absurd em (nt m)
  · rcases items_sort r (a0.mono st) (src_later r0 a0 e0 st r hs) with ⟨b, xs, eb, sq, aq, _⟩ | ⟨_, _, _, _, _, m, em⟩
    · cases eb
      refine ⟨xs, sq, ?_⟩
      rw [← aq.length]
      simpa [enumL] using hi
    · exact absurd em (nt m)
theorem serves_et (r0 : Rep K H0 ρ0 S0) (a0 : At K H0 ρ0 (.tup l) (.ref a)) : Serves K (IteT K a) H0 ρ0 ⟨enumL l, []⟩ := by
  obtain ⟨b, xs, eb, sq, aq⟩ := a0.tup_inv
  cases eb
  refine ⟨fun i H ρ S x st r hs hx => ?_, fun i H ρ S st r hs hi => ?_⟩
  · obtain ⟨y, ey, rfl⟩ := enum_get hx
    obtain ⟨v, ev, av⟩ := (aq.mono st).get ey
    refine ⟨⟨xs, v, st.ext.sqT sq, ev⟩, fun z H' hz => ?_⟩
    obtain ⟨T, x', rfl, nT, rfl, fx⟩ := hz
    have := fx xs (st.ext.sqT sq)
    rw [ev] at this; cases this
    exact ⟨.new nT, r.newT nT, at_pair nT .mk_int av⟩
  · exact ⟨xs, st.ext.sqT sq, by rw [← aq.length]; simpa [enumL] using hi⟩
theorem zip_get {l m : List D} {i : Nat} {x : D} (h : (zipL l m)[i]? = some x) : ∃ y z, l[i]? = some y ∧ m[i]? = some z ∧ x = .tup [y, z] := by
  unfold zipL at h
  rw [List.getElem?_map] at h
  cases e : (l.zip m)[i]? with
  | none => rw [e] at h; cases h
  | some p =>
    rw [e] at h
    rw [List.getElem?_zip_eq_some] at e
    cases h
    exact ⟨p.1, p.2, e.1, e.2, rfl⟩
theorem serves_zl {d2 : D} {l2 : List D} {a2 : Addr} (r0 : Rep K H0 ρ0 S0) (a0 : At K H0 ρ0 d (.ref a)) (e0 : items S0 d = some l) (nt : ∀ m, d ≠ .tup m)
    (b0 : At K H0 ρ0 d2 (.ref a2)) (f0 : items S0 d2 = some l2) (nt2 : ∀ m, d2 ≠ .tup m) : Serves K (Itz K a a2) H0 ρ0 ⟨zipL l l2, depOf S0 d ++ depOf S0 d2⟩ := by
  refine ⟨fun i H ρ S x st r hs hx => ?_, fun i H ρ S st r hs hi => ?_⟩
  · obtain ⟨y, z, ey, ez, rfl⟩ := zip_get hx
    obtain ⟨hs1, hs2⟩ := still_app hs
    rcases items_sort r (a0.mono st) (src_later r0 a0 e0 st r hs1) with ⟨b, xs, eb, sq, aq, _⟩ | ⟨_, _, _, _, _, m, em⟩
    · rcases items_sort r (b0.mono st) (src_later r0 b0 f0 st r hs2) with ⟨b', ys, eb', sq', aq', _⟩ | ⟨_, _, _, _, _, m, em⟩
      · cases eb; cases eb'
        obtain ⟨v, ev, av⟩ := aq.get ey
        obtain ⟨u, eu, au⟩ := aq'.get ez
        refine ⟨⟨xs, ys, v, u, sq, sq', ev, eu⟩, fun w H' hw => ?_⟩
        obtain ⟨T, x1, x2, rfl, nT, rfl, f1, f2⟩ := hw
        have h1 := f1 xs sq
        rw [ev] at h1; cases h1
        have h2 := f2 ys sq'
        rw [eu] at h2; cases h2
        exact ⟨.new nT, r.newT nT, at_pair nT av au⟩
      · exact absurd em (nt2 m)
    · exact absurd em (nt m)
  · obtain ⟨hs1, hs2⟩ := still_app hs
    rcases items_sort r (a0.mono st) (src_later r0 a0 e0 st r hs1) with ⟨b, xs, eb, sq, aq, _⟩ | ⟨_, _, _, _, _, m, em⟩
    · rcases items_sort r (b0.mono st) (src_later r0 b0 f0 st r hs2) with ⟨b', ys, eb', sq', aq', _⟩ | ⟨_, _, _, _, _, m, em⟩
      · cases eb; cases eb'
        refine ⟨xs, ys, sq, sq', ?_⟩
        rw [← aq.length, ← aq'.length]
        have : (zipL l l2).length ≤ i := hi
        simp only [zipL, List.length_map, List.length_zip] at this
        omega
      · exact absurd em (nt2 m)
    · exact absurd em (nt m)
theorem serves_zt {l2 : List D} {a2 : Addr} (r0 : Rep K H0 ρ0 S0) (a0 : At K H0 ρ0 (.tup l) (.ref a)) (b0 : At K H0 ρ0 (.tup l2) (.ref a2)) : Serves K (RZ.ItzT K a a2) H0 ρ0 ⟨zipL l l2, []⟩ := by
  obtain ⟨b, xs, eb, sq, aq⟩ := a0.tup_inv
  cases eb
  obtain ⟨b, ys, eb, sq', aq'⟩ := b0.tup_inv
  cases eb
  refine ⟨fun i H ρ S x st r hs hx => ?_, fun i H ρ S st r hs hi => ?_⟩
  · obtain ⟨y, z, ey, ez, rfl⟩ := zip_get hx
    obtain ⟨v, ev, av⟩ := (aq.mono st).get ey
    obtain ⟨u, eu, au⟩ := (aq'.mono st).get ez
    refine ⟨⟨xs, ys, v, u, st.ext.sqT sq, st.ext.sqT sq', ev, eu⟩, fun w H' hw => ?_⟩
    obtain ⟨T, x1, x2, rfl, nT, rfl, f1, f2⟩ := hw
    have h1 := f1 xs (st.ext.sqT sq)
    rw [ev] at h1; cases h1
    have h2 := f2 ys (st.ext.sqT sq')
    rw [eu] at h2; cases h2
    exact ⟨.new nT, r.newT nT, at_pair nT av au⟩
  · refine ⟨xs, ys, st.ext.sqT sq, st.ext.sqT sq', ?_⟩
    rw [← aq.length, ← aq'.length]
    have : (zipL l l2).length ≤ i := hi
    simp only [zipL, List.length_map, List.length_zip] at this
    omega
end
section
variable {X : Cx} {P : Pm} {tg a b c e : Expr} {es elts : List Expr} {pos p p2 tpos : Pos} {kk : Nat} {m m1 m2 m3 : En → Store → R D} {ma mk : En → Store → R (List D)}
/-- over a list or a tuple (which one is said by the list's rule or the tuple's: both are tried by the value) -/
theorem PI.or {t t' : TI} (h : PI X tg e t) (h' : PI X tg e t') : PI X tg e (fun σ H R => t σ H R ∨ t' σ H R) :=
  ⟨fun pins s σ H R I q => q.elim (h.run pins s σ H R I) (h'.run pins s σ H R I)⟩
theorem AtL_nil_of {K : Frag} {H : Hp} {ρ : List Addr} {xs : List V} (h : AtL K H ρ [] xs) : xs = [] := by simpa only [AtL] using h
/-- e is walked as it is: a list, a tuple. Both readings share e's: by values -/
def iSeq (K : Frag) (te : TE) : TI := fun σ H R => te σ H fun x H1 => ∃ a, x = .ref a ∧ (((∃ xs, SqL K H1 a xs) ∧ R (Itl K a) H1) ∨ ((∃ xs, SqT K H1 a xs) ∧ R (Itt K a) H1))
theorem pi_seq {te : TE} (hl : PE X e te) : PI X tg e (iSeq X.K te) := by
  refine ⟨fun pins s σ H R I h => ?_⟩
  refine thn (hl.run pins s σ H _ I h) fun v s1 ⟨x, H1, I1, r1, q1⟩ => ?_
  obtain ⟨a, e, q⟩ := q1
  subst e
  cases r1
  rcases q with ⟨⟨xs, hq⟩, q⟩ | ⟨⟨xs, hq⟩, q⟩
  · obtain ⟨its, rv, p, hz⟩ := I1.list hq
    refine wpAny_pyIter_list p.isList ?_
    refine ⟨s1.heap.objs.size, [s1.heap.objs.size], _, _, H1, rfl, I1.kept (t' := s1.toks) fun b o e => Heap.get?_push_of_some _ e, turn_list a _, ⟨_, Heap.get?_push_size _ rfl, rfl, rfl⟩, fun b hb => ?_, q⟩
    have e : b = s1.heap.objs.size := by simpa using hb
    subst e
    exact I1.fpOk (Nat.le_refl _) (I1.hok.fresh (Nat.le_refl _))
  · obtain ⟨its, rv, p, hz⟩ := I1.tuple hq
    refine wpAny_pyIter_tuple (isTuple_of p) ?_
    refine ⟨s1.heap.objs.size, [s1.heap.objs.size], _, _, H1, rfl, I1.kept (t' := s1.toks) fun b o e => Heap.get?_push_of_some _ e, turn_tuple a _, ⟨_, Heap.get?_push_size _ rfl, rfl, rfl⟩, fun b hb => ?_, q⟩
    have e : b = s1.heap.objs.size := by simpa using hb
    subst e
    exact I1.fpOk (Nat.le_refl _) (I1.hok.fresh (Nat.le_refl _))
theorem d_seq (hK : P.K = X.K) (he : PE X e (rdE P m)) : PI X tg e (rdI P fun env S => (m env S).bind fun x S1 => match items S1 x with
    | some l => .ok ⟨l, depOf S1 x⟩ S1
    | none => .bad) := by
  refine PI.imp (pi_seq he) fun σ H R ⟨ρ, env, S, r, h⟩ => ?_
  refine ⟨ρ, env, S, r, h.bind fun x S1 ρ1 v H1 _ st1 q1 a1 h1 => ?_⟩
  cases e1 : items S1 x with
  | none => rw [e1] at h1; exact False.elim h1
  | some l =>
    rw [e1] at h1
    rcases items_sort q1 a1 e1 with ⟨a, xs, rfl, sq, aq, nt⟩ | ⟨a, xs, rfl, sq, aq, k, rfl⟩
    · exact ⟨a, rfl, .inl ⟨⟨xs, hK ▸ sq⟩, h1.done q1 (hK ▸ serves_l q1 a1 e1 nt)⟩⟩
    · cases e1
      exact ⟨a, rfl, .inr ⟨⟨xs, hK ▸ sq⟩, h1.done q1 (hK ▸ serves_t q1 a1)⟩⟩
theorem d_enum (hK : P.K = X.K) (hg : Gl X "enumerate") (hm : X.mg "enumerate" = none) (he : PE X e (rdE P m)) (hs : starEach [e] X.env = (false, eval e X.env) :: starEach [] X.env) : PI X (.Tuple elts kk tpos) (.Call (.Name "enumerate" p) [e] [] pos) (rdI P fun env S => (m env S).bind fun x S1 => match items S1 x with
    | some l => .ok ⟨enumL l, depOf S1 x⟩ S1
    | none => .bad) := by
  refine PI.imp (pi_enumA hg hm (pa_cons he pa_nil hs) hs) fun σ H RR ⟨ρ, env, S, r, h⟩ => ?_
  refine ⟨ρ, env, S, r, h.bind fun x S1 ρ1 v H1 e0 st1 q1 a1 h1 => ?_⟩
  cases e1 : items S1 x with
  | none => rw [e1] at h1; exact False.elim h1
  | some l =>
    rw [e1] at h1
    rcases items_sort q1 a1 e1 with ⟨a, xs, rfl, sq, aq, nt⟩ | ⟨a, xs, rfl, sq, aq, k, rfl⟩
    · exact ⟨a, xs, rfl, .inl ⟨hK ▸ sq, h1.done q1 (hK ▸ serves_el q1 a1 e1 nt)⟩⟩
    · cases e1
      exact ⟨a, xs, rfl, .inr ⟨hK ▸ sq, h1.done q1 (hK ▸ serves_et q1 a1)⟩⟩
theorem d_zip (hK : P.K = X.K) (hg : Gl X "zip") (hm : X.mg "zip" = none) (ha : PE X a (rdE P m1)) (hb : PE X b (rdE P m2)) (hs : starEach [a, b] X.env = (false, eval a X.env) :: starEach [b] X.env) (hs2 : starEach [b] X.env = (false, eval b X.env) :: starEach [] X.env) :
    PI X (.Tuple elts kk tpos) (.Call (.Name "zip" p) [a, b] [] pos) (rdI P fun env S => (m1 env S).bind fun x S1 => (m2 env S1).bind fun y S2 => match items S2 x, items S2 y with
    | some l, some m => if zipOk x y then .ok ⟨zipL l m, depOf S2 x ++ depOf S2 y⟩ S2 else .bad
    | _, _ => .bad) := by
  refine PI.imp (RZ.pi_zipA hg hm (pa_cons ha (pa_cons hb pa_nil hs2) hs) hs (by rw [hs2]; rfl)) fun σ H RR ⟨ρ, env, S, r, h⟩ => ?_
  refine ⟨ρ, env, S, r, h.bind fun x S1 ρ1 v H1 e0 st1 q1 a1 h1 => ?_⟩
  refine ⟨ρ1, env, S1, r.at st1 q1, h1.bind fun y S2 ρ2 u H2 e0 st2 q2 a2 h2 => ?_⟩
  have a1 := At.mono st2 a1
  cases e1 : items S2 x with
  | none => rw [e1] at h2; exact False.elim h2
  | some l =>
    cases e2 : items S2 y with
    | none => rw [e1, e2] at h2; exact False.elim h2
    | some k =>
      rw [e1, e2] at h2
      have h2 : Post P σ H2 ρ2 (fun H' ρ' (I : DL.It) (J : L2.It) => Serves P.K J H' ρ' I) (if zipOk x y then .ok ⟨zipL l k, depOf S2 x ++ depOf S2 y⟩ S2 else .bad) RR := h2
      split at h2
      · rename_i hz
        rcases items_sort q2 a1 e1 with ⟨a, xs, rfl, sq, aq, nt⟩ | ⟨a, xs, rfl, sq, aq, k1, rfl⟩
        · rcases items_sort q2 a2 e2 with ⟨a', ys, rfl, sq', aq', nt'⟩ | ⟨a', ys, rfl, sq', aq', k2, rfl⟩
          · exact ⟨a, a', xs, ys, rfl, .inl ⟨hK ▸ sq, hK ▸ sq', h2.done q2 (hK ▸ serves_zl q2 a1 e1 nt a2 e2 nt')⟩⟩
          · exfalso
            cases x <;> first | exact absurd rfl (nt _) | (simp [zipOk] at hz)
        · rcases items_sort q2 a2 e2 with ⟨a', ys, rfl, sq', aq', nt'⟩ | ⟨a', ys, rfl, sq', aq', k2, rfl⟩
          · exfalso
            cases y <;> first | exact absurd rfl (nt' _) | (simp [zipOk] at hz)
          · cases e1; cases e2
            exact ⟨a, a', xs, ys, rfl, .inr ⟨hK ▸ sq, hK ▸ sq', h2.done q2 (hK ▸ serves_zt q2 a1 a2)⟩⟩
      · exact False.elim h2
theorem d_range1 (hg : Gl X "range") (hm : X.mg "range" = none) (ha : PE X a (rdE P m)) (hs : starEach [a] X.env = (false, eval a X.env) :: starEach [] X.env) : PI X tg (.Call (.Name "range" p) [a] [] pos) (rdI P fun env S => (m env S).bind fun x S1 => match x with
    | .int j => if boundOk j then .ok ⟨rangeL 0 j.toNat, []⟩ S1 else .bad
    | _ => .bad) := by
  refine PI.imp (pi_range1 hg hm (pa_cons ha pa_nil hs) hs) fun σ H RR ⟨ρ, env, S, r, h⟩ => ?_
  refine ⟨ρ, env, S, r, h.bind fun x S1 ρ1 v H1 e0 st1 q1 a1 h1 => ?_⟩
  cases x with
  | int j =>
    cases At.int_inv a1
    have h1 : Post P σ H1 ρ1 (fun H' ρ' (I : DL.It) (J : L2.It) => Serves P.K J H' ρ' I) (if boundOk j then .ok ⟨rangeL 0 j.toNat, []⟩ S1 else .bad) RR := h1
    split at h1
    · rename_i hb
      simp only [boundOk_eq, Bool.and_eq_true, decide_eq_true_eq] at hb
      exact ⟨j, rfl, Int.le_of_lt hb.1, hb.2, h1.done q1 (serves_r 0 j.toNat)⟩
    · exact False.elim h1
  | _ => exact False.elim h1
theorem d_range2 (hg : Gl X "range") (hm : X.mg "range" = none) (ha : PE X a (rdE P m1)) (hb : PE X b (rdE P m2)) (hs : starEach [a, b] X.env = (false, eval a X.env) :: starEach [b] X.env) (hs2 : starEach [b] X.env = (false, eval b X.env) :: starEach [] X.env) :
    PI X tg (.Call (.Name "range" p) [a, b] [] pos) (rdI P fun env S => (m1 env S).bind fun x S1 => (m2 env S1).bind fun y S2 => match x, y with
    | .int i, .int j => if boundOk i && boundOk j then .ok ⟨rangeL i (j - i).toNat, []⟩ S2 else .bad
    | _, _ => .bad) := by
  refine PI.imp (pi_range2 hg hm (pa_cons ha (pa_cons hb pa_nil hs2) hs) (by rw [hs, hs2]; rfl) (by rw [hs2]; rfl)) fun σ H RR ⟨ρ, env, S, r, h⟩ => ?_
  refine ⟨ρ, env, S, r, h.bind fun x S1 ρ1 v H1 e0 st1 q1 a1 h1 => ?_⟩
  refine ⟨ρ1, env, S1, r.at st1 q1, h1.bind fun y S2 ρ2 u H2 e0 st2 q2 a2 h2 => ?_⟩
  cases x with
  | int i =>
    cases y with
    | int j =>
      cases At.int_inv a1
      cases At.int_inv a2
      have h2 : Post P σ H2 ρ2 (fun H' ρ' (I : DL.It) (J : L2.It) => Serves P.K J H' ρ' I) (if boundOk i && boundOk j then .ok ⟨rangeL i (j - i).toNat, []⟩ S2 else .bad) RR := h2
      split at h2
      · rename_i hb
        simp only [boundOk_eq, Bool.and_eq_true, decide_eq_true_eq] at hb
        exact ⟨i, j, rfl, ⟨Int.le_of_lt hb.1.1, hb.1.2, Int.le_of_lt hb.2.1, hb.2.2⟩, h2.done q2 (serves_r i _)⟩
      · exact False.elim h2
    | _ => exact False.elim h2
  | _ => exact False.elim h2
end
end DL

end
section
set_option maxHeartbeats 4000000
/-! # DL, soundness 7: targets, comprehensions, statements -/
namespace DL
open PySem PySem.Spec PyProof.Rows L2

/-! ### targets of loops -/
mutual
def Tg.ix : Tg → List Nat
  | .name i => [i]
  | .tup ts => Tg.ixs ts
def Tg.ixs : List Tg → List Nat
  | [] => []
  | t :: ts => Tg.ix t ++ Tg.ixs ts
end
/-- slots elsewhere stay -/
def Off (ix : List Nat) (σ σ' : L2.St) : Prop := σ'.length = σ.length ∧ ∀ j : Nat, j ∉ ix → σ'[j]? = σ[j]?
def PutOk (K : Frag) (g : TG) (tg : Tg) : Prop := ∀ H ρ S env env' σ d v (Q : L2.St → Hp → Prop), Rep K H ρ S → EnvR K H ρ env σ → At K H ρ d v → Tg.put S tg d env = some env' →
  (∀ σ', EnvR K H ρ env' σ' → Off tg.ix σ σ' → Q σ' H) → g v σ H Q
def PutsOk (K : Frag) (g : TGs) (ts : List Tg) : Prop := ∀ H ρ S env env' σ ds vs (Q : L2.St → Hp → Prop), Rep K H ρ S → EnvR K H ρ env σ → AtL K H ρ ds vs → Tg.puts S ts ds env = some env' →
  (∀ σ', EnvR K H ρ env' σ' → Off (Tg.ixs ts) σ σ' → Q σ' H) → g vs σ H Q
theorem put_name {K : Frag} (i : Nat) : PutOk K (gName i) (.name i) := by
  intro H ρ S env env' σ d v Q r e a h k
  have h : some (env.set i (some d)) = some env' := by simpa only [Tg.put] using h
  cases h
  refine k _ (e.set a) ⟨List.length_set, fun j hj => ?_⟩
  have : j ≠ i := by simpa [Tg.ix] using hj
  exact List.getElem?_set_ne (Ne.symm this)
theorem puts_nil {K : Frag} : PutsOk K gNil [] := by
  intro H ρ S env env' σ ds vs Q r e a h k
  cases ds with
  | nil =>
    have h : some env = some env' := by simpa only [Tg.puts] using h
    cases h
    exact ⟨AtL_nil_of a, k σ e ⟨rfl, fun _ _ => rfl⟩⟩
  | cons d ds => simp only [Tg.puts] at h; cases h
theorem puts_cons {K : Frag} {g : TG} {u : TGs} {t : Tg} {ts : List Tg} (h1 : PutOk K g t) (h2 : PutsOk K u ts) : PutsOk K (gCons g u) (t :: ts) := by
  intro H ρ S env env' σ ds vs Q r e a h k
  cases ds with
  | nil => simp only [Tg.puts] at h; cases h
  | cons d ds =>
    obtain ⟨v, rr, rfl, av, ar⟩ := a.inv
    simp only [Tg.puts] at h
    cases e1 : Tg.put S t d env with
    | none => rw [e1] at h; cases h
    | some env1 =>
      rw [e1] at h
      refine ⟨v, rr, rfl, h1 H ρ S env env1 σ d v _ r e av e1 fun σ1 q1 o1 => ?_⟩
      refine h2 H ρ S env1 env' σ1 ds rr Q r q1 ar h fun σ2 q2 o2 => k σ2 q2 ⟨o2.1.trans o1.1, fun j hj => ?_⟩
      have : j ∉ t.ix ∧ j ∉ Tg.ixs ts := by simpa [Tg.ixs] using hj
      exact (o2.2 j this.2).trans (o1.2 j this.1)
theorem PG.or {X : Cx} {tg : Expr} {g g' : TG} (h : PG X tg g) (h' : PG X tg g') : PG X tg (fun v σ H Q => g v σ H Q ∨ g' v σ H Q) :=
  ⟨fun pins s σ H v u Q I r q => q.elim (h.run pins s σ H v u Q I r) (h'.run pins s σ H v u Q I r)⟩
def gSeq (K : Frag) (n : Nat) (t : TGs) : TG := fun v σ H Q => gTup K n t v σ H Q ∨ gUnl K n t v σ H Q
theorem pg_seq {X : Cx} {es : List Expr} {k : Nat} {pos : Pos} {t : TGs} {n : Nat} (hc : X.calm = true) (h : PGs X es t)
    (hn : (assignEach es X.env).length = n) (hst : (assignEach es X.env).findIdx? (·.1) = none) : PG X (.Tuple es k pos) (gSeq X.K n t) := PG.or (pg_tup hc h hn hst) (pg_unl hc h hn hst)
theorem puts_len {S : Store} : ∀ {ts : List Tg} {l : List D} {env env' : En}, Tg.puts S ts l env = some env' → l.length = ts.length
  | [], [], _, _, _ => rfl
  | [], _ :: _, _, _, h => by simp only [Tg.puts] at h; cases h
  | _ :: _, [], _, _, h => by simp only [Tg.puts] at h; cases h
  | t :: ts, d :: l, env, env', h => by
    simp only [Tg.puts] at h
    cases e1 : Tg.put S t d env with
    | none => rw [e1] at h; cases h
    | some env1 => rw [e1] at h; simp [puts_len h]
theorem put_tup {K : Frag} {u : TGs} {ts : List Tg} (h2 : PutsOk K u ts) : PutOk K (gSeq K ts.length u) (.tup ts) := by
  intro H ρ S env env' σ d v Q r e a h k
  simp only [Tg.put] at h
  cases e1 : items S d with
  | none => rw [e1] at h; cases h
  | some l =>
    rw [e1] at h
    obtain ⟨p, xs, rfl, s, q⟩ := items_inv r a e1
    have hl := puts_len h
    have fin := h2 H ρ S env env' σ l xs Q r e q h (by simpa only [Tg.ix] using k)
    rcases s with s | s
    · exact .inr ⟨p, xs, rfl, s, by rw [← q.length]; exact hl, fin⟩
    · exact .inl ⟨p, xs, rfl, s, by rw [← q.length]; exact hl, fin⟩
/-! ### forgetting a block's own names -/
theorem wipe_get (σ : L2.St) : ∀ (vs : List Nat) (j : Nat), (wipe σ vs)[j]? = if j ∈ vs then (if j < σ.length then some none else none) else σ[j]?
  | [], j => by simp [wipe]
  | v :: vs, j => by
    unfold wipe
    by_cases hv : v = j
    · subst hv
      by_cases hl : v < σ.length
      · rw [List.getElem?_set_self (by rw [wipe_length]; exact hl), if_pos List.mem_cons_self, if_pos hl]
      · rw [List.getElem?_eq_none (by rw [List.length_set, wipe_length]; omega), if_pos List.mem_cons_self, if_neg hl]
    · rw [List.getElem?_set_ne hv, wipe_get σ vs j]
      have : (j ∈ v :: vs) ↔ j ∈ vs := by simp [Ne.symm hv]
      by_cases hm : j ∈ vs
      · rw [if_pos hm, if_pos (this.mpr hm)]
      · rw [if_neg hm, if_neg fun z => hm (this.mp z)]
theorem wipe_off {σ σ' : L2.St} {ix vs : List Nat} (o : Off ix σ σ') (h : ∀ j ∈ ix, j ∈ vs) : wipe σ' vs = wipe σ vs := by
  apply List.ext_getElem?
  intro j
  rw [wipe_get, wipe_get, o.1]
  by_cases hm : j ∈ vs
  · rw [if_pos hm, if_pos hm]
  · rw [if_neg hm, if_neg hm]
    exact o.2 j fun z => hm (h j z)
theorem wipe_wipe (σ : L2.St) (vs : List Nat) : wipe (wipe σ vs) vs = wipe σ vs := by
  apply List.ext_getElem?
  intro j
  rw [wipe_get, wipe_get, wipe_length]
  by_cases hm : j ∈ vs
  · rw [if_pos hm, if_pos hm]
  · rw [if_neg hm, if_neg hm]
theorem wipeD_length (env : En) : ∀ vs : List Nat, (wipeD env vs).length = env.length
  | [] => rfl
  | v :: vs => by unfold wipeD; rw [List.length_set, wipeD_length env vs]
theorem EnvR.wipe {K : Frag} {H : Hp} {ρ : List Addr} {env : En} {σ : L2.St} (e : EnvR K H ρ env σ) : ∀ vs : List Nat, EnvR K H ρ (wipeD env vs) (L2.wipe σ vs)
  | [] => e
  | v :: vs => by
    have ih := e.wipe vs
    unfold wipeD L2.wipe
    refine ⟨by rw [List.length_set, List.length_set]; exact ih.1, fun i d q => ?_⟩
    by_cases hi : v = i
    · subst hi
      by_cases hl : v < (wipeD env vs).length
      · rw [List.getElem?_set_self hl] at q; cases q
      · rw [List.getElem?_eq_none (by rw [List.length_set]; omega)] at q; cases q
    · rw [List.getElem?_set_ne hi] at q ⊢
      exact ih.2 i d q
/-- nothing is wished of an exception -/
def Pm.shut (P : Pm) : Pm := { P with W := fun _ _ _ _ => False }
theorem post_cases {P : Pm} {σ : L2.St} {H : Hp} {ρ : List Addr} {α β : Type} {rel : Hp → List Addr → α → β → Prop} {r : R α} {Q : β → Hp → Prop} (h : ∃ a S, r = .ok a S ∧ ∀ ρ' v H', Step H ρ H' ρ' → Rep P.K H' ρ' S → rel H' ρ' a v → Q v H') : Post P σ H ρ rel r Q := by
  obtain ⟨a, S, rfl, h⟩ := h
  exact h
section
variable {X : Cx} {P : Pm} {tg iter elt a b c e : Expr} {ifs es elts : List Expr} {pos p p2 tpos : Pos} {kk : Nat} {scope : Scope} {own : List (Str × Nat)} {m m1 m2 : En → Store → R D} {mi : En → Store → R DL.It} {mt : En → Store → R Bool} {g : TG} {t : Tg}
theorem lc_imp {hK : P.K = X.K} (hj : ∀ σ, P.Js σ) (pg : PutOk X.K g t) (hown : ∀ j ∈ t.ix, j ∈ own.map (·.2)) {σ : L2.St} {H : Hp} {Q : VK}
    (h : rdE P (fun env S => (mi env S).bind fun I S1 => lcLoop S1.length I.dep m mt t (wipeD env (own.map (·.2))) I.items (S1 ++ [[]])) σ H Q) :
    tLc (rdI P mi) g (rdT P.shut mt) (rdE P.shut m) (own.map (·.2)) σ H Q := by
  obtain ⟨ρ, env, S, r, h⟩ := h
  refine ⟨ρ, env, S, r, h.bind fun I S1 ρ1 J H1 _ st1 q1 sv h1 => ?_⟩
  intro D hD
  have qD : Rep P.K (upd H1 D (.lst [])) (ρ1 ++ [D]) (S1 ++ [[]]) := q1.newL hD .nil
  have stD : Step H1 ρ1 (upd H1 D (.lst [])) (ρ1 ++ [D]) := step_newL hD
  have eD : (ρ1 ++ [D])[S1.length]? = some D := by rw [← q1.len]; exact List.getElem?_concat_length
  refine ⟨fun i n H => i + n = I.items.length ∧ ∃ ρ S, Step (upd H1 D (.lst [])) (ρ1 ++ [D]) H ρ ∧ Rep P.K H ρ S ∧ Post P σ H ρ (relV P) (lcLoop S1.length I.dep m mt t (wipeD env (own.map (·.2))) (I.items.drop i) S) Q,
    ⟨I.items.length, by omega, _, _, .refl _ _, qD, Post.step stD h1⟩, fun i n H2 ⟨hn, ρ2, S2, st2, q2, h2⟩ => ?_⟩
  have stT : Step H1 ρ1 H2 ρ2 := stD.trans st2
  have eD2 : ρ2[S1.length]? = some D := pre_get st2.pre eD
  by_cases hi : i < I.items.length
  · have hd : I.items.drop i = I.items[i] :: I.items.drop (i + 1) := List.drop_eq_getElem_cons hi
    rw [hd] at h2
    have h2 : Post P σ H2 ρ2 (relV P) (if It.still S2 I.dep then match Tg.put S2 t I.items[i] (wipeD env (own.map (·.2))) with
      | some env' => match mt env' S2 with
        | .ok true S1' => match m env' S1' with
          | .ok y S2' => match S2'[S1.length]? with
            | some acc => if acc.length < PySem.sizeLine then lcLoop S1.length I.dep m mt t (wipeD env (own.map (·.2))) (I.items.drop (i + 1)) (setAt S2' S1.length (acc ++ [y])) else .bad
            | _ => .bad
          | _ => .bad
        | .ok false S1' => lcLoop S1.length I.dep m mt t (wipeD env (own.map (·.2))) (I.items.drop (i + 1)) S1'
        | _ => .bad
      | none => .bad
    else .bad) Q := h2
    split at h2
    · rename_i hst
      obtain ⟨go, yl⟩ := sv.go i H2 ρ2 S2 I.items[i] stT q2 hst (List.getElem?_eq_getElem hi)
      refine .inr ⟨go, fun H' => i + 1 + (n - 1) = I.items.length ∧ ∃ ρ S, Step (upd H1 D (.lst [])) (ρ1 ++ [D]) H' ρ ∧ Rep P.K H' ρ S ∧ Post P σ H' ρ (relV P) (lcLoop S1.length I.dep m mt t (wipeD env (own.map (·.2))) (I.items.drop (i + 1)) S) Q,
        fun H' hN => ⟨n - 1, by omega, hN⟩, fun x H3 hy => ?_⟩
      obtain ⟨ex3, q3, a3⟩ := yl x H3 hy
      have st3 : Step H2 ρ2 H3 ρ2 := ⟨ex3, List.prefix_refl ρ2⟩
      have ev3 : EnvR P.K H3 ρ2 (wipeD env (own.map (·.2))) (wipe σ (own.map (·.2))) := ((r.env.mono (st1.trans stT)).wipe _).mono st3
      cases e1 : Tg.put S2 t I.items[i] (wipeD env (own.map (·.2))) with
      | none => rw [e1] at h2; exact False.elim h2
      | some env' =>
        rw [e1] at h2
        dsimp only at h2
        refine pg H3 ρ2 S2 _ env' _ _ x _ (hK ▸ q3) (hK ▸ ev3) (hK ▸ a3) e1 fun σ4 ev4 off => ?_
        refine ⟨(wipe_off off hown).trans (wipe_wipe σ _), ρ2, env', S2, ⟨q3, hK ▸ ev4, P.jm _ _ _ _ ((st1.trans stT).trans st3) r.j, hj _⟩, ?_⟩
        cases e2 : mt env' S2 with
        | ex _ _ _ => rw [e2] at h2; exact False.elim h2
        | bad => rw [e2] at h2; exact False.elim h2
        | ok k S3 =>
          rw [e2] at h2
          intro ρ4 k' H4 st4 q4 ek
          have ek : k = k' := ek
          subst ek
          have st24 : Step H2 ρ2 H4 ρ4 := st3.trans st4
          cases k with
          | false => exact ⟨by omega, ρ4, S3, st2.trans st24, q4, Post.step st24 h2⟩
          | true =>
            show rdE P.shut m σ4 H4 _
            refine ⟨ρ4, env', S3, ⟨q4, (hK ▸ ev4 : EnvR P.K _ _ _ _).mono st4, P.jm _ _ _ _ ((st1.trans stT).trans st24) r.j, hj _⟩, ?_⟩
            have h2 : Post P σ H2 ρ2 (relV P) (match m env' S3 with
              | .ok y S2' => match S2'[S1.length]? with
                | some acc => if acc.length < PySem.sizeLine then lcLoop S1.length I.dep m mt t (wipeD env (own.map (·.2))) (I.items.drop (i + 1)) (setAt S2' S1.length (acc ++ [y])) else .bad
                | _ => .bad
              | _ => .bad) Q := h2
            cases e3 : m env' S3 with
            | ex _ _ _ => rw [e3] at h2; exact False.elim h2
            | bad => rw [e3] at h2; exact False.elim h2
            | ok y S4 =>
              rw [e3] at h2
              intro ρ5 yv H5 st5 q5 ay
              have st25 : Step H2 ρ2 H5 ρ5 := st24.trans st5
              have eD5 : ρ5[S1.length]? = some D := pre_get st25.pre eD2
              have h2 : Post P σ H2 ρ2 (relV P) (match S4[S1.length]? with
                | some acc => if acc.length < PySem.sizeLine then lcLoop S1.length I.dep m mt t (wipeD env (own.map (·.2))) (I.items.drop (i + 1)) (setAt S4 S1.length (acc ++ [y])) else .bad
                | _ => .bad) Q := h2
              cases e4 : S4[S1.length]? with
              | none => rw [e4] at h2; exact False.elim h2
              | some acc =>
                rw [e4] at h2
                obtain ⟨D', xs, eD', hx, ax⟩ := q5.get e4
                have eD' : ρ5[S1.length]? = some D' := eD'
                rw [eD5] at eD'; cases eD'
                have h2 : Post P σ H2 ρ2 (relV P) (if acc.length < PySem.sizeLine then lcLoop S1.length I.dep m mt t (wipeD env (own.map (·.2))) (I.items.drop (i + 1)) (setAt S4 S1.length (acc ++ [y])) else .bad) Q := h2
                split at h2
                · rename_i hz
                  have ay : At P.K H5 ρ5 y yv := ay
                  have ax : AtL P.K H5 ρ5 acc xs := ax
                  have q5 : Rep P.K H5 ρ5 S4 := q5
                  refine ⟨xs, hx, by rw [← ax.length]; exact hz, by omega, ρ5, _, st2.trans (st25.trans ⟨.wr hx, List.prefix_refl ρ5⟩), q5.wr eD5 hx (ax.append (.cons ay .nil)), Post.step (st25.trans ⟨.wr hx, List.prefix_refl ρ5⟩) h2⟩
                · exact False.elim h2
    · exact False.elim h2
  · have hd : I.items.drop i = [] := List.drop_eq_nil_of_le (by omega)
    rw [hd] at h2
    have h2 : Post P σ H2 ρ2 (relV P) (if It.still S2 I.dep then .ok (.ref S1.length) S2 else .bad) Q := h2
    split at h2
    · rename_i hst
      exact .inl ⟨sv.stop i H2 ρ2 S2 stT q2 hst (by omega), h2.done q2 (At.mk_ref eD2)⟩
    · exact False.elim h2
abbrev mLc (mi : En → Store → R DL.It) (m : En → Store → R D) (mt : En → Store → R Bool) (t : Tg) (own : List Nat) : En → Store → R D := fun env S => (mi env S).bind fun I S1 => lcLoop S1.length I.dep m mt t (wipeD env own) I.items (S1 ++ [[]])
theorem d_lc (hK : P.K = X.K) (hj : ∀ σ, P.Js σ) (hc : X.calm = true) (hN : X.N.Nodup) (hi : PI X tg iter (rdI P mi)) (ok : BlkOk X.N X.env.scope scope own) (pg : PutOk X.K g t) (hown : ∀ j ∈ t.ix, j ∈ own.map (·.2))
    (hg : ∀ (s : Shared) (H : Hp) (C : Addr) (cl : List (Str × Addr)) (fp : List Addr), PG (X.blk s H scope (compEnvC scope cl C X.env) fp) tg g) (ht : ∀ (s : Shared) (H : Hp) (C : Addr) (cl : List (Str × Addr)) (fp : List Addr), PTs (X.blk s H scope (compEnvC scope cl C X.env) fp) ifs (rdT P.shut mt))
    (he : ∀ (s : Shared) (H : Hp) (C : Addr) (cl : List (Str × Addr)) (fp : List Addr), PE (X.blk s H scope (compEnvC scope cl C X.env) fp) elt (rdE P.shut m)) (hs : ∀ x, foldedSetIterable iter X.env x = pure x) :
    PE X (.ListComp elt [⟨tg, iter, ifs, 0⟩] scope pos) (rdE P (mLc mi m mt t (own.map (·.2)))) :=
  PE.imp (pe_lc hc hN hi ok hg ht he hs) fun σ H Q h => lc_imp (hK := hK) hj pg hown h
end
end DL

end
section
set_option maxHeartbeats 4000000
/-! # DL, soundness 8: statements -/
namespace DL
open PySem PySem.Spec PyProof.Rows L2
theorem PS.imp {X : Cx} {st : Stmt} {t t' : TS} (h : PS X st t) (i : ∀ D σ H, t' D σ H → t D σ H) : PS X st t' := ⟨fun pins s σ H D I q => h.run pins s σ H D I (i D σ H q)⟩
theorem PSs.imp {X : Cx} {st : List Stmt} {t t' : TS} (h : PSs X st t) (i : ∀ D σ H, t' D σ H → t D σ H) : PSs X st t' := ⟨fun pins s σ H D I q => h.run pins s σ H D I (i D σ H q)⟩
theorem PG.imp {X : Cx} {tg : Expr} {t t' : TG} (h : PG X tg t) (i : ∀ v σ H Q, t' v σ H Q → t v σ H Q) : PG X tg t' := ⟨fun pins s σ H v u Q I r q => h.run pins s σ H v u Q I r (i v σ H Q q)⟩
theorem PGs.imp {X : Cx} {tg : List Expr} {t t' : TGs} (h : PGs X tg t) (i : ∀ v σ H Q, t' v σ H Q → t v σ H Q) : PGs X tg t' := ⟨fun pins s σ H v u Q I r q => h.run pins s σ H v u Q I r (i v σ H Q q)⟩

section
variable (P : Pm) (H : Hp) (ρ : List Addr)
def NxP (env : En) (S' : Store) (N : L2.St → Hp → Prop) : Prop := ∀ ρ' σ' H', Step H ρ H' ρ' → Rep P.K H' ρ' S' → EnvR P.K H' ρ' env σ' → N σ' H'
def PostS (r : RS) (D : Ends) : Prop := match r with
  | .nx env S' => NxP P H ρ env S' D.nx
  | .bk env S' => NxP P H ρ env S' D.bk
  | .ct env S' => NxP P H ρ env S' D.ct
  | .rt d S' => ∀ ρ' v H', Step H ρ H' ρ' → Rep P.K H' ρ' S' → At P.K H' ρ' d v → D.rt v H'
  | .ex c as env S' => ∀ ρ' σ' cls dd H', Step H ρ H' ρ' → Rep P.K H' ρ' S' → EnvR P.K H' ρ' env σ' → P.XA c as H' ρ' cls dd → P.W cls dd σ' H'
  | .bad => False
end
def rdS (P : Pm) (m : En → Store → RS) : TS := fun D σ H => ∃ ρ env S, Rel P H ρ S σ env ∧ PostS P H ρ (m env S) D
section
variable {P : Pm} {H H1 : Hp} {ρ ρ1 : List Addr} {σ : L2.St}
theorem NxP.step {env : En} {S' : Store} {N : L2.St → Hp → Prop} (st : Step H ρ H1 ρ1) (h : NxP P H ρ env S' N) : NxP P H1 ρ1 env S' N := fun ρ' σ' H' s r e => h ρ' σ' H' (st.trans s) r e
theorem PostS.step {r : RS} {D : Ends} (st : Step H ρ H1 ρ1) (h : PostS P H ρ r D) : PostS P H1 ρ1 r D := by
  cases r with
  | nx env S => exact NxP.step st h
  | bk env S => exact NxP.step st h
  | ct env S => exact NxP.step st h
  | rt d S => exact fun ρ' v H' s r e => h ρ' v H' (st.trans s) r e
  | ex c as env S => exact fun ρ' σ' cls dd H' s r e x => h ρ' σ' cls dd H' (st.trans s) r e x
  | bad => exact h
theorem NxP.done {env : En} {S : Store} {N : L2.St → Hp → Prop} (h : NxP P H ρ env S N) (r : Rep P.K H ρ S) (e : EnvR P.K H ρ env σ) : N σ H := h ρ σ H (.refl H ρ) r e
/-- an expression, then the rest of the statement -/
theorem PostS.bind {α β : Type} {rel : Hp → List Addr → α → β → Prop} {r : R α} {env : En} {f : α → Store → RS} {D : Ends} {Φ : β → Hp → Prop} (ev : EnvR P.K H ρ env σ) (h : PostS P H ρ (r.thenS env f) D)
    (k : ∀ a S1 ρ1 v H1, r = .ok a S1 → Step H ρ H1 ρ1 → Rep P.K H1 ρ1 S1 → rel H1 ρ1 a v → PostS P H1 ρ1 (f a S1) D → Φ v H1) : Post P σ H ρ rel r Φ := by
  cases r with
  | ok a S' => exact fun ρ' v H' s q e => k a S' ρ' v H' rfl s q e (PostS.step s h)
  | ex c as S' => exact fun ρ' cls dd H' s q x => h ρ' σ cls dd H' s q (ev.mono s) x
  | bad => exact h
/-- the ends change -/
theorem PostS.ends {r : RS} {D D' : Ends} (h : PostS P H ρ r D) (h1 : ∀ env S, r = .nx env S → NxP P H ρ env S D'.nx) (h2 : ∀ env S, r = .bk env S → NxP P H ρ env S D'.bk) (h3 : ∀ env S, r = .ct env S → NxP P H ρ env S D'.ct)
    (h4 : ∀ d S, r = .rt d S → ∀ ρ' v H', Step H ρ H' ρ' → Rep P.K H' ρ' S → At P.K H' ρ' d v → D'.rt v H') : PostS P H ρ r D' := by
  cases r with
  | nx env S => exact h1 env S rfl
  | bk env S => exact h2 env S rfl
  | ct env S => exact h3 env S rfl
  | rt d S => exact h4 d S rfl
  | ex c as env S => exact h
  | bad => exact h
end
/-! ### targets of assignments -/
def rdG (P : Pm) (m : D → En → Store → RS) : TG := fun v σ H Q => ∃ ρ env S d, Rel P H ρ S σ env ∧ At P.K H ρ d v ∧ PostS P H ρ (m d env S) ⟨Q, fun _ _ => False, fun _ _ => False, fun _ _ => False⟩
def rdGs (P : Pm) (m : List D → En → Store → RS) : TGs := fun vs σ H Q => ∃ ρ env S ds, Rel P H ρ S σ env ∧ AtL P.K H ρ ds vs ∧ PostS P H ρ (m ds env S) ⟨Q, fun _ _ => False, fun _ _ => False, fun _ _ => False⟩
section
variable {X : Cx} {P : Pm} {tg iter elt a b c e o : Expr} {ifs es elts : List Expr} {body els : List Stmt} {sts : List Stmt} {st : Stmt} {pos p p2 tpos : Pos} {kk : Nat} {m m1 m2 : En → Store → R D} {mi : En → Store → R DL.It} {ms mb mc : En → Store → RS} {g : TG} {t : Tg} {x : Str} {i : Nat}
theorem g_name (hN : X.N.Nodup) (hi : X.N[i]? = some x) (hx : Loc X.env.scope x) (hf : X.fn x = true ∨ X.env.scope.names.lookup x = some .local) : PG X (.Name x pos) (rdG P fun d env S => .nx (env.set i (some d)) S) := by
  refine PG.imp (pg_name hN hi hx hf) fun v σ H Q ⟨ρ, env, S, d, r, a, h⟩ => ?_
  exact NxP.done h r.rep (r.env.set a)
theorem g_nil : PGs X [] (rdGs P fun ds env S => match ds with | [] => .nx env S | _ => .bad) := by
  refine PGs.imp pgs_nil fun vs σ H Q ⟨ρ, env, S, ds, r, a, h⟩ => ?_
  cases ds with
  | nil => exact ⟨AtL_nil_of a, NxP.done h r.rep r.env⟩
  | cons d ds => exact False.elim h
theorem seq_post {H : Hp} {ρ : List Addr} {r : RS} {f : En → Store → RS} {D D' : Ends} (h : PostS P H ρ (r.seq f) D) (hb : D.bk = D'.bk) (hc : D.ct = D'.ct) (hr : D.rt = D'.rt)
    (hn : ∀ env S, r = .nx env S → PostS P H ρ (f env S) D → NxP P H ρ env S D'.nx) : PostS P H ρ r D' := by
  cases r with
  | nx env S => exact hn env S rfl h
  | bk env S => show NxP P H ρ env S D'.bk; rw [← hb]; exact h
  | ct env S => show NxP P H ρ env S D'.ct; rw [← hc]; exact h
  | rt d S => show ∀ ρ' v H', _ → _ → _ → D'.rt v H'; rw [← hr]; exact h
  | ex c as env S => exact h
  | bad => exact h
theorem g_cons (hj : ∀ σ, P.Js σ) {m1 : D → En → Store → RS} {m2 : List D → En → Store → RS} (h1 : PG X e (rdG P m1)) (h2 : PGs X es (rdGs P m2))
    (hs : (assignEach (e :: es) X.env).map (·.2) = assign e X.env :: (assignEach es X.env).map (·.2)) : PGs X (e :: es) (rdGs P fun ds env S => match ds with | d :: l => (m1 d env S).seq fun env' S' => m2 l env' S' | [] => .bad) := by
  refine PGs.imp (pgs_cons h1 h2 hs) fun vs σ H Q ⟨ρ, env, S, ds, r, a, h⟩ => ?_
  cases ds with
  | nil => exact False.elim h
  | cons d l =>
    obtain ⟨v, rr, rfl, av, ar⟩ := a.inv
    refine ⟨v, rr, rfl, ρ, env, S, d, r, av, ?_⟩
    refine seq_post h rfl rfl rfl fun env' S' _ h' ρ' σ' H' st' q' e' => ?_
    exact ⟨ρ', env', S', l, ⟨q', e', P.jm _ _ _ _ st' r.j, hj _⟩, ar.mono st', PostS.step st' h'⟩
theorem g_tup {n : Nat} {mg : List D → En → Store → RS} (hK : P.K = X.K) (hc : X.calm = true) (h : PGs X es (rdGs P mg)) (hn : (assignEach es X.env).length = n) (hst : (assignEach es X.env).findIdx? (·.1) = none) :
    PG X (.Tuple es kk pos) (rdG P fun d env S => match items S d with
    | some l => if l.length = n then mg l env S else .bad
    | none => .bad) := by
  refine PG.imp (pg_seq hc h hn hst) fun v σ H Q ⟨ρ, env, S, d, r, a, h⟩ => ?_
  dsimp only at h
  cases e1 : items S d with
  | none => rw [e1] at h; exact False.elim h
  | some l =>
    rw [e1] at h
    dsimp only at h
    split at h
    · rename_i hl
      obtain ⟨p, xs, rfl, s, q⟩ := items_inv r.rep a e1
      rcases s with s | s
      · exact .inr ⟨p, xs, rfl, hK ▸ s, by rw [← q.length]; exact hl, ρ, env, S, l, r, q, h⟩
      · exact .inl ⟨p, xs, rfl, hK ▸ s, by rw [← q.length]; exact hl, ρ, env, S, l, r, q, h⟩
    · exact False.elim h
theorem g_sub (ho : PE X o (rdE P m1)) (hi : PE X e (rdE P m2))
    (ha : ∀ v, assign (.Subscript o e pos) X.env v = (do
      let ov ← holding [v] (eval o X.env)
      let iv ← holding [v, ov] (eval e X.env)
      standAt pos
      holding [v, ov, iv] (setItem ov iv v)
      release [v, ov, iv] [])) : PG X (.Subscript o e pos) (rdG P fun d env S => (m1 env S).thenS env fun y S1 => (m2 env S1).thenS env fun k S2 => setR y k d env S2) := by
  refine PG.imp (pg_sub ho hi set_list (by first | exact ha | exact fun v => ha v)) fun v σ H Q ⟨ρ, env, S, d, r, a, h⟩ => ?_
  refine ⟨ρ, env, S, r, PostS.bind r.env h fun y S1 ρ1 yv H1 _ st1 q1 a1 h1 => ?_⟩
  refine ⟨ρ1, env, S1, r.at st1 q1, PostS.bind (r.env.mono st1) h1 fun k S2 ρ2 kv H2 _ st2 q2 a2 h2 => ?_⟩
  have a1 := At.mono st2 a1
  cases y with
  | ref n =>
    cases k with
    | int j =>
      obtain ⟨l, rfl, el⟩ := At.ref_inv a1
      cases At.int_inv a2
      have h2 : PostS P H2 ρ2 (match S2[n]? with
        | some l => match L2.ixN l.length j with
          | some p => .nx env (setAt S2 n (l.set p d))
          | none => .bad
        | none => .bad) ⟨Q, fun _ _ => False, fun _ _ => False, fun _ _ => False⟩ := h2
      cases e1 : S2[n]? with
      | none => rw [e1] at h2; exact False.elim h2
      | some k =>
        rw [e1] at h2
        dsimp only at h2
        obtain ⟨l2, ys, el2, hy, ay⟩ := q2.get e1
        rw [el] at el2; cases el2
        cases e2 : L2.ixN k.length j with
        | none => rw [e2] at h2; exact False.elim h2
        | some q =>
          rw [e2] at h2
          have st3 : Step H2 ρ2 (upd H2 l (.lst (ys.set q v))) ρ2 := ⟨.wr hy, List.prefix_refl ρ2⟩
          refine ⟨l, ys, j, q, rfl, rfl, hy, by rw [← ay.length]; exact e2, ?_⟩
          exact h2 ρ2 σ _ st3 (q2.wr el hy (ay.set (a.mono (st1.trans st2)) q)) ((r.env.mono (st1.trans st2)).mono st3)
    | _ => exact False.elim h2
  | _ => exact False.elim h2
/-! ### statements -/
theorem s_asg {mg : D → En → Store → RS} (he : PE X e (rdE P m)) (hg : PG X tg (rdG P mg)) (hnx : ∀ d env S, (∀ env' S', mg d env S ≠ .bk env' S') ∧ (∀ env' S', mg d env S ≠ .ct env' S') ∧ ∀ d' S', mg d env S ≠ .rt d' S')
    (hs : swapsWithSole [tg] e pos.line X.env = pure false) (hw : swappedStores [tg] e X.env = pure none) (h1 : (assignEach [tg] X.env).map (·.2) = [assign tg X.env]) : PS X (.Assign [tg] e pos) (rdS P fun env S => (m env S).thenS env fun x S1 => mg x env S1) := by
  refine PS.imp (ps_asg he hg hs hw h1) fun D σ H ⟨ρ, env, S, r, h⟩ => ?_
  refine ⟨ρ, env, S, r, PostS.bind (f := fun x S1 => mg x env S1) r.env h fun x S1 ρ1 v H1 _ st1 q1 a1 h1 => ?_⟩
  refine ⟨ρ1, env, S1, x, r.at st1 q1, a1, PostS.ends h1 (fun env S e => ?_) (fun env' S' e' => absurd e' ((hnx x env S1).1 env' S')) (fun env' S' e' => absurd e' ((hnx x env S1).2.1 env' S')) (fun d S' e' => absurd e' ((hnx x env S1).2.2 d S'))⟩
  rw [e] at h1; exact h1
theorem s_expr (he : PE X e (rdE P m)) (hs : swapsWith e none pos.line X.env = pure false) : PS X (.Expr e pos) (rdS P fun env S => (m env S).thenS env fun _ S1 => .nx env S1) := by
  refine PS.imp (ps_expr he hs) fun D σ H ⟨ρ, env, S, r, h⟩ => ?_
  refine ⟨ρ, env, S, r, PostS.bind (f := fun _ S1 => .nx env S1) r.env h fun x S1 ρ1 v H1 _ st1 q1 a1 h1 => ?_⟩
  exact NxP.done h1 q1 (r.env.mono st1)
theorem s_ret (he : PE X e (rdE P m)) : PS X (.Return (some e) pos) (rdS P fun env S => (m env S).thenS env fun x S1 => .rt x S1) := by
  refine PS.imp (ps_ret he) fun D σ H ⟨ρ, env, S, r, h⟩ => ?_
  refine ⟨ρ, env, S, r, PostS.bind (f := fun x S1 => .rt x S1) r.env h fun x S1 ρ1 v H1 _ st1 q1 a1 h1 => ?_⟩
  exact h1 ρ1 v H1 (.refl H1 ρ1) q1 a1
theorem s_retN : PS X (.Return none pos) (rdS P fun _ S => .rt .non S) := by
  refine PS.imp ps_retN fun D σ H ⟨ρ, env, S, r, h⟩ => ?_
  exact h ρ .non H (.refl H ρ) r.rep .mk_non
theorem s_pass : PS X (.Pass pos) (rdS P fun env S => .nx env S) := PS.imp ps_pass fun D σ H ⟨ρ, env, S, r, h⟩ => NxP.done h r.rep r.env
theorem s_brk : PS X (.Break pos) (rdS P fun env S => .bk env S) := PS.imp ps_break fun D σ H ⟨ρ, env, S, r, h⟩ => NxP.done h r.rep r.env
theorem s_cont : PS X (.Continue pos) (rdS P fun env S => .ct env S) := PS.imp ps_continue fun D σ H ⟨ρ, env, S, r, h⟩ => NxP.done h r.rep r.env
theorem s_nil : PSs X [] (rdS P fun env S => .nx env S) := PSs.imp pss_nil fun D σ H ⟨ρ, env, S, r, h⟩ => NxP.done h r.rep r.env
theorem s_cons (hj : ∀ σ, P.Js σ) (h1 : PS X st (rdS P mb)) (h2 : PSs X sts (rdS P mc)) : PSs X (st :: sts) (rdS P fun env S => (mb env S).seq fun env' S' => mc env' S') := by
  refine PSs.imp (pss_cons h1 h2) fun D σ H ⟨ρ, env, S, r, h⟩ => ?_
  refine ⟨ρ, env, S, r, seq_post (D' := { D with nx := rdS P mc D }) h rfl rfl rfl fun env' S' _ h' ρ' σ' H' st' q' e' => ?_⟩
  exact ⟨ρ', env', S', ⟨q', e', P.jm _ _ _ _ st' r.j, hj _⟩, PostS.step st' h'⟩
theorem s_ite {mt : En → Store → R Bool} (ht : PT X c (rdT P mt)) (ha : PSs X body (rdS P mb)) (hb : PSs X els (rdS P mc)) : PS X (.If c body els pos) (rdS P fun env S => (mt env S).thenS env fun k S1 => if k then mb env S1 else mc env S1) := by
  refine PS.imp (ps_if ht ha hb) fun D σ H ⟨ρ, env, S, r, h⟩ => ?_
  refine ⟨ρ, env, S, r, PostS.bind (f := fun k S1 => if k then mb env S1 else mc env S1) r.env h fun k S1 ρ1 k' H1 _ st1 q1 a1 h1 => ?_⟩
  have a1 : k = k' := a1
  subst a1
  cases k with
  | true => exact ⟨ρ1, env, S1, r.at st1 q1, h1⟩
  | false => exact ⟨ρ1, env, S1, r.at st1 q1, h1⟩
theorem s_while (hj : ∀ σ, P.Js σ) {mt : En → Store → R Bool} (n : Nat) (hp : PassesOwn (model X.prog X.w) X.A X.env X.xe) (ht : PT X c (rdT P mt)) (hb : PSs X body (rdS P mb)) : PS X (.While c body [] pos) (rdS P fun env S => whileLoop mt mb n env S) := by
  refine PS.imp (ps_while hp ht hb) fun D σ H ⟨ρ, env, S, r, h⟩ => ?_
  refine ⟨fun k σ H => ∃ ρ env S, Rel P H ρ S σ env ∧ PostS P H ρ (whileLoop mt mb k env S) D, ⟨n, ρ, env, S, r, h⟩, fun k σ1 H1 ⟨ρ1, env1, S1, r1, h1⟩ => ?_⟩
  cases k with
  | zero => exact False.elim h1
  | succ k =>
    have h1 : PostS P H1 ρ1 ((mt env1 S1).thenS env1 fun b S2 => if b then match mb env1 S2 with
      | .nx e S' => whileLoop mt mb k e S'
      | .ct e S' => whileLoop mt mb k e S'
      | .bk e S' => .nx e S'
      | .rt v S' => .rt v S'
      | .ex c as e S' => .ex c as e S'
      | .bad => .bad
    else .nx env1 S2) D := h1
    refine ⟨ρ1, env1, S1, r1, PostS.bind r1.env h1 fun b S2 ρ2 b' H2 _ st2 q2 a2 h2 => ?_⟩
    have a2 : b = b' := a2
    subst a2
    cases b with
    | false => exact NxP.done h2 q2 (r1.env.mono st2)
    | true =>
      refine ⟨fun σ' H' => ∃ ρ env S, Rel P H' ρ S σ' env ∧ PostS P H' ρ (whileLoop mt mb k env S) D, fun σ' H' hN => ⟨k, Nat.lt_succ_self k, hN⟩, ?_⟩
      refine ⟨ρ2, env1, S2, r1.at st2 q2, ?_⟩
      have h2 : PostS P H2 ρ2 (match mb env1 S2 with
        | .nx e S' => whileLoop mt mb k e S'
        | .ct e S' => whileLoop mt mb k e S'
        | .bk e S' => .nx e S'
        | .rt v S' => .rt v S'
        | .ex c as e S' => .ex c as e S'
        | .bad => .bad) D := h2
      cases eb : mb env1 S2 with
      | nx e' S' => rw [eb] at h2; exact fun ρ' σ' H' st' q' e'' => ⟨ρ', e', S', ⟨q', e'', P.jm _ _ _ _ (st2.trans st') r1.j, hj _⟩, PostS.step st' h2⟩
      | ct e' S' => rw [eb] at h2; exact fun ρ' σ' H' st' q' e'' => ⟨ρ', e', S', ⟨q', e'', P.jm _ _ _ _ (st2.trans st') r1.j, hj _⟩, PostS.step st' h2⟩
      | bk e' S' => rw [eb] at h2; exact h2
      | rt v S' => rw [eb] at h2; exact h2
      | ex cc as e' S' => rw [eb] at h2; exact h2
      | bad => rw [eb] at h2; exact h2
theorem s_for (hj : ∀ σ, P.Js σ) (hK : P.K = X.K) (hp : PassesOwn (model X.prog X.w) X.A X.env X.xe) (hc : X.calm = true) (hi : PI X tg iter (rdI P mi)) (hg : PG X tg g) (pg : PutOk X.K g t) (hb : PSs X body (rdS P mb)) (hs : ∀ x, foldedSetIterable iter X.env x = pure x) :
    PS X (.For tg iter body [] pos) (rdS P fun env S => (mi env S).thenS env fun I S1 => forLoop I.dep t mb I.items env S1) := by
  refine PS.imp (ps_for hp hc hi hg hb hs) fun D σ H ⟨ρ, env, S, r, h⟩ => ?_
  refine ⟨ρ, env, S, r, PostS.bind (f := fun I S1 => forLoop I.dep t mb I.items env S1) r.env h fun I S1 ρ1 J H1 _ st1 q1 sv h1 => ?_⟩
  refine ⟨fun i n σ H => i + n = I.items.length ∧ ∃ ρ env S, Step H1 ρ1 H ρ ∧ Rel P H ρ S σ env ∧ PostS P H ρ (forLoop I.dep t mb (I.items.drop i) env S) D,
    ⟨I.items.length, by omega, ρ1, env, S1, .refl _ _, r.at st1 q1, h1⟩, fun i n σ2 H2 ⟨hn, ρ2, env2, S2, st2, r2, h2⟩ => ?_⟩
  by_cases hlt : i < I.items.length
  · have hd : I.items.drop i = I.items[i] :: I.items.drop (i + 1) := List.drop_eq_getElem_cons hlt
    rw [hd] at h2
    have h2 : PostS P H2 ρ2 (if It.still S2 I.dep then match Tg.put S2 t I.items[i] env2 with
      | some env' => match mb env' S2 with
        | .nx e S' => forLoop I.dep t mb (I.items.drop (i + 1)) e S'
        | .ct e S' => forLoop I.dep t mb (I.items.drop (i + 1)) e S'
        | .bk e S' => .nx e S'
        | .rt v S' => .rt v S'
        | .ex c as e S' => .ex c as e S'
        | .bad => .bad
      | none => .bad
    else .bad) D := h2
    split at h2
    · rename_i hst
      obtain ⟨go, yl⟩ := sv.go i H2 ρ2 S2 I.items[i] st2 r2.rep hst (List.getElem?_eq_getElem hlt)
      refine .inr ⟨go, fun σ' H' => i + 1 + (n - 1) = I.items.length ∧ ∃ ρ env S, Step H1 ρ1 H' ρ ∧ Rel P H' ρ S σ' env ∧ PostS P H' ρ (forLoop I.dep t mb (I.items.drop (i + 1)) env S) D,
        fun σ' H' hN => ⟨n - 1, by omega, hN⟩, fun x H3 hy => ?_⟩
      obtain ⟨ex3, q3, a3⟩ := yl x H3 hy
      have st3 : Step H2 ρ2 H3 ρ2 := ⟨ex3, List.prefix_refl ρ2⟩
      cases e1 : Tg.put S2 t I.items[i] env2 with
      | none => rw [e1] at h2; exact False.elim h2
      | some env' =>
        rw [e1] at h2
        dsimp only at h2
        refine pg H3 ρ2 S2 _ env' _ _ x _ (hK ▸ q3) (hK ▸ r2.env.mono st3) (hK ▸ a3) e1 fun σ4 ev4 off => ?_
        refine ⟨ρ2, env', S2, ⟨q3, hK ▸ ev4, P.jm _ _ _ _ st3 r2.j, hj _⟩, ?_⟩
        have h2 := PostS.step st3 h2
        cases eb : mb env' S2 with
        | nx e' S' => rw [eb] at h2; exact fun ρ' σ' H' st' q' e'' => ⟨by omega, ρ', e', S', st2.trans (st3.trans st'), ⟨q', e'', P.jm _ _ _ _ (st3.trans st') r2.j, hj _⟩, PostS.step st' h2⟩
        | ct e' S' => rw [eb] at h2; exact fun ρ' σ' H' st' q' e'' => ⟨by omega, ρ', e', S', st2.trans (st3.trans st'), ⟨q', e'', P.jm _ _ _ _ (st3.trans st') r2.j, hj _⟩, PostS.step st' h2⟩
        | bk e' S' => rw [eb] at h2; exact h2
        | rt v S' => rw [eb] at h2; exact h2
        | ex cc as e' S' => rw [eb] at h2; exact h2
        | bad => rw [eb] at h2; exact h2
    · exact False.elim h2
  · have hd : I.items.drop i = [] := List.drop_eq_nil_of_le (by omega)
    rw [hd] at h2
    have h2 : PostS P H2 ρ2 (if It.still S2 I.dep then .nx env2 S2 else .bad) D := h2
    split at h2
    · rename_i hst
      exact .inl ⟨sv.stop i H2 ρ2 S2 st2 r2.rep hst (by omega), NxP.done h2 r2.rep r2.env⟩
    · exact False.elim h2
/-- x += e, x -= e -/
theorem s_aug_add (hN : X.N.Nodup) (hi : X.N[i]? = some x) (hx : Loc X.env.scope x) (he : PE X e (rdE P m)) (hf : X.fn x = true ∨ X.env.scope.names.lookup x = some .local) : PS X (.AugAssign (.Name x p) .Add e pos) (rdS P fun env S => match env[i]? with
    | some (some x) => (m env S).thenS env fun y S1 => match x, y, Bop.add with
      | .int a, .int b, .add => .nx (env.set i (some (.int (a + b)))) S1
      | .int a, .int b, .sub => .nx (env.set i (some (.int (a - b)))) S1
      | _, _, _ => .bad
    | _ => .bad) := by
  refine PS.imp (ps_aug hN hi hx he ip_add hf) fun D σ H ⟨ρ, env, S, r, h⟩ => ?_
  dsimp only at h
  cases ei : env[i]? with
  | none => rw [ei] at h; exact False.elim h
  | some o =>
    cases o with
    | none => rw [ei] at h; exact False.elim h
    | some d =>
      rw [ei] at h
      dsimp only at h
      obtain ⟨v, ev, av⟩ := r.env.2 i d ei
      refine ⟨v, ev, ρ, env, S, r, PostS.bind r.env h fun y S1 ρ1 u H1 _ st1 q1 a1 h1 => ?_⟩
      cases d <;> try exact False.elim h1
      cases y <;> try exact False.elim h1
      cases At.int_inv av; cases At.int_inv a1
      exact ⟨_, _, rfl, rfl, NxP.done h1 q1 ((r.env.mono st1).set .mk_int)⟩
theorem s_aug_sub (hN : X.N.Nodup) (hi : X.N[i]? = some x) (hx : Loc X.env.scope x) (he : PE X e (rdE P m)) (hf : X.fn x = true ∨ X.env.scope.names.lookup x = some .local) : PS X (.AugAssign (.Name x p) .Sub e pos) (rdS P fun env S => match env[i]? with
    | some (some x) => (m env S).thenS env fun y S1 => match x, y, Bop.sub with
      | .int a, .int b, .add => .nx (env.set i (some (.int (a + b)))) S1
      | .int a, .int b, .sub => .nx (env.set i (some (.int (a - b)))) S1
      | _, _, _ => .bad
    | _ => .bad) := by
  refine PS.imp (ps_aug hN hi hx he ip_sub hf) fun D σ H ⟨ρ, env, S, r, h⟩ => ?_
  dsimp only at h
  cases ei : env[i]? with
  | none => rw [ei] at h; exact False.elim h
  | some o =>
    cases o with
    | none => rw [ei] at h; exact False.elim h
    | some d =>
      rw [ei] at h
      dsimp only at h
      obtain ⟨v, ev, av⟩ := r.env.2 i d ei
      refine ⟨v, ev, ρ, env, S, r, PostS.bind r.env h fun y S1 ρ1 u H1 _ st1 q1 a1 h1 => ?_⟩
      cases d <;> try exact False.elim h1
      cases y <;> try exact False.elim h1
      cases At.int_inv av; cases At.int_inv a1
      exact ⟨_, _, rfl, rfl, NxP.done h1 q1 ((r.env.mono st1).set .mk_int)⟩
end
end DL

end
section
set_option maxHeartbeats 4000000
/-! # DL: calls with keywords -/
namespace DL
open PySem PySem.Spec PyProof.Rows L2
theorem Paired.get? {α β : Type} {R : α → β → Prop} : ∀ {l : List α} {m : List β} (i : Nat), Paired R l m → (∃ a b, l[i]? = some a ∧ m[i]? = some b ∧ R a b) ∨ (l[i]? = none ∧ m[i]? = none)
  | _, _, _, .nil => .inr ⟨rfl, rfl⟩
  | _, _, 0, .cons r _ => .inl ⟨_, _, rfl, rfl, r⟩
  | _, _, i + 1, .cons _ t => by simpa using Paired.get? i t
theorem permL_cons {α : Type} (i : Nat) (p : List Nat) (l : List α) : permL (i :: p) l = (match l[i]? with | some a => [a] | none => []) ++ permL p l := by
  unfold permL
  rw [List.filterMap_cons]
  cases l[i]? <;> rfl
theorem vals_perm {vs : List V} {us : List Value} (r : Vals vs us) : ∀ p : List Nat, Vals (permL p vs) (permL p us)
  | [] => .nil
  | i :: p => by
    rw [permL_cons, permL_cons]
    rcases Paired.get? i r with ⟨a, b, e1, e2, q⟩ | ⟨e1, e2⟩
    · rw [e1, e2]; exact .cons q (vals_perm r p)
    · rw [e1, e2]; exact vals_perm r p
theorem AtL.perm {K : Frag} {H : Hp} {ρ : List Addr} {l : List D} {xs : List V} (h : AtL K H ρ l xs) : ∀ p : List Nat, AtL K H ρ (permL p l) (permL p xs)
  | [] => .nil
  | i :: p => by
    rw [permL_cons, permL_cons]
    cases e : l[i]? with
    | some d =>
      obtain ⟨v, ev, av⟩ := h.get e
      rw [ev]; exact .cons av (h.perm p)
    | none =>
      have : xs[i]? = none := by
        rw [List.getElem?_eq_none_iff] at e ⊢
        rw [← h.length]; exact e
      rw [this]; exact h.perm p
section
variable {X : Cx} {P P0 : Pm} {e : Expr} {es : List Expr} {kws : List Keyword} {pos p kpos : Pos} {x : Str} {nm : Option Str} {m : En → Store → R D} {ma mk : En → Store → R (List D)} {k : Nat} {f : Addr} {fd : FuncData} {ps ks : List Str} {perm : List Nat} {n : Nat} {g : List D → Store → R D}
theorem PK.imp {t t' : TA} (h : PK X kws t) (i : ∀ σ H Q, t' σ H Q → t σ H Q) : PK X kws t' := ⟨fun pos pins s σ H Q I q => h.run pos pins s σ H Q I (i σ H Q q)⟩
theorem k_nil : PK X [] (rdA P fun _ S => .ok [] S) := PK.imp pk_nil fun σ H Q ⟨ρ, env, S, r, h⟩ => Post.done (rel := relL P) h r.rep .nil
theorem k_cons (ha : PE X e (rdE P m)) (hr : PK X kws (rdA P ma)) : PK X (⟨nm, e, kpos⟩ :: kws) (rdA P fun env S => (m env S).bind fun x S1 => (ma env S1).bind fun xs S2 => .ok (x :: xs) S2) := by
  refine PK.imp (pk_cons ha hr) fun σ H Q ⟨ρ, env, S, r, h⟩ => ?_
  refine ⟨ρ, env, S, r, h.bind fun x S1 ρ1 v H1 _ st1 q1 a1 h1 => ?_⟩
  refine ⟨ρ1, env, S1, r.at st1 q1, h1.bind fun y S2 ρ2 u H2 _ st2 q2 a2 h2 => ?_⟩
  exact h2.done q2 (.cons (a1.mono st2) a2)
theorem d_callk (F : FnG X.prog X.w X.K X.mg X.base (L2.CX X.prog X.w) k f fd ps (spD P0 ps.length g)) (eK : P0.K = P.K) (eX : P0.XA = P.XA) (ar : Arity ps.length g) (tk : Takes X P.W) (hr : Room k X.A) (hgd : X.A.guards = some []) (hg : Gl X x) (hm : X.mg x = some (.ref f)) (hk : PySem.W.keepIn X.K (.ref f) = true)
    (hb : ∀ (s : Shared) (us ws : List Value), X.K.In s.heap → us.length = n → ws.length = ks.length → BindsTo s fd ⟨us, ks.zip ws⟩ (ps.zip (permL perm (us ++ ws))))
    (ha : PA X es (rdA P ma)) (hkw : PK X kws (rdA P mk)) (hla : ∀ env S d S', ma env S = .ok d S' → d.length = n) (hlk : ∀ env S d S', mk env S = .ok d S' → d.length = ks.length)
    (hnil : es = [] → ma = fun _ S => .ok [] S) (hall : (backToKw pos (keywordEach kws X.env)).all (·.1.isSome) = true) (hks : (backToKw pos (keywordEach kws X.env)).filterMap (·.1) = ks)
    (hdb : (x == ("__debug__" : Str)) = false) (he : ∀ e r, es = e :: r → starEach (e :: r) X.env = (false, eval e X.env) :: starEach r X.env)
    (hpl : ((backTo pos (starEach es X.env)).any (·.1) || (backToKw pos (keywordEach kws X.env)).any (·.1.isNone)) = false) :
    PE X (.Call (.Name x p) es kws pos) (rdE P fun env S => (ma env S).bind fun vs S1 => (mk env S1).bind fun ws S2 => g (permL perm (vs ++ ws)) S2) := by
  refine ⟨fun pins s σ H Q I ⟨ρ, env, S, r, h⟩ => ?_⟩
  refine wpAny_Call_Name_kw (ld_glob I hg hm ?_ hdb)
  have fin : ∀ {us ws : List Value} {vs zs : List V} {s2 : Shared} {H2 : Hp} {ρ2 : List Addr} {ds es : List D} {S2 : Store}, Inv X pins σ H2 s2 → Vals vs us → Vals zs ws → ds.length = n → es.length = ks.length → Rep P.K H2 ρ2 S2 → AtL P.K H2 ρ2 ds vs → AtL P.K H2 ρ2 es zs → Post P σ H2 ρ2 (relV P) (g (permL perm (ds ++ es)) S2) Q →
      wpAny (model X.prog X.w) X.A (call (.ref f) us (ks.zip ws)) (EP X pins σ Q) X.xe s2 := fun {us ws vs zs s2 H2 ρ2 ds es S2} I2 r1 r2 l1 l2 q2 a1 a2 h2 => by
    have av : AtL P.K H2 ρ2 (permL perm (ds ++ es)) (permL perm (vs ++ zs)) := (a1.append a2).perm perm
    have sp := call_imp (ps := ps) eK eX q2 av (by rw [← av.length]; exact arity_len ar h2) h2
    have lu : us.length = n := by rw [← r1.length, ← a1.length]; exact l1
    have lw : ws.length = ks.length := by rw [← r2.length, ← a2.length]; exact l2
    refine wpAny_call (codeAny_mono (F.go X.A X.stack s2 H2 ⟨us, ks.zip ws⟩ (permL perm (us ++ ws)) (permL perm (vs ++ zs)) Q (WE P.W σ) hr hgd I2.env0 (hb s2 us ws I2.kIn lu lw) (vals_perm (r1.append r2) perm) sp) fun rr s' hq => ?_)
    cases rr with
    | error e => exact passAt tk σ pins H2 s2 e s' I2 hq
    | ok fl =>
      cases fl with
      | ret u => exact I2.after hq
      | next => exact False.elim hq
      | brk => exact False.elim hq
      | cont => exact False.elim hq
  have step : ∀ {us : List Value} {vs : List V} {s1 : Shared} {H1 : Hp} {ρ1 : List Addr} {ds : List D} {S1 : Store}, Inv X pins σ H1 s1 → Vals vs us → ds.length = n → Rel P H1 ρ1 S1 σ env → AtL P.K H1 ρ1 ds vs → Post P σ H1 ρ1 (relV P) ((mk env S1).bind fun ws S2 => g (permL perm (ds ++ ws)) S2) Q →
      wpAny (model X.prog X.w) X.A (evalAll ((backToKw pos (keywordEach kws X.env)).map (·.2))) (fun ws s2 => X.K.In s2.heap ∧ wpAny (model X.prog X.w) X.A (call (.ref f) us (((backToKw pos (keywordEach kws X.env)).filterMap (·.1)).zip ws)) (EP X pins σ Q) X.xe s2) X.xe s1 := fun {us vs s1 H1 ρ1 ds S1} I1 r1 l1 rl a1 h1 => by
    refine thn (hkw.run pos pins s1 σ H1 (fun zs H2 => ∃ ρ2 es S2, es.length = ks.length ∧ Step H1 ρ1 H2 ρ2 ∧ Rep P.K H2 ρ2 S2 ∧ AtL P.K H2 ρ2 es zs ∧ Post P σ H2 ρ2 (relV P) (g (permL perm (ds ++ es)) S2) Q) I1 ⟨ρ1, env, S1, rl, Post.bind (f := fun ws S2 => g (permL perm (ds ++ ws)) S2) h1 fun es S2 ρ2 zs H2 e2 st2 q2 a2 h2 => ⟨ρ2, es, S2, hlk _ _ _ _ e2, st2, q2, a2, h2⟩⟩) fun ws s2 hh => ?_
    obtain ⟨zs, H2, I2, r2, ρ2, es, S2, l2, st2, q2, a2, h2⟩ := hh
    rw [hks]
    exact ⟨I2.kIn, fin I2 r1 r2 l1 l2 q2 (a1.mono st2) a2 h2⟩
  cases es with
  | nil =>
    refine PySem.W.callWith_KW0 (h₀ := X.base) I.ok.mod.kin hk hall ?_ hpl
    have em := hnil rfl
    subst em
    exact step (us := []) (vs := []) (ds := []) I .nil (hla env S [] S rfl) r .nil h
  | cons e r' =>
    refine PySem.W.callWith_KW (h₀ := X.base) I.ok.mod.kin hk hall (thn (ha.run pos pins s σ H (fun vs H1 => ∃ ρ1 ds S1, ds.length = n ∧ Rel P H1 ρ1 S1 σ env ∧ AtL P.K H1 ρ1 ds vs ∧ Post P σ H1 ρ1 (relV P) ((mk env S1).bind fun ws S2 => g (permL perm (ds ++ ws)) S2) Q) I ⟨ρ, env, S, r, Post.bind (f := fun vs S1 => (mk env S1).bind fun ws S2 => g (permL perm (vs ++ ws)) S2) h fun ds S1 ρ1 vs H1 e1 st1 q1 a1 h1 => ⟨ρ1, ds, S1, hla _ _ _ _ e1, r.at st1 q1, a1, h1⟩⟩) fun us s1 hh => ?_) hpl (he e r' rfl)
    obtain ⟨vs, H1, I1, r1, ρ1, ds, S1, l1, rl, a1, h1⟩ := hh
    exact step I1 r1 l1 rl a1 h1
end
end DL

end
section
set_option maxHeartbeats 4000000
/-! # DL: ranges downward, ranges made lists and tuples -/
namespace DL
open PySem PySem.Spec PyProof.Rows L2
theorem AtL.maps {K : Frag} {H : Hp} {ρ : List Addr} {f : Nat → D} {g : Nat → V} (h : ∀ i, At K H ρ (f i) (g i)) : ∀ l : List Nat, AtL K H ρ (l.map f) (l.map g)
  | [] => .nil
  | a :: l => .cons (h a) (AtL.maps h l)
theorem at_rg {K : Frag} {H : Hp} {ρ : List Addr} (i j : Int) : AtL K H ρ (rangeL i (j - i).toNat) (rgV i j) := AtL.maps (fun _ => .mk_int) _
theorem rgOk_of {i j : Int} (h : (boundOk i && (boundOk j && Nat.ble (j - i).toNat 16777216)) = true) : RgOk i j := by
  rw [boundOk_eq, boundOk_eq, Bool.and_eq_true, Bool.and_eq_true, Bool.and_eq_true, Bool.and_eq_true, Nat.ble_eq, decide_eq_true_eq, decide_eq_true_eq, decide_eq_true_eq, decide_eq_true_eq] at h
  obtain ⟨⟨h1, h2⟩, ⟨h3, h4⟩, h5⟩ := h
  exact ⟨by omega, h2, by omega, h4, h5⟩
section
variable {X : Cx} {P : Pm} {tg a b c e : Expr} {pos pos' p p2 : Pos} {m m1 m2 m3 : En → Store → R D}
theorem lrg_l {σ : L2.St} {H1 : Hp} {ρ1 : List Addr} {S1 : Store} {Q : VK} {i j : Int} (q1 : Rep P.K H1 ρ1 S1) (h1 : Post P σ H1 ρ1 (relV P) (lrgO false i j S1) Q) : RgOk i j ∧ ∀ q, H1 q = none → Q (.ref q) (upd H1 q (.lst (rgV i j))) := by
  unfold lrgO at h1
  split at h1
  · rename_i hb
    refine ⟨rgOk_of hb, fun q hq => ?_⟩
    exact post_newL q1 (at_rg i j) hq h1
  · exact False.elim h1
theorem lrg_t {σ : L2.St} {H1 : Hp} {ρ1 : List Addr} {S1 : Store} {Q : VK} {i j : Int} (q1 : Rep P.K H1 ρ1 S1) (h1 : Post P σ H1 ρ1 (relV P) (lrgO true i j S1) Q) : RgOk i j ∧ ∀ q, H1 q = none → Q (.ref q) (upd H1 q (.tup (rgV i j))) := by
  unfold lrgO at h1
  split at h1
  · rename_i hb
    refine ⟨rgOk_of hb, fun q hq => ?_⟩
    have st : Step H1 ρ1 (upd H1 q (.tup (rgV i j))) ρ1 := step_new hq
    exact h1 ρ1 _ _ st (q1.newT hq) (.mk_tup (.inl (.inl upd_same)) (at_rg i j))
  · exact False.elim h1
theorem d_lrg1 {t : Bool} {y : Str} (hy : y = if t then Str.ofString "tuple" else Str.ofString "list") (hc : X.calm = true) (hg : Gl X y) (hm : X.mg y = none) (hg2 : Gl X "range") (hm2 : X.mg "range" = none) (ha : PE X a (rdE P m)) (hs : starEach [a] X.env = (false, eval a X.env) :: starEach [] X.env) :
    PE X (.Call (.Name y p) [.Call (.Name "range" p2) [a] [] pos'] [] pos) (rdE P fun env S => (m env S).bind fun x S1 => lrgR t [x] S1) := by
  cases t with
  | false =>
    subst hy
    refine PE.imp (pe_listRg hc hg hm (prg_1 hg2 hm2 ha hs)) fun σ H Q ⟨ρ, env, S, r, h⟩ => ?_
    refine ⟨ρ, env, S, r, h.bind fun x S1 ρ1 v H1 e0 st1 q1 a1 h1 => ?_⟩
    cases x <;> try exact False.elim h1
    cases At.int_inv a1
    exact ⟨_, rfl, lrg_l q1 h1⟩
  | true =>
    subst hy
    refine PE.imp (pe_tupRg hc hg hm (prg_1 hg2 hm2 ha hs)) fun σ H Q ⟨ρ, env, S, r, h⟩ => ?_
    refine ⟨ρ, env, S, r, h.bind fun x S1 ρ1 v H1 e0 st1 q1 a1 h1 => ?_⟩
    cases x <;> try exact False.elim h1
    cases At.int_inv a1
    exact ⟨_, rfl, lrg_t q1 h1⟩
theorem d_lrg2 {t : Bool} {y : Str} (hy : y = if t then Str.ofString "tuple" else Str.ofString "list") (hc : X.calm = true) (hg : Gl X y) (hm : X.mg y = none) (hg2 : Gl X "range") (hm2 : X.mg "range" = none) (ha : PE X a (rdE P m1)) (hb : PE X b (rdE P m2))
    (hs : starEach [a, b] X.env = (false, eval a X.env) :: starEach [b] X.env) (hs2 : starEach [b] X.env = (false, eval b X.env) :: starEach [] X.env) :
    PE X (.Call (.Name y p) [.Call (.Name "range" p2) [a, b] [] pos'] [] pos) (rdE P fun env S => (m1 env S).bind fun x S1 => (m2 env S1).bind fun y S2 => lrgR t [x, y] S2) := by
  cases t with
  | false =>
    subst hy
    refine PE.imp (pe_listRg hc hg hm (prg_2 hg2 hm2 ha hb hs hs2 (by rw [hs2]; rfl))) fun σ H Q ⟨ρ, env, S, r, h⟩ => ?_
    refine ⟨ρ, env, S, r, h.bind fun x S1 ρ1 v H1 e0 st1 q1 a1 h1 => ?_⟩
    refine ⟨ρ1, env, S1, r.at st1 q1, h1.bind fun y S2 ρ2 u H2 e0 st2 q2 a2 h2 => ?_⟩
    cases x <;> try exact False.elim h2
    cases y <;> try exact False.elim h2
    cases At.int_inv a1; cases At.int_inv a2
    exact ⟨_, _, rfl, rfl, lrg_l q2 h2⟩
  | true =>
    subst hy
    refine PE.imp (pe_tupRg hc hg hm (prg_2 hg2 hm2 ha hb hs hs2 (by rw [hs2]; rfl))) fun σ H Q ⟨ρ, env, S, r, h⟩ => ?_
    refine ⟨ρ, env, S, r, h.bind fun x S1 ρ1 v H1 e0 st1 q1 a1 h1 => ?_⟩
    refine ⟨ρ1, env, S1, r.at st1 q1, h1.bind fun y S2 ρ2 u H2 e0 st2 q2 a2 h2 => ?_⟩
    cases x <;> try exact False.elim h2
    cases y <;> try exact False.elim h2
    cases At.int_inv a1; cases At.int_inv a2
    exact ⟨_, _, rfl, rfl, lrg_t q2 h2⟩
theorem serves_c {K : Frag} {H0 : Hp} {ρ0 : List Addr} (lo : Int) (n : Nat) : Serves K (Itc lo (-1) n) H0 ρ0 ⟨rangeDn lo n, []⟩ := by
  refine ⟨fun i H ρ S x st r hs hx => ?_, fun i H ρ S st r hs hi => ?_⟩
  · unfold rangeDn at hx
    rw [List.getElem?_map] at hx
    cases e : (List.range n)[i]? with
    | none => rw [e] at hx; cases hx
    | some j =>
      rw [e] at hx
      obtain ⟨hj, ej⟩ := List.getElem?_eq_some_iff.mp e
      rw [List.getElem_range] at ej
      rw [List.length_range] at hj
      subst ej
      cases hx
      refine ⟨hj, fun y H' hy => ?_⟩
      obtain ⟨rfl, rfl⟩ := hy
      refine ⟨.refl _, r, ?_⟩
      have e : lo + (i : Nat) * (-1) = lo - (i : Nat) := by omega
      rw [e]
      exact .mk_int
  · have : (rangeDn lo n).length ≤ i := hi
    unfold rangeDn at this
    rw [List.length_map, List.length_range] at this
    exact this
theorem d_range3 (hg : Gl X "range") (hm : X.mg "range" = none) (ha : PE X a (rdE P m1)) (hb : PE X b (rdE P m2)) (hcc : PE X c (rdE P m3)) (hs : starEach [a, b, c] X.env = (false, eval a X.env) :: starEach [b, c] X.env) (hs2 : starEach [b, c] X.env = (false, eval b X.env) :: starEach [c] X.env) (hs3 : starEach [c] X.env = (false, eval c X.env) :: starEach [] X.env) :
    PI X tg (.Call (.Name "range" p) [a, b, c] [] pos) (rdI P fun env S => (m1 env S).bind fun x S1 => (m2 env S1).bind fun y S2 => (m3 env S2).bind fun z S3 => match x, y, z with
    | .int i, .int j, .int c => if boundOk i && (boundOk j && decide (c = -1)) then .ok ⟨rangeDn i (i - j).toNat, []⟩ S3 else .bad
    | _, _, _ => .bad) := by
  refine PI.imp (pi_range3 hg hm (pa_cons ha (pa_cons hb (pa_cons hcc pa_nil hs3) hs2) hs) hs (by rw [hs2, hs3]; rfl)) fun σ H RR ⟨ρ, env, S, r, h⟩ => ?_
  refine ⟨ρ, env, S, r, h.bind fun x S1 ρ1 v H1 e0 st1 q1 a1 h1 => ?_⟩
  refine ⟨ρ1, env, S1, r.at st1 q1, h1.bind fun y S2 ρ2 u H2 e0 st2 q2 a2 h2 => ?_⟩
  refine ⟨ρ2, env, S2, (r.at st1 q1).at st2 q2, h2.bind fun z S3 ρ3 w H3 e0 st3 q3 a3 h3 => ?_⟩
  cases x <;> try exact False.elim h3
  cases y <;> try exact False.elim h3
  cases z <;> try exact False.elim h3
  cases At.int_inv a1; cases At.int_inv a2; cases At.int_inv a3
  dsimp only at h3
  split at h3
  · rename_i hb
    simp only [boundOk_eq, Bool.and_eq_true, decide_eq_true_eq] at hb
    obtain ⟨hb1, hb2, rfl⟩ := hb
    exact ⟨_, _, -1, _, rfl, .neg (Int.le_of_lt hb1.1) hb1.2 (Int.le_of_lt hb2.1) hb2.2, h3.done q3 (serves_c _ _)⟩
  · exact False.elim h3
end
end DL

end
section
set_option maxHeartbeats 4000000
/-! # DL: from the model's syntax to Ex, and that it is sound -/
namespace DL
open PySem PySem.Spec PyProof.Rows L2

structure KwPat where
  f : Nat
  n : Nat
  ks : List Str
  perm : List Nat
/-- what a text has: its defs, constants, the built-in names that it leaves -/
structure Gm where
  fns : List (Str × List Str)
  consts : List Str
  free : List Str
  gcd : Bool
  mth : List (Str × String)
  kws : List KwPat
  /-- the classes of exceptions: their names, their fields (none for one that is only caught); which takes all -/
  exc : List (Str × List Str) := []
  root : Nat := 0
/-- does the class i take the class c -/
def Gm.cat (G : Gm) (i c : Nat) : Bool := decide (i = c) || decide (i = G.root)
structure Cxt where
  G : Gm
  N : List Str
  sc : Scope
  fnB : Str → Bool
def Gm.fix (G : Gm) (x : Str) : Option Nat := let i := G.fns.findIdx fun p => decide (p.1 = x); if i < G.fns.length then some i else none
def visB (sc : Scope) (x : Str) : Bool := match sc.names.lookup x with
  | some .local => true | some .cell => true | some .free => true | _ => false
def glB (sc : Scope) (x : Str) : Bool := match sc.names.lookup x with
  | some .globalImplicit => true | _ => false
def locB (Γ : Cxt) (x : Str) : Bool := match Γ.sc.names.lookup x with
  | some .local => true | some .cell => Γ.fnB x | _ => false
def okName (x : Str) : Bool := !(x == ("__debug__" : Str)) && !(x == ("__classdict__" : Str))
def ixOf (N : List Str) (x : Str) : Option Nat := let i := N.findIdx fun y => decide (y = x); if N[i]? = some x then some i else none
def freeB (Γ : Cxt) (x : Str) : Bool := glB Γ.sc x && Γ.G.free.any fun y => decide (y = x)
def bopOf : Operator → Option Bop
  | .Add => some .add | .Sub => some .sub | .Mult => some .mul | .FloorDiv => some .fdiv | .Mod => some .mod | .Pow => some .pow | _ => none
def copOf : CmpOp → Option Cop
  | .Eq => some .eq | .NotEq => some .ne | .Lt => some .lt | .LtE => some .le | .Gt => some .gt | .GtE => some .ge | .In => some .in_ | .NotIn => some .nin | .Is => some .is_ | .IsNot => some .isn
def isSlice : Expr → Bool
  | .Slice .. => true | _ => false
def attrOk : Expr → Bool
  | .Call (.Name _ _) [] [] _ => false | _ => true
def tyOfN (x : Str) : Option Ty := if x = Str.ofString "int" then some .int else if x = Str.ofString "str" then some .str else if x = Str.ofString "bool" then some .bool else if x = Str.ofString "tuple" then some .tuple else if x = Str.ofString "list" then some .list else none
/-- a built-in by its name; true: a function, false: a type -/
def biTab : List (Str × Bi × Bool) := [(Str.ofString "len", .len, true), (Str.ofString "abs", .abs, true), (Str.ofString "int", .int, false), (Str.ofString "max", .max, true), (Str.ofString "min", .min, true), (Str.ofString "divmod", .divmod, true),
  (Str.ofString "tuple", .tuple, false), (Str.ofString "list", .list, false), (Str.ofString "bool", .bool, false), (Str.ofString "any", .any, true), (Str.ofString "all", .all, true), (Str.ofString "sum", .sum, true), (Str.ofString "repr", .repr, true)]
/-- what of math is known by its name -/
def mthBi (id : String) : Option Bi := if id = "math.comb" then some .comb else if id = "math.factorial" then some .fact else none
def biOf (x : Str) : Option (Bi × Bool) := (biTab.find? fun q => decide (q.1 = x)).map (·.2)
/-- list(range(..)), tuple(range(..)): the range's arguments -/
def rgArgs (Γ : Cxt) (x : Str) : List Expr → Option (Bool × List Expr)
  | [.Call (.Name y _) args [] _] => if decide (y = Str.ofString "range") && (freeB Γ y && freeB Γ x) then
      (if x = Str.ofString "list" then some (false, args) else if x = Str.ofString "tuple" then some (true, args) else none) else none
  | _ => none
def ownOf (N : List Str) (scope : Scope) : List (Str × Nat) := scope.names.filterMap fun p => match p.2 with
  | .local => (ixOf N p.1).map fun i => (p.1, i)
  | .cell => (ixOf N p.1).map fun i => (p.1, i)
  | _ => none
def tyNames : List Expr → Option (List (Ty × Pos))
  | [] => some []
  | .Name x p :: r => match tyOfN x, tyNames r with
    | some t, some ts => some ((t, p) :: ts)
    | _, _ => none
  | _ :: _ => none
def isTup : Expr → Bool
  | .Tuple .. => true | _ => false
mutual
def trT (Γ : Cxt) : Nat → Expr → Option Tg
  | _, .Name x _ => if locB Γ x then (ixOf Γ.N x).map .name else none
  | n + 1, .Tuple es _ _ => (trTs Γ n es).map .tup
  | _, _ => none
def trTs (Γ : Cxt) : Nat → List Expr → Option (List Tg)
  | n + 1, [] => some []
  | n + 1, e :: es => match trT Γ n e, trTs Γ n es with
    | some t, some ts => some (t :: ts)
    | _, _ => none
  | 0, _ => none
end
def Cxt.blk (Γ : Cxt) (scope : Scope) : Cxt := { Γ with sc := relS scope Γ.sc, fnB := fun x => scope.names.lookup x == some .cell }
def subset (a b : List Nat) : Bool := a.all fun i => b.contains i
def kwName : Keyword → Option Str
  | ⟨n, _, _⟩ => n
def kwVal : Keyword → Expr
  | ⟨_, v, _⟩ => v
mutual
def trE : Nat → Cxt → Expr → Option Ex
  | 0, _, _ => none
  | n + 1, Γ, e => match e with
    | .Constant (.int i) _ _ => some (.int i)
    | .Constant (.bool b) _ _ => some (.bl b)
    | .Constant .none _ _ => some .non
    | .Constant (.str x) _ _ => some (.str x)
    | .Name x _ => if okName x then (if visB Γ.sc x then (ixOf Γ.N x).map .var else if glB Γ.sc x then (ixOf Γ.G.consts x).map .cst else none) else none
    | .Tuple es _ _ => (trEs n Γ es).map .tup
    | .List es _ => (trEs n Γ es).map .lst
    | .Dict [] [] _ => some .dct
    | .BinOp a op b _ => match bopOf op, trE n Γ a, trE n Γ b with
      | some o, some x, some y => some (.bin o x y)
      | _, _, _ => none
    | .UnaryOp .USub a _ => (trE n Γ a).map .neg
    | .UnaryOp .Not a _ => (trE n Γ a).map .nt
    | .BoolOp .And es _ => trB n Γ true es
    | .BoolOp .Or es _ => trB n Γ false es
    | .Compare a [op] [b] _ => match copOf op, trE n Γ a, trE n Γ b with
      | some o, some x, some y => if behindInMarks op b then none else some (.cmp o x y)
      | _, _, _ => none
    | .Compare a [op, op'] [b, c] _ => match copOf op, copOf op', trE n Γ a, trE n Γ b, trE n Γ c with
      | some o, some p, some x, some y, some z => if behindInMarks op' c then none else some (.cmp2 o p x y z)
      | _, _, _, _, _ => none
    | .IfExp t a b _ => match trE n Γ t, trE n Γ a, trE n Γ b with
      | some x, some y, some z => some (.ife x y z)
      | _, _, _ => none
    | .Subscript a (.Slice none none (some (.UnaryOp .USub (.Constant (.int 1) _ _) _)) _) _ => (trE n Γ a).map .rev
    | .Subscript a (.Slice lo hi none _) _ => match trE n Γ a, trO n Γ lo, trO n Γ hi with
      | some x, some l, some h => some (.slc x l h)
      | _, _, _ => none
    | .Subscript a i _ => if isSlice i then none else match trE n Γ a, trE n Γ i with
      | some x, some y => some (.idx x y)
      | _, _ => none
    | .Call (.Attribute o m apos) args [] pos => if attrOk o && (apos.endLine == pos.line) then (match trE n Γ o with
        | none => none
        | some x => if m = Str.ofString "bit_length" then (match args with | [] => some (.meth .bits x []) | _ => none)
          else if m = Str.ofString "pop" then (match args with | [] => some (.meth .pop x []) | _ => none)
          else if m = Str.ofString "append" then (match args with | [a] => (trE n Γ a).map fun y => .meth .append x [y] | _ => none)
          else none) else none
    | .Call (.Name x _) args kws _ => if okName x && glB Γ.sc x then (match Γ.G.fix x with
        | some f => (match kws, args with
          | [], [] => none
          | [], a :: r => (trEs n Γ (a :: r)).map (.call f)
          | k :: ks, args => match Γ.G.kws.find? (fun q => decide (q.f = f) && (decide (q.n = args.length) && decide (q.ks.map some = (k :: ks).map kwName))), trEs n Γ args, trEs n Γ ((k :: ks).map kwVal) with
            | some q, some xs, some ys => some (.callk f xs ys q.perm)
            | _, _, _ => none)
        | none => (match kws with
          | _ :: _ => none
          | [] => match rgArgs Γ x args with
            | some (tt, ras) => (match ras with
              | [a] => (trE n Γ a).map fun y => .lrg tt [y]
              | [a, b] => (match trE n Γ a, trE n Γ b with | some y, some z => some (.lrg tt [y, z]) | _, _ => none)
              | _ => none)
            | none => if x = Str.ofString "isinstance" then (if freeB Γ x then (match args with
              | [e, .Name y _] => (match tyOfN y, trE n Γ e with
                | some t, some z => if freeB Γ y then some (.isi z [t]) else none
                | _, _ => none)
              | [e, .Tuple es _ _] => (match tyNames es, trE n Γ e with
                | some ts, some z => if ts.all (fun t => freeB Γ (Str.ofString t.1.nm)) && decide (ts.length ≤ 1000) then some (.isi z (ts.map (·.1))) else none
                | _, _ => none)
              | _ => none) else none)
            else if x = Str.ofString "gcd" then (if Γ.G.gcd then (match args with | a :: r => (trEs n Γ (a :: r)).map (.bi .gcd) | [] => none) else none)
            else match Γ.G.mth.find? fun q => decide (q.1 = x) with
              | some q => (match mthBi q.2, args with | some b, a :: r => (trEs n Γ (a :: r)).map (.bi b) | _, _ => none)
              | none => match biOf x with
              | some (b, _) => if freeB Γ x then (match args with | a :: r => (trEs n Γ (a :: r)).map (.bi b) | [] => none) else none
              | none => none)) else none
    | .ListComp elt [⟨tg, iter, ifs, 0⟩] scope _ =>
      let own := ownOf Γ.N scope
      if blkC Γ.N Γ.sc scope own then (match trI n Γ (isTup tg) iter, trT (Γ.blk scope) 9 tg, trE n (Γ.blk scope) elt with
        | some it, some t, some el => if subset t.ix (own.map (·.2)) then (match ifs with
            | [] => some (.lc el t it [] (own.map (·.2)))
            | [c] => (trE n (Γ.blk scope) c).map fun c' => .lc el t it [c'] (own.map (·.2))
            | _ => none) else none
        | _, _, _ => none) else none
    | _ => none
def trEs : Nat → Cxt → List Expr → Option (List Ex)
  | 0, _, _ => none
  | n + 1, _, [] => some []
  | n + 1, Γ, e :: es => match trE n Γ e, trEs n Γ es with
    | some x, some xs => some (x :: xs)
    | _, _ => none
/-- and, or -/
def trB : Nat → Cxt → Bool → List Expr → Option Ex
  | 0, _, _, _ => none
  | n + 1, Γ, _, [a] => trE n Γ a
  | n + 1, Γ, k, a :: b :: r => match trE n Γ a, trB n Γ k (b :: r) with
    | some x, some y => some (if k then .and_ x y else .or_ x y)
    | _, _ => none
  | _ + 1, _, _, [] => none
def trO : Nat → Cxt → Option Expr → Option (List Ex)
  | 0, _, _ => none
  | n + 1, _, none => some []
  | n + 1, Γ, some e => (trE n Γ e).map fun x => [x]
/-- what is walked; tup: the target is a tuple -/
def trI : Nat → Cxt → Bool → Expr → Option Ex
  | 0, _, _, _ => none
  | n + 1, Γ, tup, e => match e with
    | .Call (.Name x _) args [] _ => if freeB Γ x && (x = Str.ofString "range" || (tup && (x = Str.ofString "enumerate" || x = Str.ofString "zip"))) then
        (if x = Str.ofString "range" then (match args with
          | [a] => (trE n Γ a).map fun y => .range [y]
          | [a, b] => (match trE n Γ a, trE n Γ b with | some y, some z => some (.range [y, z]) | _, _ => none)
          | [a, b, c] => (match trE n Γ a, trE n Γ b, trE n Γ c with | some y, some z, some w => some (.range [y, z, w]) | _, _, _ => none)
          | _ => none)
        else if x = Str.ofString "enumerate" then (match args with | [a] => (trE n Γ a).map .enum | _ => none)
        else (match args with | [a, b] => (match trE n Γ a, trE n Γ b with | some y, some z => some (.zip y z) | _, _ => none) | _ => none))
      else (trE n Γ e).map .seq
    | _ => (trE n Γ e).map .seq
end
end DL

end
section
set_option maxHeartbeats 4000000
/-! # DL: exceptions of own classes: their making -/
namespace DL
open PySem PySem.Spec PyProof.Rows L2
theorem okName_ok {x : Str} (h : okName x = true) : (x == ("__debug__" : Str)) = false ∧ (x == ("__classdict__" : Str)) = false := by
  unfold okName at h
  rw [Bool.and_eq_true, Bool.not_eq_true', Bool.not_eq_true'] at h
  exact h
/-- the body of such an __init__: each of fs is kept by its own name -/
def initB : List Str → List Stmt → Bool
  | [], b => b.isEmpty
  | f :: fs, b => match b with
    | .Assign [.Attribute (.Name o _) g _] (.Name v _) _ :: r => decide (o = Str.ofString "self") && (decide (g = f) && (decide (v = f) && initB fs r))
    | _ => false
theorem initB_nil {body : List Stmt} (h : initB [] body = true) : body = [] := List.isEmpty_iff.mp h
theorem initB_cons {f : Str} {fs : List Str} {body : List Stmt} (h : initB (f :: fs) body = true) : ∃ p1 p2 p3 p4 r, body = .Assign [.Attribute (.Name (Str.ofString "self") p1) f p2] (.Name f p3) p4 :: r ∧ initB fs r = true := by
  unfold initB at h
  split at h
  · simp only [Bool.and_eq_true, decide_eq_true_eq] at h
    obtain ⟨h1, h2, h3, h4⟩ := h
    subst h1 h2 h3
    exact ⟨_, _, _, _, _, rfl, h4⟩
  · cases h
/-- what an __init__ leaves -/
def spI (K : Frag) (C : Addr) (fs : List Str) : Sp := fun vs H Q _ => ∃ a ws, vs = .ref a :: ws ∧ ws.length = fs.length ∧ H a = some (exo a C none) ∧
  ∀ dx, H dx = none → dx ≠ a → Q .non (upd (upd H dx (exd dx (fs.zip ws).reverse)) a (exo a C (some dx)))
theorem upd_swap {H : Hp} {a b : Addr} {o u v : HO} (h : b ≠ a) : upd (upd (upd H b o) a u) b v = upd (upd H b v) a u := by
  funext c
  by_cases e : c = a
  · subst e
    rw [upd_ne (Ne.symm h), upd_same, upd_same]
  · by_cases e2 : c = b
    · subst e2
      rw [upd_same, upd_ne e, upd_same]
    · rw [upd_ne e2, upd_ne e, upd_ne e2, upd_ne e, upd_ne e2]
section
variable {P : Program} {w : World} {K : Frag} {mg : Str → Option Value} {base : Heap}
theorem init_ok {x qual : Str} {st : Stmt} {f C : Addr} {fd : FuncData} {fs : List Str} (F : FunD K x qual (defArgs st) (defBody st) (defScope st) [] [] f fd) (S : FnScope (Str.ofString "self" :: fs) (Str.ofString "self" :: fs) (defScope st)) (T : OexC K C) (hb : initB fs (defBody st) = true)
    (hf : 0 < fs.length ∧ fs.length ≤ 2) (hno : ∀ g ∈ fs, PySem.W.findIn K (.ref C) g = some none) (hn : ∀ g ∈ fs, okName g = true) : FnOk P w K mg base (L2.CX P w) 1 f fd (Str.ofString "self" :: fs) (spI K C fs) := by
  have len : ∀ (vs : List V) (H : Hp) (Q : VK) (E : XK), spI K C fs vs H Q E → vs.length = (Str.ofString "self" :: fs).length := fun vs H Q E ⟨a, ws, e, l, _⟩ => by rw [e]; simp [l]
  refine F.ok (k := 0) S len fun cdv A outer s H vs Q E hr ⟨a, ws, ev, hl, ha, hq⟩ => ?_
  subst ev
  obtain ⟨X, hX⟩ : ∃ X, X = cxOf (L2.CX P w) P w K mg base (Str.ofString "self" :: fs) qual (defScope st) f cdv A outer s H E := ⟨_, rfl⟩
  rw [← hX]
  have xN : X.N = Str.ofString "self" :: fs := by rw [hX]; rfl
  have xK : X.K = K := by rw [hX]; rfl
  have vis : ∀ g ∈ (Str.ofString "self" :: fs), Vis X.env.scope g := fun g hg => by
    rw [hX]
    rcases S.par g hg with h | h
    · exact .inl h
    · exact .inr (.inl h)
  have self : ∀ p, PE X (.Name (Str.ofString "self") p) (tVar 0) := fun p => pe_var (by rw [xN]; rfl) (vis _ (List.mem_cons_self ..)) (by decide) (by decide)
  have arg : ∀ (i : Nat) (g : Str) p, fs[i]? = some g → PE X (.Name g p) (tVar (i + 1)) := fun i g p hg => by
    have hm := List.mem_of_getElem? hg
    obtain ⟨n1, n2⟩ := okName_ok (hn g hm)
    exact pe_var (by rw [xN]; exact hg) (vis g (List.mem_cons_of_mem _ hm)) n1 n2
  revert hb
  generalize defBody st = body
  intro hb
  obtain ⟨f1, fs, rfl⟩ : ∃ f1 r, fs = f1 :: r := by
    cases fs with
    | nil => exact absurd hf.1 (by simp)
    | cons a b => exact ⟨a, b, rfl⟩
  obtain ⟨y1, ws, rfl⟩ : ∃ y r, ws = y :: r := by
    cases ws with
    | nil => cases hl
    | cons a b => exact ⟨a, b, rfl⟩
  obtain ⟨p1, p2, p3, p4, body2, rfl, hb2⟩ := initB_cons hb
  have st1 := ps_ost (f := f1) (p' := p2) (pos := p4) (self p1) (arg 0 f1 p3 rfl)
  have c1 : PySem.W.findIn X.K (.ref C) f1 = some none := by rw [xK]; exact hno _ (List.mem_cons_self ..)
  have T' : OexC X.K C := by rw [xK]; exact T
  cases fs with
  | nil =>
    cases ws with
    | cons _ _ => cases hl
    | nil =>
      cases initB_nil hb2
      refine ⟨_, pss_cons st1 pss_nil, ?_⟩
      exact ⟨y1, rfl, .ref a, rfl, a, C, rfl, T', c1, .inl ⟨ha, fun dx n1 n2 => hq dx n1 n2⟩⟩
  | cons f2 fs =>
    cases fs with
    | cons _ _ => exact absurd hf.2 (by simp)
    | nil =>
      cases ws with
      | nil => cases hl
      | cons y2 ws =>
        cases ws with
        | cons _ _ => cases hl
        | nil =>
          obtain ⟨q1, q2, q3, q4, body3, rfl, hb3⟩ := initB_cons hb2
          cases initB_nil hb3
          refine ⟨_, pss_cons st1 (pss_cons (ps_ost (f := f2) (p' := q2) (pos := q4) (self q1) (arg 1 f2 q3 rfl)) pss_nil), ?_⟩
          refine ⟨y1, rfl, .ref a, rfl, a, C, rfl, T', c1, .inl ⟨ha, fun dx n1 n2 => ?_⟩⟩
          refine ⟨y2, rfl, .ref a, rfl, a, C, rfl, T', by rw [xK]; exact hno _ (List.mem_cons_of_mem _ (List.mem_cons_self ..)), .inr ⟨dx, _, upd_same, (upd_ne n2).trans upd_same, by simp, ?_⟩⟩
          have := hq dx n1 n2
          show Q .non (upd (upd (upd H dx (exd dx [(f1, y1)])) a (exo a C (some dx))) dx (exd dx [(f2, y2), (f1, y1)]))
          rw [upd_swap n2]
          exact this
end
/-- how an exception of the class numbered c lies -/
def XAof (K : Frag) (mg : Str → Option Value) (G : Gm) (c : Nat) (as : List D) (H : Hp) (ρ : List Addr) (cls : Value) (d : Option Addr) : Prop :=
  ∃ x fs Ca dx ws, G.exc[c]? = some (x, fs) ∧ mg x = some (.ref Ca) ∧ cls = .ref Ca ∧ d = some dx ∧ H dx = some (.xd (fs.zip ws).reverse) ∧ AtL K H ρ as ws ∧ ws.length = fs.length
theorem XAof.mono {K : Frag} {mg : Str → Option Value} {G : Gm} {c : Nat} {as : List D} {H H' : Hp} {ρ ρ' : List Addr} {cls : Value} {d : Option Addr} (st : Step H ρ H' ρ') (h : XAof K mg G c as H ρ cls d) : XAof K mg G c as H' ρ' cls d := by
  obtain ⟨x, fs, Ca, dx, ws, h1, h2, h3, h4, h5, h6, h7⟩ := h
  exact ⟨x, fs, Ca, dx, ws, h1, h2, h3, h4, st.ext.xd _ _ h5, h6.mono st, h7⟩
/-- what the text says of a class of exceptions -/
structure ExOk (K : Frag) (mg : Str → Option Value) (x : Str) (fs : List Str) (Ca : Addr) : Prop where
  glob : mg x = some (.ref Ca)
  make : fs ≠ [] → OexC K Ca ∧ XfC K Ca ∧ (0 < fs.length ∧ fs.length ≤ 2 ∧ fs.Nodup) ∧ (∀ g ∈ fs, PySem.W.findIn K (.ref Ca) g = some none) ∧ (∀ g ∈ fs, okName g = true) ∧
    ∃ st qual fI fd, PySem.W.findIn K (.ref Ca) "__init__" = some (some (.ref fI)) ∧ PySem.W.typeIn K (.ref fI) = some (.type "function") ∧ FunD K (Str.ofString "__init__") qual (defArgs st) (defBody st) (defScope st) [] [] fI fd ∧
      FnScope (Str.ofString "self" :: fs) (Str.ofString "self" :: fs) (defScope st) ∧ initB fs (defBody st) = true ∧ Binds K fd (Str.ofString "self" :: fs) []
end DL

end
section
set_option maxHeartbeats 8000000
/-! # DL: the translation of expressions is sound -/
namespace DL
open PySem PySem.Spec PyProof.Rows L2

structure Good (X : Cx) (Γ : Cxt) (P : Pm) (k : Nat) (F : Nat → List D → Store → R D) (C : List D) (fa : Nat → Addr) (fd : Nat → FuncData) : Prop where
  hK : P.K = X.K
  N : X.N = Γ.N
  nd : X.N.Nodup
  sc : X.env.scope = Γ.sc
  kind : Γ.sc.kind = .function
  fnO : ∀ x, Γ.fnB x = true → X.fn x = true
  calm : X.calm = true
  js : ∀ σ, P.Js σ
  k2 : 2 ≤ k
  xa : P.XA = XAof P.K X.mg Γ.G
  exc : ∀ (c : Nat) x fs, Γ.G.exc[c]? = some (x, fs) → ∃ Ca, ExOk X.K X.mg x fs Ca
  cat : ∀ (c i : Nat) x y fs gs Ca Da, Γ.G.exc[c]? = some (x, fs) → Γ.G.exc[i]? = some (y, gs) → X.mg x = some (.ref Ca) → X.mg y = some (.ref Da) → PySem.W.exmOne X.K (.ref Ca) (.ref Da) = some (Γ.G.cat i c)
  tk : Takes X P.W
  rm : Room k X.A
  gd : X.A.guards = some []
  free : ∀ x ∈ Γ.G.free, X.mg x = none
  gcd : Γ.G.gcd = true → X.mg "gcd" = some (.builtin "math.gcd")
  mth : ∀ q ∈ Γ.G.mth, X.mg q.1 = some (.builtin q.2)
  con : ∀ (c : Nat) x, Γ.G.consts[c]? = some x → ∃ d u v, C[c]? = some d ∧ X.mg x = some u ∧ RelV v u ∧ ∀ H ρ, At X.K H ρ d v
  fns : ∀ (i : Nat) x ps, Γ.G.fns[i]? = some (x, ps) → (∃ P0, FnG X.prog X.w X.K X.mg X.base (L2.CX X.prog X.w) k (fa i) (fd i) ps (spD P0 ps.length (F i)) ∧ P0.K = P.K ∧ P0.XA = P.XA) ∧ X.mg x = some (.ref (fa i)) ∧ PySem.W.keepIn X.K (.ref (fa i)) = true ∧ Binds X.K (fd i) ps [] ∧ Arity ps.length (F i)
  kws : ∀ q ∈ Γ.G.kws, ∀ x ps, Γ.G.fns[q.f]? = some (x, ps) → ∀ (s : Shared) (us ws : List Value), X.K.In s.heap → us.length = q.n → ws.length = q.ks.length → BindsTo s (fd q.f) ⟨us, q.ks.zip ws⟩ (ps.zip (permL q.perm (us ++ ws)))
section
variable {X : Cx} {Γ : Cxt} {P : Pm} {k : Nat} {F : Nat → List D → Store → R D} {C : List D} {fa : Nat → Addr} {fd : Nat → FuncData}
theorem Good.ru (g : Good X Γ P k F C fa fd) : X.A.units + 65 < cLine := by have := g.rm.un; omega
theorem Good.gl (g : Good X Γ P k F C fa fd) {x : Str} (h : glB Γ.sc x = true) : Gl X x := by
  show X.env.scope.names.lookup x = some .globalImplicit
  rw [g.sc]
  unfold glB at h
  split at h
  · assumption
  · cases h
theorem Good.vis (g : Good X Γ P k F C fa fd) {x : Str} (h : visB Γ.sc x = true) : Vis X.env.scope x := by
  rw [g.sc]
  unfold visB at h
  split at h
  · exact .inl (by assumption)
  · exact .inr (.inl (by assumption))
  · exact .inr (.inr (by assumption))
  · cases h
theorem Good.loc (g : Good X Γ P k F C fa fd) {x : Str} (h : locB Γ x = true) : Loc X.env.scope x ∧ (X.fn x = true ∨ X.env.scope.names.lookup x = some .local) := by
  rw [g.sc]
  unfold locB at h
  split at h
  · exact ⟨.inl (by assumption), .inr (by assumption)⟩
  · exact ⟨.inr (by assumption), .inl (g.fnO x h)⟩
  · cases h
theorem ixOf_ok {N : List Str} {x : Str} {i : Nat} (h : ixOf N x = some i) : N[i]? = some x := by
  unfold ixOf at h
  simp only at h
  split at h
  · cases h; assumption
  · cases h
theorem Good.ix (g : Good X Γ P k F C fa fd) {x : Str} {i : Nat} (h : ixOf Γ.N x = some i) : X.N[i]? = some x := by rw [g.N]; exact ixOf_ok h
theorem Good.fr (g : Good X Γ P k F C fa fd) {x : Str} (h : freeB Γ x = true) : Gl X x ∧ X.mg x = none := by
  unfold freeB at h
  rw [Bool.and_eq_true] at h
  refine ⟨g.gl h.1, ?_⟩
  obtain ⟨y, hy, e⟩ := List.any_eq_true.mp h.2
  have : y = x := of_decide_eq_true e
  subst this
  exact g.free y hy
theorem Good.blk (g : Good X Γ P k F C fa fd) (s : Shared) (H : Hp) (scope : Scope) (Ca : Addr) (cl : List (Str × Addr)) (fp : List Addr) (hk : scope.kind = .function) :
    Good (X.blk s H scope (compEnvC scope cl Ca X.env) fp) (Γ.blk scope) P.shut k F C fa fd where
  hK := g.hK
  N := g.N
  nd := g.nd
  sc := by
    show relS scope X.env.scope = relS scope Γ.sc
    rw [g.sc]
  kind := hk
  fnO := fun x h => h
  calm := g.calm
  js := g.js
  k2 := g.k2
  xa := g.xa
  exc := g.exc
  cat := g.cat
  gd := g.gd
  tk := takes0
  rm := g.rm
  free := g.free
  gcd := g.gcd
  mth := g.mth
  con := g.con
  fns := fun i x ps h => let ⟨⟨P0, a, b, c⟩, r⟩ := g.fns i x ps h; ⟨⟨P0, a, b, c⟩, r⟩
  kws := g.kws
end
/-! ### small facts of syntax -/
theorem star_ok {n : Nat} {Γ : Cxt} {e : Expr} {x : Ex} (h : trE n Γ e = some x) (es : List Expr) (env : Env) : starEach (e :: es) env = (false, eval e env) :: starEach es env := by
  cases n with
  | zero => simp [trE] at h
  | succ n => cases e <;> first | rfl | (simp [trE] at h)
theorem any_star {pos : Pos} {env : Env} : ∀ {es : List Expr} {n : Nat} {Γ : Cxt} {xs : List Ex}, trEs n Γ es = some xs → (backTo pos (starEach es env)).any (·.1) = false
  | [], _, _, _, _ => rfl
  | e :: es, 0, _, _, h => by simp [trEs] at h
  | e :: es, n + 1, Γ, xs, h => by
    simp only [trEs] at h
    split at h
    · rename_i x ys h1 h2
      rw [star_ok h1]
      show (false || (backTo pos (starEach es env)).any (·.1)) = false
      rw [any_star h2, Bool.or_false]
    · cases h
theorem fold_ok {iter : Expr} {env : Env} (h : ∀ a b c, iter ≠ .Set a b c) : ∀ x, foldedSetIterable iter env x = pure x := by
  intro x
  unfold foldedSetIterable
  cases iter <;> first | rfl | (exact absurd rfl (h _ _ _))
theorem trE_noset {n : Nat} {Γ : Cxt} {e : Expr} {x : Ex} (h : trE n Γ e = some x) : ∀ a b c, e ≠ .Set a b c := by
  rintro a b c rfl
  cases n with
  | zero => simp [trE] at h
  | succ n => simp [trE] at h
theorem attr_ok {o : Expr} {m : Str} {env : Env} (h : attrOk o = true) (w : Sem Value) : attributeBase o m env w = w := by
  unfold attributeBase
  split
  · simp [attrOk] at h
  · rfl
theorem copOf_py {op : CmpOp} {o : Cop} (h : copOf op = some o) : op = o.py := by
  cases op <;> cases h <;> rfl
theorem behind_b {op : CmpOp} {b : Expr} (h : ¬ behindInMarks op b = true) : behindInMarks op b = false := by
  cases e : behindInMarks op b
  · rfl
  · exact absurd e h
theorem bl_kind {N : List Str} {sc scope : Scope} {own : List (Str × Nat)} (h : blkC N sc scope own = true) : scope.kind = .function := (blkOk_by h).kind
theorem evs_len {F : Nat → List D → Store → R D} {C : List D} : ∀ {xs : List Ex} {env : En} {S S' : Store} {d : List D}, evs F C xs env S = .ok d S' → d.length = xs.length
  | [], env, S, S', d, h => by cases h; rfl
  | x :: xs, env, S, S', d, h => by
    have h : ((ev F C x env S).bind fun v S1 => (evs F C xs env S1).bind fun vs S2 => .ok (v :: vs) S2) = .ok d S' := h
    obtain ⟨v, S1, _, h⟩ := bind_ok h
    obtain ⟨vs, S2, h2, h⟩ := bind_ok h
    cases h
    simp [evs_len h2]
theorem trEs_len : ∀ {es : List Expr} {n : Nat} {Γ : Cxt} {xs : List Ex}, trEs n Γ es = some xs → xs.length = es.length
  | [], 0, _, _, h => by simp [trEs] at h
  | [], n + 1, _, _, h => by simp only [trEs] at h; cases h; rfl
  | e :: es, 0, _, _, h => by simp [trEs] at h
  | e :: es, n + 1, Γ, xs, h => by
    simp only [trEs] at h
    split at h
    · rename_i x ys h1 h2
      cases h
      simp [trEs_len h2]
    · cases h
theorem subset_ok {a b : List Nat} (h : subset a b = true) : ∀ j ∈ a, j ∈ b := fun j hj => by
  unfold subset at h
  have := List.all_eq_true.mp h j hj
  simpa using this
theorem assign_star {Γ : Cxt} {e : Expr} {n : Nat} {t : Tg} (h : trT Γ n e = some t) (es : List Expr) (env : Env) : assignEach (e :: es) env = (false, assign e env) :: assignEach es env := by
  cases e <;> first | rfl | (cases n <;> simp [trT] at h)

section
variable {k : Nat} {F : Nat → List D → Store → R D} {C : List D} {fa : Nat → Addr} {fd : Nat → FuncData}
mutual
def gOf (K : Frag) : Tg → TG
  | .name i => gName i
  | .tup ts => gSeq K ts.length (gsOf K ts)
def gsOf (K : Frag) : List Tg → TGs
  | [] => gNil
  | t :: ts => gCons (gOf K t) (gsOf K ts)
end
mutual
theorem trT_ok : ∀ (n : Nat) (e : Expr) (t : Tg) (X : Cx) (Γ : Cxt) (P : Pm), Good X Γ P k F C fa fd → trT Γ n e = some t → PG X e (gOf X.K t) ∧ PutOk X.K (gOf X.K t) t
  | n, .Name x pos, t, X, Γ, P, gd, h => by
    have h : (if locB Γ x then (ixOf Γ.N x).map Tg.name else none) = some t := by cases n <;> simpa only [trT] using h
    split at h
    · rename_i hl
      cases ei : ixOf Γ.N x with
      | none => rw [ei] at h; cases h
      | some i =>
        rw [ei] at h; cases h
        obtain ⟨l1, l2⟩ := gd.loc hl
        exact ⟨pg_name gd.nd (gd.ix ei) l1 l2, put_name i⟩
    · cases h
  | n + 1, .Tuple es kk pos, t, X, Γ, P, gd, h => by
    simp only [trT] at h
    cases e1 : trTs Γ n es with
    | none => rw [e1] at h; cases h
    | some ts =>
      rw [e1] at h; cases h
      obtain ⟨h1, h2, h3, h4⟩ := trTs_ok n es ts X Γ P gd e1
      exact ⟨pg_seq gd.calm h1 h3 h4, put_tup h2⟩
  | 0, .Tuple es kk pos, t, X, Γ, P, gd, h => by simp [trT] at h
  | n, .BoolOp .., t, X, Γ, P, gd, h => by cases n <;> simp [trT] at h
  | n, .NamedExpr .., t, X, Γ, P, gd, h => by cases n <;> simp [trT] at h
  | n, .BinOp .., t, X, Γ, P, gd, h => by cases n <;> simp [trT] at h
  | n, .UnaryOp .., t, X, Γ, P, gd, h => by cases n <;> simp [trT] at h
  | n, .Lambda .., t, X, Γ, P, gd, h => by cases n <;> simp [trT] at h
  | n, .IfExp .., t, X, Γ, P, gd, h => by cases n <;> simp [trT] at h
  | n, .Dict .., t, X, Γ, P, gd, h => by cases n <;> simp [trT] at h
  | n, .Set .., t, X, Γ, P, gd, h => by cases n <;> simp [trT] at h
  | n, .ListComp .., t, X, Γ, P, gd, h => by cases n <;> simp [trT] at h
  | n, .SetComp .., t, X, Γ, P, gd, h => by cases n <;> simp [trT] at h
  | n, .DictComp .., t, X, Γ, P, gd, h => by cases n <;> simp [trT] at h
  | n, .GeneratorExp .., t, X, Γ, P, gd, h => by cases n <;> simp [trT] at h
  | n, .Await .., t, X, Γ, P, gd, h => by cases n <;> simp [trT] at h
  | n, .Yield .., t, X, Γ, P, gd, h => by cases n <;> simp [trT] at h
  | n, .YieldFrom .., t, X, Γ, P, gd, h => by cases n <;> simp [trT] at h
  | n, .Compare .., t, X, Γ, P, gd, h => by cases n <;> simp [trT] at h
  | n, .Call .., t, X, Γ, P, gd, h => by cases n <;> simp [trT] at h
  | n, .FormattedValue .., t, X, Γ, P, gd, h => by cases n <;> simp [trT] at h
  | n, .JoinedStr .., t, X, Γ, P, gd, h => by cases n <;> simp [trT] at h
  | n, .Constant .., t, X, Γ, P, gd, h => by cases n <;> simp [trT] at h
  | n, .Attribute .., t, X, Γ, P, gd, h => by cases n <;> simp [trT] at h
  | n, .Subscript .., t, X, Γ, P, gd, h => by cases n <;> simp [trT] at h
  | n, .Starred .., t, X, Γ, P, gd, h => by cases n <;> simp [trT] at h
  | n, .List .., t, X, Γ, P, gd, h => by cases n <;> simp [trT] at h
  | n, .Slice .., t, X, Γ, P, gd, h => by cases n <;> simp [trT] at h
theorem trTs_ok : ∀ (n : Nat) (es : List Expr) (ts : List Tg) (X : Cx) (Γ : Cxt) (P : Pm), Good X Γ P k F C fa fd → trTs Γ n es = some ts →
    PGs X es (gsOf X.K ts) ∧ PutsOk X.K (gsOf X.K ts) ts ∧ (assignEach es X.env).length = ts.length ∧ (assignEach es X.env).findIdx? (·.1) = none
  | 0, es, ts, X, Γ, P, gd, h => by simp [trTs] at h
  | n + 1, [], ts, X, Γ, P, gd, h => by
    simp only [trTs] at h; cases h
    exact ⟨pgs_nil, puts_nil, rfl, rfl⟩
  | n + 1, e :: es, ts, X, Γ, P, gd, h => by
    simp only [trTs] at h
    split at h
    · rename_i t ts' h1 h2
      cases h
      obtain ⟨p1, p2⟩ := trT_ok n e t X Γ P gd h1
      obtain ⟨q1, q2, q3, q4⟩ := trTs_ok n es ts' X Γ P gd h2
      have ea := assign_star h1 es X.env
      refine ⟨pgs_cons p1 q1 (by rw [ea]; rfl), puts_cons p2 q2, by rw [ea]; simp [q3], ?_⟩
      rw [ea, List.findIdx?_cons]
      simp [q4]
    · cases h
end
end
end DL

end
section
set_option maxHeartbeats 16000000
/-! # DL: the translation of expressions is sound, the induction -/
namespace DL
open PySem PySem.Spec PyProof.Rows L2
theorem lst_inv {K : Frag} {H : Hp} {ρ : List Addr} {S : Store} {d : D} {l : List D} {v : V} (r : Rep K H ρ S) (h : At K H ρ d v) (e : lstOf S d = some l) : ∃ a xs, v = .ref a ∧ SqL K H a xs ∧ AtL K H ρ l xs := by
  cases d <;> simp only [lstOf] at e <;> try cases e
  · obtain ⟨a, xs, rfl, s, q⟩ := h.fz_inv
    exact ⟨a, xs, rfl, s.l, q⟩
  · obtain ⟨a, rfl, ea⟩ := h.ref_inv
    obtain ⟨b, xs, eb, hb, q⟩ := r.get e
    rw [ea] at eb; cases eb
    exact ⟨a, xs, rfl, .inl (.inl hb), q⟩
theorem allBl_at {K : Frag} {H : Hp} {ρ : List Addr} : ∀ {l : List D} {bs : List Bool} {xs : List V}, allBl l = some bs → AtL K H ρ l xs → xs = bs.map V.bl
  | [], bs, xs, h, a => by cases h; exact AtL_nil_of a
  | d :: l, bs, xs, h, a => by
    obtain ⟨v, r, rfl, av, ar⟩ := a.inv
    cases d <;> simp only [allBl] at h <;> try cases h
    obtain ⟨cs, e, rfl⟩ := Option.map_eq_some_iff.mp h
    rw [av.bl_inv, allBl_at e ar]; rfl
theorem allInt_at {K : Frag} {H : Hp} {ρ : List Addr} : ∀ {l : List D} {bs : List Int} {xs : List V}, allInt l = some bs → AtL K H ρ l xs → xs = bs.map V.int
  | [], bs, xs, h, a => by cases h; exact AtL_nil_of a
  | d :: l, bs, xs, h, a => by
    obtain ⟨v, r, rfl, av, ar⟩ := a.inv
    cases d <;> simp only [allInt] at h <;> try cases h
    obtain ⟨cs, e, rfl⟩ := Option.map_eq_some_iff.mp h
    rw [av.int_inv, allInt_at e ar]; rfl
section
variable {X : Cx} {P : Pm}
theorem bi_any (hK : P.K = X.K) (hc : X.calm = true) : CallR X (.builtin "any") (rC P (biD .any)) := by
  refine CallR.imp (cr_any hc) fun xs H Q ⟨ρ, ds, S, r, ha, h⟩ => ?_
  match ds, ha, h with
  | [d], ha, h =>
    obtain ⟨v, rfl, av⟩ := ha.one
    have h : PostN P H ρ (relV P) (match (lstOf S d).bind allBl with | some l => .ok (.bl (l.any id)) S | none => .bad) Q := h
    cases e : lstOf S d with
    | none => rw [e] at h; exact False.elim h
    | some l =>
      rw [e] at h
      have h : PostN P H ρ (relV P) (match allBl l with | some l => .ok (.bl (l.any id)) S | none => .bad) Q := h
      cases e2 : allBl l with
      | none => rw [e2] at h; exact False.elim h
      | some bs =>
        rw [e2] at h
        obtain ⟨a, ys, rfl, s, q⟩ := lst_inv r av e
        cases allBl_at e2 q
        exact ⟨a, bs, rfl, hK ▸ s, h _ _ _ (.refl H ρ) r .mk_bl⟩
  | [], _, h => exact False.elim h
  | _ :: _ :: _, _, h => exact False.elim h
theorem bi_all (hK : P.K = X.K) (hc : X.calm = true) : CallR X (.builtin "all") (rC P (biD .all)) := by
  refine CallR.imp (cr_all hc) fun xs H Q ⟨ρ, ds, S, r, ha, h⟩ => ?_
  match ds, ha, h with
  | [d], ha, h =>
    obtain ⟨v, rfl, av⟩ := ha.one
    have h : PostN P H ρ (relV P) (match (lstOf S d).bind allBl with | some l => .ok (.bl (l.all id)) S | none => .bad) Q := h
    cases e : lstOf S d with
    | none => rw [e] at h; exact False.elim h
    | some l =>
      rw [e] at h
      have h : PostN P H ρ (relV P) (match allBl l with | some l => .ok (.bl (l.all id)) S | none => .bad) Q := h
      cases e2 : allBl l with
      | none => rw [e2] at h; exact False.elim h
      | some bs =>
        rw [e2] at h
        obtain ⟨a, ys, rfl, s, q⟩ := lst_inv r av e
        cases allBl_at e2 q
        exact ⟨a, bs, rfl, hK ▸ s, h _ _ _ (.refl H ρ) r .mk_bl⟩
  | [], _, h => exact False.elim h
  | _ :: _ :: _, _, h => exact False.elim h
theorem bi_sum (hK : P.K = X.K) (hc : X.calm = true) : CallR X (.builtin "sum") (rC P (biD .sum)) := by
  refine CallR.imp (cr_sum hc) fun xs H Q ⟨ρ, ds, S, r, ha, h⟩ => ?_
  match ds, ha, h with
  | [d], ha, h =>
    obtain ⟨v, rfl, av⟩ := ha.one
    have h : PostN P H ρ (relV P) (match (lstOf S d).bind allInt with | some l => .ok (.int l.sum) S | none => .bad) Q := h
    cases e : lstOf S d with
    | none => rw [e] at h; exact False.elim h
    | some l =>
      rw [e] at h
      have h : PostN P H ρ (relV P) (match allInt l with | some l => .ok (.int l.sum) S | none => .bad) Q := h
      cases e2 : allInt l with
      | none => rw [e2] at h; exact False.elim h
      | some bs =>
        rw [e2] at h
        obtain ⟨a, ys, rfl, s, q⟩ := lst_inv r av e
        cases allInt_at e2 q
        exact ⟨a, bs, rfl, hK ▸ s, h _ _ _ (.refl H ρ) r .mk_int⟩
  | [], _, h => exact False.elim h
  | _ :: _ :: _, _, h => exact False.elim h
end
def BiOk (X : Cx) (P : Pm) (x : Str) (b : Bi) (fn : Bool) : Prop := ∃ id : String, x ≠ "__name__" ∧
    ((fn = true ∧ bootBuiltins x = some (.builtin id) ∧ CallR X (.builtin id) (rC P (biD b))) ∨ (fn = false ∧ bootBuiltins x = some (.type id) ∧ CallR X (.type id) (rC P (biD b))))
theorem biTab_ok {X : Cx} {P : Pm} (hK : P.K = X.K) (hc : X.calm = true) (hgd : X.A.guards = some []) (hu : X.A.units + 100 < cLine) : ∀ q ∈ biTab, BiOk X P q.1 q.2.1 q.2.2 := by
  unfold biTab
  refine List.forall_mem_cons.mpr ⟨⟨"len", by decide +kernel, .inl ⟨rfl, by decide +kernel, bi_len hK⟩⟩, ?_⟩
  refine List.forall_mem_cons.mpr ⟨⟨"abs", by decide +kernel, .inl ⟨rfl, by decide +kernel, bi_abs⟩⟩, ?_⟩
  refine List.forall_mem_cons.mpr ⟨⟨"int", by decide +kernel, .inr ⟨rfl, by decide +kernel, bi_int⟩⟩, ?_⟩
  refine List.forall_mem_cons.mpr ⟨⟨"max", by decide +kernel, .inl ⟨rfl, by decide +kernel, bi_max hc⟩⟩, ?_⟩
  refine List.forall_mem_cons.mpr ⟨⟨"min", by decide +kernel, .inl ⟨rfl, by decide +kernel, bi_min hc⟩⟩, ?_⟩
  refine List.forall_mem_cons.mpr ⟨⟨"divmod", by decide +kernel, .inl ⟨rfl, by decide +kernel, bi_divmod⟩⟩, ?_⟩
  refine List.forall_mem_cons.mpr ⟨⟨"tuple", by decide +kernel, .inr ⟨rfl, by decide +kernel, bi_tuple hK⟩⟩, ?_⟩
  refine List.forall_mem_cons.mpr ⟨⟨"list", by decide +kernel, .inr ⟨rfl, by decide +kernel, bi_list hK⟩⟩, ?_⟩
  refine List.forall_mem_cons.mpr ⟨⟨"bool", by decide +kernel, .inr ⟨rfl, by decide +kernel, bi_bool⟩⟩, ?_⟩
  refine List.forall_mem_cons.mpr ⟨⟨"any", by decide +kernel, .inl ⟨rfl, by decide +kernel, bi_any hK hc⟩⟩, ?_⟩
  refine List.forall_mem_cons.mpr ⟨⟨"all", by decide +kernel, .inl ⟨rfl, by decide +kernel, bi_all hK hc⟩⟩, ?_⟩
  refine List.forall_mem_cons.mpr ⟨⟨"sum", by decide +kernel, .inl ⟨rfl, by decide +kernel, bi_sum hK hc⟩⟩, ?_⟩
  refine List.forall_mem_cons.mpr ⟨⟨"repr", by decide +kernel, .inl ⟨rfl, by decide +kernel, bi_repr hK hgd hu⟩⟩, ?_⟩
  exact fun _ h => by cases h
theorem bi_ok {X : Cx} {P : Pm} (hK : P.K = X.K) (hc : X.calm = true) (hgd : X.A.guards = some []) (hu : X.A.units + 100 < cLine) {x : Str} {b : Bi} {fn : Bool} (h : biOf x = some (b, fn)) : BiOk X P x b fn := by
  unfold biOf at h
  cases e : biTab.find? fun q => decide (q.1 = x) with
  | none => rw [e] at h; cases h
  | some q =>
    rw [e] at h
    have hm := List.mem_of_find?_eq_some e
    have hx : q.1 = x := by have := List.find?_some e; exact of_decide_eq_true this
    have := biTab_ok hK hc hgd hu q hm
    have h : some q.2 = some (b, fn) := h
    have h2 : q.2 = (b, fn) := Option.some.inj h
    rw [hx, h2] at this
    exact this
theorem tyOfN_ok {x : Str} {t : Ty} (h : tyOfN x = some t) : x = Str.ofString t.nm := by
  unfold tyOfN at h
  (repeat' split at h) <;> first | (cases h; assumption) | cases h
theorem tyNames_ok : ∀ {es : List Expr} {ts : List (Ty × Pos)}, tyNames es = some ts → es = tyEs ts
  | [], ts, h => by simp only [tyNames] at h; cases h; rfl
  | e :: r, ts, h => by
    cases e <;> simp only [tyNames] at h <;> try cases h
    rename_i x p
    split at h
    · rename_i t ts' h1 h2
      cases h
      rw [tyOfN_ok h1, tyNames_ok h2]
      rfl
    · cases h
section
variable {k : Nat} {F : Nat → List D → Store → R D} {C : List D} {fa : Nat → Addr} {fd : Nat → FuncData}
structure Snd (k : Nat) (F : Nat → List D → Store → R D) (C : List D) (fa : Nat → Addr) (fd : Nat → FuncData) (n : Nat) : Prop where
  e : ∀ X Γ P e x, Good X Γ P k F C fa fd → trE n Γ e = some x → PE X e (rdE P (ev F C x)) ∧ PT X e (rdT P (mT (ev F C x)))
  es : ∀ X Γ P es xs, Good X Γ P k F C fa fd → trEs n Γ es = some xs → PA X es (rdA P (evs F C xs))
  ks : ∀ X Γ P kws xs, Good X Γ P k F C fa fd → trEs n Γ (kws.map kwVal) = some xs → PK X kws (rdA P (evs F C xs))
  ba : ∀ X Γ P es x pos, Good X Γ P k F C fa fd → trB n Γ true es = some x → PE X (.BoolOp .And es pos) (rdE P (ev F C x)) ∧ PW X (.BoolOp .And es pos) (rdT P (mT (ev F C x)))
  bo : ∀ X Γ P es x pos, Good X Γ P k F C fa fd → trB n Γ false es = some x → PE X (.BoolOp .Or es pos) (rdE P (ev F C x)) ∧ PW X (.BoolOp .Or es pos) (rdT P (mT (ev F C x)))
  o : ∀ X Γ P o xs, Good X Γ P k F C fa fd → trO n Γ o = some xs → PO X o (rdO P fun env S => (evs F C xs env S).bind partOk)
  i : ∀ X Γ P tg e x, Good X Γ P k F C fa fd → trI n Γ (isTup tg) e = some x → PI X tg e (rdI P (evi F C x)) ∧ ∀ y, foldedSetIterable e X.env y = pure y
theorem ev_call {f : Nat} {es : List Ex} : ev F C (.call f es) = fun env S => (evs F C es env S).bind fun vs S1 => F f vs S1 := rfl
theorem ev_bi {b : Bi} {es : List Ex} : ev F C (.bi b es) = fun env S => (evs F C es env S).bind fun vs S1 => biD b vs S1 := rfl
theorem nonslice {i : Expr} (h : isSlice i = false) : PlainIx i := by
  intro o j
  cases i <;> first | rfl | (simp [isSlice] at h)
/-- a test whose value is taken as it is -/
def plainT : Expr → Bool
  | .UnaryOp .Not _ _ => false | .BoolOp .. => false | .IfExp .. => false | .Compare .. => false | _ => true
theorem plainT_ok {a : Expr} {env : Env} (h : plainT a = true) : ∀ whole, isTrue a env whole = (do let v ← whole; standAt a.pos; holding [v] (truthy v)) := by
  intro whole
  cases a <;> first | rfl | (simp [plainT] at h; done) | skip
  rename_i op b p
  cases op <;> first | rfl | (simp [plainT] at h)
theorem both {X : Cx} {P : Pm} {e : Expr} {m : En → Store → R D} (hK : P.K = X.K) (hp : plainT e = true) (h : PE X e (rdE P m)) : PE X e (rdE P m) ∧ PT X e (rdT P (mT m)) := ⟨h, d_truth hK h (plainT_ok hp)⟩
theorem mT_ife {m1 m2 m3 : En → Store → R D} : mT (fun env S => (m3 env S).bind fun x S1 => (truthR x S1).bind fun k S2 => if k then m1 env S2 else m2 env S2) = fun env S => (mT m3 env S).bind fun k S2 => if k then mT m1 env S2 else mT m2 env S2 := by
  funext env S
  show ((m3 env S).bind _).bind truthR = ((m3 env S).bind truthR).bind _
  cases m3 env S with
  | ok x S1 =>
    show ((truthR x S1).bind _).bind truthR = (truthR x S1).bind _
    cases truthR x S1 with
    | ok k S2 => cases k <;> rfl
    | ex _ _ _ => rfl
    | bad => rfl
  | ex _ _ _ => rfl
  | bad => rfl
theorem pt_ife {X : Cx} {t a b : Expr} {pos : Pos} {tt ta tb : TT} (ht : PT X t tt) (ha : PT X a ta) (hb : PT X b tb) : PT X (.IfExp t a b pos) (fun σ H Q => tt σ H fun k H1 => if k = true then ta σ H1 Q else tb σ H1 Q) := by
  refine ⟨fun pins s σ H Q I h => ?_⟩
  show wpAny _ _ (do if ← isTrue t X.env (eval t X.env) then isTrue a X.env (eval a X.env) else isTrue b X.env (eval b X.env)) _ _ _
  refine wpAny_bind (thn (ht.run pins s σ H _ I h) fun d s1 ⟨H1, I1, q1⟩ => ?_)
  cases d with
  | true => exact ha.run pins s1 σ H1 Q I1 q1
  | false => exact hb.run pins s1 σ H1 Q I1 q1
theorem d_ifeT {X : Cx} {P : Pm} {c a b : Expr} {pos : Pos} {m1 m2 m3 : En → Store → R D} (ht : PT X c (rdT P (mT m3))) (ha : PT X a (rdT P (mT m1))) (hb : PT X b (rdT P (mT m2))) : PT X (.IfExp c a b pos) (rdT P (mT fun env S => (m3 env S).bind fun x S1 => (truthR x S1).bind fun k S2 => if k then m1 env S2 else m2 env S2)) := by
  rw [mT_ife]
  refine PT.imp (pt_ife ht ha hb) fun σ H Q ⟨ρ, env, S, r, h⟩ => ?_
  refine ⟨ρ, env, S, r, Post.bind (f := fun k S2 => if k then mT m1 env S2 else mT m2 env S2) h fun k S1 ρ1 k' H1 _ st1 q1 a1 h1 => ?_⟩
  have a1 : k = k' := a1
  subst a1
  cases k with
  | true => exact ⟨ρ1, env, S1, r.at st1 q1, h1⟩
  | false => exact ⟨ρ1, env, S1, r.at st1 q1, h1⟩
theorem kw_some {X : Cx} {pos : Pos} : ∀ (kws : List Keyword) (ks : List Str), ks.map some = kws.map kwName → (backToKw pos (keywordEach kws X.env)).all (·.1.isSome) = true ∧ (backToKw pos (keywordEach kws X.env)).filterMap (·.1) = ks ∧ (backToKw pos (keywordEach kws X.env)).any (·.1.isNone) = false
  | [], ks, h => by
    cases ks with
    | nil => exact ⟨rfl, rfl, rfl⟩
    | cons a b => cases h
  | ⟨nm, v, p⟩ :: r, ks, h => by
    cases ks with
    | nil => cases h
    | cons a b =>
      rw [List.map_cons, List.map_cons, List.cons.injEq] at h
      obtain ⟨h1, h2⟩ := h
      have h1 : some a = nm := h1
      subst h1
      obtain ⟨i1, i2, i3⟩ := kw_some (X := X) (pos := pos) r b h2
      refine ⟨?_, ?_, ?_⟩
      · show (true && (backToKw pos (keywordEach r X.env)).all (·.1.isSome)) = true
        rw [i1]; rfl
      · show a :: (backToKw pos (keywordEach r X.env)).filterMap (·.1) = a :: b
        rw [i2]
      · show (false || (backToKw pos (keywordEach r X.env)).any (·.1.isNone)) = false
        rw [i3]; rfl
end
end DL

end
section
set_option maxHeartbeats 16000000
/-! # DL: the translation of expressions is sound, the induction itself -/
namespace DL
open PySem PySem.Spec PyProof.Rows L2
theorem omap {α β : Type} {o : Option α} {f : α → β} {y : β} (h : o.map f = some y) : ∃ a, o = some a ∧ f a = y := by
  cases o with
  | none => cases h
  | some a => exact ⟨a, rfl, Option.some.inj h⟩
theorem fix_ok {G : Gm} {x : Str} {f : Nat} (h : G.fix x = some f) : ∃ ps, G.fns[f]? = some (x, ps) := by
  unfold Gm.fix at h
  simp only at h
  split at h
  · rename_i hl
    cases h
    have h2 : (decide ((G.fns[G.fns.findIdx fun p => decide (p.1 = x)]'hl).1 = x)) = true := List.findIdx_getElem (p := fun p : Str × List Str => decide (p.1 = x)) (w := hl)
    have h2 := of_decide_eq_true h2
    refine ⟨(G.fns[G.fns.findIdx fun p => decide (p.1 = x)]'hl).2, ?_⟩
    rw [List.getElem?_eq_getElem hl]
    exact congrArg some (Prod.ext h2 rfl)
  · cases h
section
variable {k : Nat} {F : Nat → List D → Store → R D} {C : List D} {fa : Nat → Addr} {fd : Nat → FuncData}
theorem bop_ok {X : Cx} {Γ : Cxt} {P : Pm} (g : Good X Γ P k F C fa fd) {op : Operator} {o : Bop} (h : bopOf op = some o) : OpR X (binaryOp op) (r2 P (opD o)) := by
  cases op <;> cases h
  · exact bop_add g.hK
  · exact bop_sub
  · exact bop_mul g.hK
  · exact bop_mod
  · exact bop_pow
  · exact bop_fdiv
theorem star2 {n : Nat} {X : Cx} {Γ : Cxt} {a b : Expr} {y z : Ex} (h1 : trE n Γ a = some y) (h2 : trE n Γ b = some z) : starEach [a, b] X.env = (false, eval a X.env) :: starEach [b] X.env ∧ starEach [b] X.env = (false, eval b X.env) :: starEach [] X.env := ⟨star_ok h1 _ _, star_ok h2 _ _⟩
theorem ks_len {q : KwPat} {kws : List Keyword} (h : q.ks.map some = kws.map kwName) : kws.length = q.ks.length := by
  have := congrArg List.length h
  simpa using this.symm
theorem snd_call {n : Nat} (ih : Snd k F C fa fd n) {X Γ P} (g : Good X Γ P k F C fa fd) {x : Str} {f : Nat} {e : Expr} {es : List Expr} {p pos : Pos} {xs : List Ex} (hn : okName x = true) (hg : glB Γ.sc x = true) (hf : Γ.G.fix x = some f) (h : trEs n Γ (e :: es) = some xs) : PE X (.Call (.Name x p) (e :: es) [] pos) (rdE P (ev F C (.call f xs))) := by
  obtain ⟨ps, hps⟩ := fix_ok hf
  obtain ⟨⟨P0, fo, eK, eX⟩, hm, hk, hb, ar⟩ := g.fns f x ps hps
  have hs : starEach (e :: es) X.env = (false, eval e X.env) :: starEach es X.env ∧ ∃ m ys, trEs m Γ es = some ys := by
    cases n with
    | zero => simp [trEs] at h
    | succ n =>
      simp only [trEs] at h
      split at h
      · rename_i h1 h2
        exact ⟨star_ok h1 _ _, n, _, h2⟩
      · cases h
  obtain ⟨s1, m, ys, s2⟩ := hs
  exact d_call fo eK eX ar g.tk g.rm g.gd (g.gl hg) hm hk hb (ih.es X Γ P _ _ g h) (okName_ok hn).1 s1 (any_star s2)
theorem snd_callk {n : Nat} (ih : Snd k F C fa fd n) {X Γ P} (g : Good X Γ P k F C fa fd) {x : Str} {f : Nat} {es : List Expr} {kws : List Keyword} {p pos : Pos} {xs ys : List Ex} {q : KwPat} (hn : okName x = true) (hg : glB Γ.sc x = true) (hf : Γ.G.fix x = some f) (hq : q ∈ Γ.G.kws) (e1 : q.f = f) (e2 : q.n = es.length) (e3 : q.ks.map some = kws.map kwName)
    (h : trEs n Γ es = some xs) (h' : trEs n Γ (kws.map kwVal) = some ys) : PE X (.Call (.Name x p) es kws pos) (rdE P (ev F C (.callk f xs ys q.perm))) := by
  obtain ⟨ps, hps⟩ := fix_ok hf
  obtain ⟨⟨P0, fo, eK, eX⟩, hm, hk, hb, ar⟩ := g.fns f x ps hps
  obtain ⟨k1, k2, k3⟩ := kw_some (X := X) (pos := pos) kws q.ks e3
  subst e1
  refine d_callk (n := q.n) (ks := q.ks) (perm := q.perm) fo eK eX ar g.tk g.rm g.gd (g.gl hg) hm hk (g.kws q hq x ps hps) (ih.es X Γ P _ _ g h) (ih.ks X Γ P _ _ g h') ?_ ?_ ?_ k1 k2 (okName_ok hn).1 ?_ ?_
  · intro env S d S' hd
    rw [evs_len hd, trEs_len h, e2]
  · intro env S d S' hd
    rw [evs_len hd, trEs_len h', List.length_map, ks_len e3]
  · intro he
    subst he
    have hl := trEs_len h
    cases xs with
    | nil => rfl
    | cons a b => cases hl
  · rintro e r rfl
    cases n with
    | zero => simp [trEs] at h
    | succ n =>
      simp only [trEs] at h
      split at h
      · rename_i h1 h2
        exact star_ok h1 _ _
      · cases h
  · rw [k3, any_star h]; rfl
theorem snd_bi {n : Nat} (ih : Snd k F C fa fd n) {X Γ P} (g : Good X Γ P k F C fa fd) {x : Str} {b : Bi} {fn : Bool} {e : Expr} {es : List Expr} {p pos : Pos} {xs : List Ex} (hn : okName x = true) (hf : freeB Γ x = true) (hb : biOf x = some (b, fn)) (h : trEs n Γ (e :: es) = some xs) : PE X (.Call (.Name x p) (e :: es) [] pos) (rdE P (ev F C (.bi b xs))) := by
  obtain ⟨f1, f2⟩ := g.fr hf
  have hs : starEach (e :: es) X.env = (false, eval e X.env) :: starEach es X.env ∧ ∃ m ys, trEs m Γ es = some ys := by
    cases n with
    | zero => simp [trEs] at h
    | succ n =>
      simp only [trEs] at h
      split at h
      · rename_i h1 h2
        exact ⟨star_ok h1 _ _, n, _, h2⟩
      · cases h
  obtain ⟨s1, m, ys, s2⟩ := hs
  obtain ⟨id, n1, c⟩ := bi_ok (P := P) g.hK g.calm g.gd (by have := g.rm.un; omega) hb
  rcases c with ⟨_, c2, c3⟩ | ⟨_, c2, c3⟩
  · exact PE.imp (pe_callB c3 f1 f2 c2 (ih.es X Γ P _ _ g h) n1 (okName_ok hn).1 s1 (any_star s2)) fun σ H Q hh => tCB_imp (noex_biD b) hh
  · exact PE.imp (pe_callTy c3 f1 f2 c2 (ih.es X Γ P _ _ g h) n1 (okName_ok hn).1 s1 (any_star s2)) fun σ H Q hh => tCB_imp (noex_biD b) hh
theorem snd_gcd {n : Nat} (ih : Snd k F C fa fd n) {X Γ P} (g : Good X Γ P k F C fa fd) {e : Expr} {es : List Expr} {p pos : Pos} {xs : List Ex} (hg : glB Γ.sc "gcd" = true) (hf : Γ.G.gcd = true) (h : trEs n Γ (e :: es) = some xs) : PE X (.Call (.Name "gcd" p) (e :: es) [] pos) (rdE P (ev F C (.bi .gcd xs))) := by
  have hs : starEach (e :: es) X.env = (false, eval e X.env) :: starEach es X.env ∧ ∃ m ys, trEs m Γ es = some ys := by
    cases n with
    | zero => simp [trEs] at h
    | succ n =>
      simp only [trEs] at h
      split at h
      · rename_i h1 h2
        exact ⟨star_ok h1 _ _, n, _, h2⟩
      · cases h
  obtain ⟨s1, m, ys, s2⟩ := hs
  exact PE.imp (pe_callBfun bi_gcd (g.gl hg) (g.gcd hf) (ih.es X Γ P _ _ g h) (by decide) s1 (any_star s2)) fun σ H Q hh => tCB_imp (noex_biD .gcd) hh

theorem mthBi_ok {X : Cx} {P : Pm} {id : String} {b : Bi} (h : mthBi id = some b) : CallR X (.builtin id) (rC P (biD b)) := by
  unfold mthBi at h
  split at h
  · rename_i e
    cases h; subst e; exact bi_comb
  · split at h
    · rename_i e
      cases h; subst e; exact bi_fact
    · cases h
theorem snd_mth {n : Nat} (ih : Snd k F C fa fd n) {X Γ P} (g : Good X Γ P k F C fa fd) {x : Str} {id : String} {b : Bi} {e : Expr} {es : List Expr} {p pos : Pos} {xs : List Ex} (hn : okName x = true) (hg : glB Γ.sc x = true) (hf : X.mg x = some (.builtin id)) (hb : mthBi id = some b) (h : trEs n Γ (e :: es) = some xs) : PE X (.Call (.Name x p) (e :: es) [] pos) (rdE P (ev F C (.bi b xs))) := by
  have hs : starEach (e :: es) X.env = (false, eval e X.env) :: starEach es X.env ∧ ∃ m ys, trEs m Γ es = some ys := by
    cases n with
    | zero => simp [trEs] at h
    | succ n =>
      simp only [trEs] at h
      split at h
      · rename_i h1 h2
        exact ⟨star_ok h1 _ _, n, _, h2⟩
      · cases h
  obtain ⟨s1, m, ys, s2⟩ := hs
  exact PE.imp (pe_callBfun (mthBi_ok hb) (g.gl hg) hf (ih.es X Γ P _ _ g h) (okName_ok hn).1 s1 (any_star s2)) fun σ H Q hh => tCB_imp (noex_biD b) hh

mutual
theorem put_gOf (K : Frag) : ∀ t : Tg, PutOk K (gOf K t) t
  | .name i => put_name i
  | .tup ts => put_tup (puts_gOf K ts)
theorem puts_gOf (K : Frag) : ∀ ts : List Tg, PutsOk K (gsOf K ts) ts
  | [] => puts_nil
  | t :: ts => puts_cons (put_gOf K t) (puts_gOf K ts)
end
theorem picg {X : Cx} {P : Pm} {tg e : Expr} {m m' : En → Store → R DL.It} (h : PI X tg e (rdI P m)) (hm : m = m') : PI X tg e (rdI P m') := hm ▸ h
theorem rgArgs_ok {Γ : Cxt} {x : Str} {args ras : List Expr} {tt : Bool} (h : rgArgs Γ x args = some (tt, ras)) : ∃ p pos, args = [.Call (.Name "range" p) ras [] pos] ∧ x = (if tt then Str.ofString "tuple" else Str.ofString "list") ∧ freeB Γ "range" = true ∧ freeB Γ x = true := by
  unfold rgArgs at h
  split at h
  · split at h
    · rename_i hc
      simp only [Bool.and_eq_true, decide_eq_true_eq] at hc
      obtain ⟨rfl, c2, c3⟩ := hc
      split at h
      · rename_i hx
        cases h
        exact ⟨_, _, rfl, hx, c2, c3⟩
      · split at h
        · rename_i hx
          cases h
          exact ⟨_, _, rfl, hx, c2, c3⟩
        · cases h
    · cases h
  · cases h
theorem both' {X : Cx} {P : Pm} (hK : P.K = X.K) {e : Expr} {m : En → Store → R D} (hw : ∀ whole, isTrue e X.env whole = (do let v ← whole; standAt e.pos; holding [v] (truthy v))) (h : PE X e (rdE P m)) : PE X e (rdE P m) ∧ PT X e (rdT P (mT m)) := ⟨h, d_truth hK h hw⟩
theorem pecg {X : Cx} {P : Pm} {e : Expr} {m m' : En → Store → R D} (h : PE X e (rdE P m)) (hm : m = m') : PE X e (rdE P m') := hm ▸ h
theorem snd_rg {n : Nat} (ih : Snd k F C fa fd n) {X Γ P} (hc : X.calm = true) (g : Good X Γ P k F C fa fd) {x : Str} {args ras : List Expr} {tt : Bool} {p pos : Pos} {y : Ex} (h : rgArgs Γ x args = some (tt, ras))
    (h2 : (match (generalizing := false) ras with
      | [a] => (trE n Γ a).map fun y => Ex.lrg tt [y]
      | [a, b] => (match trE n Γ a, trE n Γ b with | some y, some z => some (.lrg tt [y, z]) | _, _ => none)
      | _ => none) = some y) : PE X (.Call (.Name x p) args [] pos) (rdE P (ev F C y)) ∧ PT X (.Call (.Name x p) args [] pos) (rdT P (mT (ev F C y))) := by
  obtain ⟨p2, pos2, rfl, hx, f1, f2⟩ := rgArgs_ok h
  obtain ⟨a1, a2⟩ := g.fr f1
  obtain ⟨b1, b2⟩ := g.fr f2
  refine both' g.hK (fun _ => rfl) ?_
  split at h2
  · obtain ⟨z, e1, rfl⟩ := omap h2
    refine pecg (d_lrg1 hx hc b1 b2 a1 a2 (ih.e X Γ P _ _ g e1).1 (star_ok e1 _ _)) (funext fun env => funext fun S => ?_)
    show ((DL.ev F C z env S).bind _) = (((DL.ev F C z env S).bind fun x S1 => (R.ok ([] : List D) S1).bind fun xs S2 => R.ok (x :: xs) S2).bind _)
    cases DL.ev F C z env S <;> rfl
  · split at h2
    · rename_i y1 z1 e1 e2
      cases h2
      refine pecg (d_lrg2 hx hc b1 b2 a1 a2 (ih.e X Γ P _ _ g e1).1 (ih.e X Γ P _ _ g e2).1 (star_ok e1 _ _) (star_ok e2 _ _)) (funext fun env => funext fun S => ?_)
      show ((DL.ev F C y1 env S).bind fun x S1 => (DL.ev F C z1 env S1).bind _) = (((DL.ev F C y1 env S).bind fun x S1 => ((DL.ev F C z1 env S1).bind fun x S1 => (R.ok ([] : List D) S1).bind fun xs S2 => R.ok (x :: xs) S2).bind fun xs S2 => R.ok (x :: xs) S2).bind _)
      cases DL.ev F C y1 env S with
      | ok x S1 =>
        show ((DL.ev F C z1 env S1).bind _) = ((((DL.ev F C z1 env S1).bind fun x S1 => (R.ok ([] : List D) S1).bind fun xs S2 => R.ok (x :: xs) S2).bind fun xs S2 => R.ok (x :: xs) S2).bind _)
        cases DL.ev F C z1 env S1 <;> rfl
      | ex _ _ _ => rfl
      | bad => rfl
    · cases h2
  · cases h2
theorem snd_e {n : Nat} (ih : Snd k F C fa fd n) : ∀ X Γ P e x, Good X Γ P k F C fa fd → trE (n + 1) Γ e = some x → PE X e (rdE P (ev F C x)) ∧ PT X e (rdT P (mT (ev F C x))) := by
  intro X Γ P e x g h
  have hK := g.hK
  have hu := g.ru
  simp only [trE] at h
  split at h
  · cases h; exact both hK rfl d_int
  · cases h; exact both hK rfl d_bl
  · cases h; exact both hK rfl d_non
  · cases h; exact both hK rfl d_str
  · -- Name
    split at h
    · rename_i hn
      obtain ⟨n1, n2⟩ := okName_ok hn
      split at h
      · rename_i hv
        obtain ⟨i, ei, rfl⟩ := omap h
        exact both hK rfl (d_var (g.ix ei) (g.vis hv) n1 n2)
      · split at h
        · rename_i hgl
          obtain ⟨c, ei, rfl⟩ := omap h
          obtain ⟨d, u, v, e1, e2, e3, e4⟩ := g.con c _ (ixOf_ok ei)
          have t : ev F C (.cst c) = fun _ S => .ok d S := by funext env S; show (match C[c]? with | some d => R.ok d S | none => .bad) = _; rw [e1]
          rw [t]
          exact both hK rfl (d_const (pe_glob (g.gl hgl) e2 e3 n1) (fun H ρ => by rw [hK]; exact e4 H ρ))
        · cases h
    · cases h
  · -- Tuple
    obtain ⟨xs, e1, rfl⟩ := omap h
    exact both hK rfl (d_tup (ih.es X Γ P _ _ g e1))
  · obtain ⟨xs, e1, rfl⟩ := omap h
    exact both hK rfl (d_lst (ih.es X Γ P _ _ g e1))
  · cases h; exact both hK rfl d_dct
  · -- BinOp
    split at h
    · rename_i h1 h2 h3
      cases h
      exact both hK rfl (pe_bin (bop_ok g h1) (noex_opD _) (ih.e X Γ P _ _ g h2).1 (ih.e X Γ P _ _ g h3).1)
    · cases h
  · obtain ⟨y, e1, rfl⟩ := omap h
    exact both hK rfl (d_neg (ih.e X Γ P _ _ g e1).1)
  · obtain ⟨y, e1, rfl⟩ := omap h
    exact ⟨d_nt hK (ih.e X Γ P _ _ g e1).1, d_ntT (ih.e X Γ P _ _ g e1).2⟩
  · exact ⟨(ih.ba X Γ P _ _ _ g h).1, (ih.ba X Γ P _ _ _ g h).2.pt⟩
  · exact ⟨(ih.bo X Γ P _ _ _ g h).1, (ih.bo X Γ P _ _ _ g h).2.pt⟩
  · -- Compare
    split at h
    · rename_i h1 h2 h3
      split at h
      · cases h
      · rename_i hm
        cases h
        cases copOf_py h1
        exact ⟨d_cmp hK hu _ (ih.e X Γ P _ _ g h2).1 (ih.e X Γ P _ _ g h3).1 (behind_b hm), d_cmpT hK hu _ (ih.e X Γ P _ _ g h2).1 (ih.e X Γ P _ _ g h3).1 (behind_b hm)⟩
    · cases h
  · split at h
    · rename_i h1 h2 h3 h4 h5
      split at h
      · cases h
      · rename_i hm
        cases h
        cases copOf_py h1
        cases copOf_py h2
        exact ⟨d_chain hK hu _ _ (ih.e X Γ P _ _ g h3).1 (ih.e X Γ P _ _ g h4).1 (ih.e X Γ P _ _ g h5).1 (behind_b hm), d_chainT hK hu _ _ (ih.e X Γ P _ _ g h3).1 (ih.e X Γ P _ _ g h4).1 (ih.e X Γ P _ _ g h5).1 (behind_b hm)⟩
    · cases h
  · -- IfExp
    split at h
    · rename_i h1 h2 h3
      cases h
      exact ⟨d_ife (ih.e X Γ P _ _ g h1).2 (ih.e X Γ P _ _ g h2).1 (ih.e X Γ P _ _ g h3).1, d_ifeT (ih.e X Γ P _ _ g h1).2 (ih.e X Γ P _ _ g h2).2 (ih.e X Γ P _ _ g h3).2⟩
    · cases h
  · obtain ⟨y, e1, rfl⟩ := omap h
    exact both hK rfl (d_rev hK (ih.e X Γ P _ _ g e1).1)
  · split at h
    · rename_i h1 h2 h3
      cases h
      exact both hK rfl (d_slc hK (ih.e X Γ P _ _ g h1).1 (ih.o X Γ P _ _ g h2) (ih.o X Γ P _ _ g h3))
    · cases h
  · split at h
    · cases h
    · rename_i hs
      split at h
      · rename_i h1 h2
        cases h
        exact both hK rfl (d_idx hK (ih.e X Γ P _ _ g h1).1 (ih.e X Γ P _ _ g h2).1 (nonslice (by cases hh : isSlice _ <;> first | rfl | exact absurd hh hs)))
      · cases h
  · -- methods
    split at h
    · rename_i ho
      rw [Bool.and_eq_true] at ho
      split at h
      · cases h
      · rename_i y h1
        split at h
        · rename_i hm
          subst hm
          split at h
          · cases h
            exact both hK rfl (d_bits (ih.e X Γ P _ _ g h1).1 (attr_ok ho.1 _) ho.2)
          · cases h
        · split at h
          · rename_i hm
            subst hm
            split at h
            · cases h
              exact both hK rfl (d_pop (ih.e X Γ P _ _ g h1).1 (attr_ok ho.1 _) ho.2)
            · cases h
          · split at h
            · rename_i hm
              subst hm
              split at h
              · obtain ⟨z, e1, rfl⟩ := omap h
                exact both hK rfl (d_append (ih.e X Γ P _ _ g h1).1 (ih.e X Γ P _ _ g e1).1 (attr_ok ho.1 _) ho.2 (star_ok e1 _ _))
              · cases h
            · cases h
    · cases h
  · -- calls
    split at h
    · rename_i hn
      rw [Bool.and_eq_true] at hn
      split at h
      · rename_i f hf
        split at h
        · cases h
        · obtain ⟨xs, e1, rfl⟩ := omap h
          exact both hK rfl (snd_call ih g hn.1 hn.2 hf e1)
        · split at h
          · rename_i q xs ys hq h1 h2
            cases h
            have hm := List.mem_of_find?_eq_some hq
            have hp := List.find?_some hq
            simp only [Bool.and_eq_true, decide_eq_true_eq] at hp
            exact both hK rfl (snd_callk ih g hn.1 hn.2 hf hm hp.1 hp.2.1 hp.2.2 h1 h2)
          · cases h
      · split at h
        · cases h
        · split at h
          · rename_i tt ras hra
            exact snd_rg (hc := g.calm) ih g hra h
          split at h
          · rename_i hx
            subst hx
            split at h
            · rename_i hfr
              obtain ⟨i1, i2⟩ := g.fr hfr
              split at h
              · split at h
                · rename_i t z h1 h2
                  split at h
                  · rename_i hy
                    cases h
                    cases tyOfN_ok h1
                    obtain ⟨j1, j2⟩ := g.fr hy
                    exact both hK rfl (d_isi1 hK t i1 i2 j1 j2 (ih.e X Γ P _ _ g h2).1 (star_ok h2 _ _) rfl)
                  · cases h
                · cases h
              · split at h
                · rename_i ts z h1 h2
                  split at h
                  · rename_i hy
                    cases h
                    rw [Bool.and_eq_true] at hy
                    cases tyNames_ok h1
                    exact both hK rfl (d_isiN hK ts (of_decide_eq_true hy.2) i1 i2 (fun t ht => g.fr (List.all_eq_true.mp hy.1 t ht)) (ih.e X Γ P _ _ g h2).1 (star_ok h2 _ _) rfl)
                  · cases h
                · cases h
              · cases h
            · cases h
          · split at h
            · rename_i hx
              subst hx
              split at h
              · rename_i hgc
                split at h
                · obtain ⟨xs, e1, rfl⟩ := omap h
                  exact both hK rfl (snd_gcd ih g hn.2 hgc e1)
                · cases h
              · cases h
            · split at h
              · rename_i q hq
                split at h
                · rename_i b a r hb _
                  obtain ⟨xs, e1, rfl⟩ := omap h
                  have hm := List.mem_of_find?_eq_some hq
                  have hx := List.find?_some hq
                  have hx := of_decide_eq_true hx
                  exact both hK rfl (snd_mth ih g hn.1 hn.2 (hx ▸ g.mth q hm) hb e1)
                · cases h
              · split at h
                · rename_i b fn hb
                  split at h
                  · rename_i hfr
                    split at h
                    · obtain ⟨xs, e1, rfl⟩ := omap h
                      exact both hK rfl (snd_bi ih g hn.1 hfr hb e1)
                    · cases h
                  · cases h
                · cases h
    · cases h
  · -- ListComp
    split at h
    · rename_i hb
      split at h
      · rename_i it t el h1 h2 h3
        split at h
        · rename_i hs
          have ok := blkOk_by hb
          replace ok := (congrArg (fun N => BlkOk N Γ.sc _ _) g.N).mpr ok
          rw [← g.sc] at ok
          have hkd := ok.kind
          obtain ⟨i1, i2⟩ := ih.i X Γ P _ _ _ g h1
          have pgl := fun s H Ca cl fp => (trT_ok 9 _ _ _ _ _ (g.blk s H _ Ca cl fp hkd) h2).1
          have pg := put_gOf X.K t
          split at h
          · cases h
            refine both hK rfl (d_lc (mt := fun _ S => .ok true S) (m := ev F C el) hK g.js g.calm g.nd i1 ok pg (subset_ok hs) pgl (fun s H Ca cl fp => ?_) (fun s H Ca cl fp => (ih.e _ _ _ _ _ (g.blk s H _ Ca cl fp hkd) h3).1) i2)
            exact ⟨fun pins s1 σ H1 Q I ⟨ρ, env, S, r, hh⟩ => pts_nil.run pins s1 σ H1 Q I (hh ρ true H1 (.refl H1 ρ) r.rep rfl)⟩
          · obtain ⟨c', e1, rfl⟩ := omap h
            refine both hK rfl (d_lc (mt := fun env S => evt F C [c'] env S) (m := ev F C el) hK g.js g.calm g.nd i1 ok pg (subset_ok hs) pgl (fun s H Ca cl fp => ?_) (fun s H Ca cl fp => (ih.e _ _ _ _ _ (g.blk s H _ Ca cl fp hkd) h3).1) i2)
            have t1 : (fun env S => evt F C [c'] env S) = mT (ev F C c') := by
              funext env S
              show ((ev F C c' env S).bind fun x S1 => (truthR x S1).bind fun k S2 => if k = true then R.ok true S2 else R.ok false S2) = (ev F C c' env S).bind truthR
              cases ev F C c' env S with
              | ok x S1 =>
                show ((truthR x S1).bind fun k S2 => if k = true then R.ok true S2 else R.ok false S2) = truthR x S1
                unfold truthR
                cases truth S1 x with
                | none => rfl
                | some b => cases b <;> rfl
              | ex _ _ _ => rfl
              | bad => rfl
            rw [t1]
            exact pts_one (ih.e _ _ _ _ _ (g.blk s H _ Ca cl fp hkd) e1).2
          · cases h
        · cases h
      · cases h
    · cases h
  · cases h
theorem snd_es {n : Nat} (ih : Snd k F C fa fd n) : ∀ X Γ P es xs, Good X Γ P k F C fa fd → trEs (n + 1) Γ es = some xs → PA X es (rdA P (evs F C xs)) := by
  intro X Γ P es xs g h
  cases es with
  | nil => simp only [trEs] at h; cases h; exact d_nil
  | cons e es =>
    simp only [trEs] at h
    split at h
    · rename_i h1 h2
      cases h
      exact d_cons (ih.e X Γ P _ _ g h1).1 (ih.es X Γ P _ _ g h2) (star_ok h1 _ _)
    · cases h
theorem snd_ks {n : Nat} (ih : Snd k F C fa fd n) : ∀ X Γ P kws xs, Good X Γ P k F C fa fd → trEs (n + 1) Γ (kws.map kwVal) = some xs → PK X kws (rdA P (evs F C xs)) := by
  intro X Γ P es xs g h
  cases es with
  | nil => simp only [List.map_nil, trEs] at h; cases h; exact k_nil
  | cons e es =>
    obtain ⟨nm, v, kp⟩ := e
    simp only [List.map_cons, trEs] at h
    split at h
    · rename_i h1 h2
      cases h
      exact k_cons (ih.e X Γ P _ _ g h1).1 (ih.ks X Γ P _ _ g h2)
    · cases h
theorem snd_ba {n : Nat} (ih : Snd k F C fa fd n) : ∀ X Γ P es x pos, Good X Γ P k F C fa fd → trB (n + 1) Γ true es = some x → PE X (.BoolOp .And es pos) (rdE P (ev F C x)) ∧ PW X (.BoolOp .And es pos) (rdT P (mT (ev F C x))) := by
  intro X Γ P es x pos g h
  have hK := g.hK
  rcases es with _ | ⟨a, _ | ⟨b, r⟩⟩
  · simp [trB] at h
  · simp only [trB] at h
    exact ⟨pe_one (ih.e X Γ P _ _ g h).1, d_pw1 (ih.e X Γ P _ _ g h).2⟩
  · simp only [trB] at h
    split at h
    · rename_i h1 h2
      cases h
      exact ⟨d_and hK (ih.e X Γ P _ _ g h1).1 (ih.ba X Γ P _ _ _ g h2).1, d_andT (ih.e X Γ P _ _ g h1).2 (ih.ba X Γ P _ _ _ g h2).2⟩
    · cases h
theorem snd_bo {n : Nat} (ih : Snd k F C fa fd n) : ∀ X Γ P es x pos, Good X Γ P k F C fa fd → trB (n + 1) Γ false es = some x → PE X (.BoolOp .Or es pos) (rdE P (ev F C x)) ∧ PW X (.BoolOp .Or es pos) (rdT P (mT (ev F C x))) := by
  intro X Γ P es x pos g h
  have hK := g.hK
  rcases es with _ | ⟨a, _ | ⟨b, r⟩⟩
  · simp [trB] at h
  · simp only [trB] at h
    exact ⟨pe_one (ih.e X Γ P _ _ g h).1, d_pw1 (ih.e X Γ P _ _ g h).2⟩
  · simp only [trB] at h
    split at h
    · rename_i h1 h2
      cases h
      exact ⟨d_or hK (ih.e X Γ P _ _ g h1).1 (ih.bo X Γ P _ _ _ g h2).1, d_orT (ih.e X Γ P _ _ g h1).2 (ih.bo X Γ P _ _ _ g h2).2⟩
    · cases h
theorem snd_o {n : Nat} (ih : Snd k F C fa fd n) : ∀ X Γ P o xs, Good X Γ P k F C fa fd → trO (n + 1) Γ o = some xs → PO X o (rdO P fun env S => (evs F C xs env S).bind partOk) := by
  intro X Γ P o xs g h
  cases o with
  | none => simp only [trO] at h; cases h; exact d_po_none
  | some e =>
    simp only [trO] at h
    obtain ⟨y, e1, rfl⟩ := omap h
    exact d_po_some (ih.e X Γ P _ _ g e1).1
theorem isTup_ok {tg : Expr} (h : isTup tg = true) : ∃ elts kk tpos, tg = .Tuple elts kk tpos := by
  cases tg <;> first | exact ⟨_, _, _, rfl⟩ | cases h
theorem snd_i {n : Nat} (ih : Snd k F C fa fd n) : ∀ X Γ P tg e x, Good X Γ P k F C fa fd → trI (n + 1) Γ (isTup tg) e = some x → PI X tg e (rdI P (evi F C x)) ∧ ∀ y, foldedSetIterable e X.env y = pure y := by
  intro X Γ P tg e x g h
  have hK := g.hK
  have sq : ∀ {e : Expr} {y : Ex}, trE n Γ e = some y → PI X tg e (rdI P (evi F C (.seq y))) ∧ ∀ z, foldedSetIterable e X.env z = pure z := fun {e y} e1 => ⟨d_seq hK (ih.e X Γ P _ _ g e1).1, fold_ok (trE_noset e1)⟩
  simp only [trI] at h
  split at h
  · rename_i nm p args pos
    split at h
    · rename_i hc
      simp only [Bool.and_eq_true, Bool.or_eq_true, decide_eq_true_eq] at hc
      obtain ⟨hfr, hc⟩ := hc
      obtain ⟨f1, f2⟩ := g.fr hfr
      refine ⟨?_, fold_ok fun _ _ _ hh => by cases hh⟩
      split at h
      · rename_i hx
        subst hx
        split at h
        · obtain ⟨y, e1, rfl⟩ := omap h
          refine picg (d_range1 f1 f2 (ih.e X Γ P _ _ g e1).1 (star_ok e1 _ _)) (funext fun env => funext fun S => ?_)
          show ((ev F C y env S).bind _) = (((ev F C y env S).bind fun x S1 => (R.ok ([] : List D) S1).bind fun xs S2 => R.ok (x :: xs) S2).bind _)
          cases ev F C y env S with
          | ok x S1 => cases x <;> rfl
          | ex _ _ _ => rfl
          | bad => rfl
        · split at h
          · rename_i y z h1 h2
            cases h
            refine picg (d_range2 f1 f2 (ih.e X Γ P _ _ g h1).1 (ih.e X Γ P _ _ g h2).1 (star_ok h1 _ _) (star_ok h2 _ _)) (funext fun env => funext fun S => ?_)
            show ((ev F C y env S).bind fun x S1 => (ev F C z env S1).bind _) = (((ev F C y env S).bind fun x S1 => ((ev F C z env S1).bind fun x S1 => (R.ok ([] : List D) S1).bind fun xs S2 => R.ok (x :: xs) S2).bind fun xs S2 => R.ok (x :: xs) S2).bind _)
            cases ev F C y env S with
            | ok x S1 =>
              show ((ev F C z env S1).bind _) = ((((ev F C z env S1).bind fun x S1 => (R.ok ([] : List D) S1).bind fun xs S2 => R.ok (x :: xs) S2).bind fun xs S2 => R.ok (x :: xs) S2).bind _)
              cases ev F C z env S1 with
              | ok y S2 => cases x <;> cases y <;> rfl
              | ex _ _ _ => rfl
              | bad => rfl
            | ex _ _ _ => rfl
            | bad => rfl
          · cases h
        · split at h
          · rename_i y z w h1 h2 h3
            cases h
            refine picg (d_range3 f1 f2 (ih.e X Γ P _ _ g h1).1 (ih.e X Γ P _ _ g h2).1 (ih.e X Γ P _ _ g h3).1 (star_ok h1 _ _) (star_ok h2 _ _) (star_ok h3 _ _)) (funext fun env => funext fun S => ?_)
            show ((ev F C y env S).bind fun x S1 => (ev F C z env S1).bind fun x2 S2 => (ev F C w env S2).bind _) = (((ev F C y env S).bind fun x S1 => ((ev F C z env S1).bind fun x S1 => ((ev F C w env S1).bind fun x S1 => (R.ok ([] : List D) S1).bind fun xs S2 => R.ok (x :: xs) S2).bind fun xs S2 => R.ok (x :: xs) S2).bind fun xs S2 => R.ok (x :: xs) S2).bind _)
            cases ev F C y env S with
            | ok x S1 =>
              dsimp only [R.bind]
              cases ev F C z env S1 with
              | ok y S2 =>
                dsimp only [R.bind]
                cases ev F C w env S2 with
                | ok z S3 => cases x <;> cases y <;> cases z <;> rfl
                | ex _ _ _ => rfl
                | bad => rfl
              | ex _ _ _ => rfl
              | bad => rfl
            | ex _ _ _ => rfl
            | bad => rfl
          · cases h
        · cases h
      · rename_i hx
        have hc := hc.resolve_left hx
        obtain ⟨elts, kk, tpos, rfl⟩ := isTup_ok hc.1
        split at h
        · rename_i hx
          subst hx
          split at h
          · obtain ⟨y, e1, rfl⟩ := omap h
            exact d_enum hK f1 f2 (ih.e X Γ P _ _ g e1).1 (star_ok e1 _ _)
          · cases h
        · rename_i hx2
          have hx := hc.2.resolve_left hx2
          subst hx
          split at h
          · split at h
            · rename_i h1 h2
              cases h
              exact d_zip hK f1 f2 (ih.e X Γ P _ _ g h1).1 (ih.e X Γ P _ _ g h2).1 (star_ok h1 _ _) (star_ok h2 _ _)
            · cases h
          · cases h
    · obtain ⟨y, e1, rfl⟩ := omap h
      exact sq e1
  · obtain ⟨y, e1, rfl⟩ := omap h
    exact sq e1
theorem snd : ∀ n, Snd k F C fa fd n
  | 0 => ⟨fun X Γ P e x _ h => by simp [trE] at h, fun X Γ P e x _ h => by simp [trEs] at h, fun X Γ P e x _ h => by simp [trEs] at h, fun X Γ P e x _ _ h => by simp [trB] at h, fun X Γ P e x _ _ h => by simp [trB] at h, fun X Γ P e x _ h => by simp [trO] at h, fun X Γ P _ e x _ h => by simp [trI] at h⟩
  | n + 1 => ⟨snd_e (snd n), snd_es (snd n), snd_ks (snd n), snd_ba (snd n), snd_bo (snd n), snd_o (snd n), snd_i (snd n)⟩
end
end DL

end
section
set_option maxHeartbeats 16000000
/-! # DL: statements, from the model's syntax to St -/
namespace DL
open PySem PySem.Spec PyProof.Rows L2
mutual
def trL (Γ : Cxt) : Nat → Expr → Option LT
  | 0, _ => none
  | n + 1, e => match e with
    | .Name x _ => if locB Γ x then (ixOf Γ.N x).map .name else none
    | .Subscript o i _ => if isSlice i then none else match trE n Γ o, trE n Γ i with
      | some a, some b => some (.sub a b)
      | _, _ => none
    | .Tuple es _ _ => (trLs Γ n es).map .tup
    | _ => none
def trLs (Γ : Cxt) : Nat → List Expr → Option (List LT)
  | 0, _ => none
  | n + 1, [] => some []
  | n + 1, e :: es => match trL Γ n e, trLs Γ n es with
    | some t, some ts => some (t :: ts)
    | _, _ => none
end
def isName : Expr → Bool
  | .Name .. => true | _ => false
/-- the stores of a tuple's names are not turned round -/
def swapN : Expr → Expr → Bool
  | .Tuple ts _ _, .Tuple vs _ _ => (!(ts.length == 2 || ts.length == 3)) || (vs.length != ts.length || (ts.any (fun t => !isName t) || vs.all (foldedForSure 8)))
  | .List .., _ => false
  | _, _ => true
def locL (Γ : Cxt) (x : Str) : Bool := decide (Γ.sc.names.lookup x = some .local)
def swB (sc scope : Scope) (x : Str) (l1 l2 : Nat) : Bool := (sc.names.lookup x == some .local) && (l1 == l2) && !(scope.names.any fun (n, k) => n == x && (k == .local || k == .cell))
def isComp : Expr → Bool
  | .ListComp .. => true | .SetComp .. => true | .DictComp .. => true | _ => false
def par2 (Γ : Cxt) : List Expr → List Expr → Bool
  | [.Name x px, .Name y py], [a, b] => (locL Γ x && locL Γ y) && ((py.line == px.line && decide (x ≠ y)) && (!([a, b].all (foldedForSure 8)) && !([a, b].all (constantsAlone 8))))
  | _, _ => false
def par3 (Γ : Cxt) : List Expr → List Expr → Bool
  | [.Name x px, .Name y py, .Name z pz], [a, b, c] => (locL Γ x && (locL Γ y && locL Γ z)) && (((py.line == px.line && pz.line == px.line) && (decide (x ≠ y) && (decide (x ≠ z) && decide (y ≠ z)))) && (!([a, b, c].all (foldedForSure 8)) && !([a, b, c].all (constantsAlone 8))))
  | _, _ => false
def trA (n : Nat) (Γ : Cxt) (t v : Expr) : Option St := match trL Γ n t, trE n Γ v with
  | some lt, some ex => (match t, v with
    | .Name x p, .ListComp _ _ scope vp => some (.asg lt ex)
    | .Tuple ts _ _, .Tuple vs _ _ => if swapN t v || (par2 Γ ts vs || par3 Γ ts vs) then some (.asg lt ex) else none
    | t, v => if swapN t v then some (.asg lt ex) else none)
  | _, _ => none
/-! ### except clauses -/
def idxOf (fs : List Str) (f : Str) : Option Nat := let j := fs.findIdx fun g => decide (g = f); if fs[j]? = some f then some j else none
/-- the place of a field, the classes that have it there -/
def Gm.fld (G : Gm) (f : Str) : Option (Nat × List Nat) := match G.exc.findSome? fun p => idxOf p.2 f with
  | some j => some (j, (List.range G.exc.length).filter fun c => match G.exc[c]? with | some p => decide (p.2[j]? = some f) | none => false)
  | none => none
def Gm.cls (G : Gm) (x : Str) : Option Nat := idxOf (G.exc.map (·.1)) x
def Gm.takes (G : Gm) (i : Nat) : List Nat := (List.range G.exc.length).filter fun c => G.cat i c
def slotIs (nm : Option (Str × Nat)) (i : Nat) : Bool := match nm with
  | some p => decide (p.2 = i)
  | none => false
def nameIs (nm : Option (Str × Nat)) (y : Str) : Bool := match nm with
  | some p => decide (p.1 = y)
  | none => false
mutual
def trH (Γ : Cxt) (nm : Option (Str × Nat)) : Nat → Expr → Option HEx
  | 0, _ => none
  | n + 1, e => match e with
    | .Constant (.int i) _ _ => some (.int i)
    | .Constant (.bool b) _ _ => some (.bl b)
    | .Constant .none _ _ => some .non
    | .Constant (.str x) _ _ => some (.str x)
    | .Name x _ => if okName x && visB Γ.sc x then (match ixOf Γ.N x with | some i => if slotIs nm i then none else some (.var i) | none => none) else none
    | .Attribute (.Name y _) f _ => if nameIs nm y then (match Γ.G.fld f with | some (j, cs) => some (.fld j cs) | none => none) else none
    | .Tuple es _ _ => (trHs Γ nm n es).map .tup
    | .List es _ => (trHs Γ nm n es).map .lst
    | .Call (.Name x _) [a] [] _ => if decide (x = Str.ofString "repr") && freeB Γ x then (trH Γ nm n a).map .rep else none
    | .Compare a [.Eq] [b] _ => match trH Γ nm n a, trH Γ nm n b with
      | some x, some y => if behindInMarks .Eq b then none else some (.eq x y)
      | _, _ => none
    | _ => none
def trHs (Γ : Cxt) (nm : Option (Str × Nat)) : Nat → List Expr → Option (List HEx)
  | 0, _ => none
  | n + 1, [] => some []
  | n + 1, e :: es => match trH Γ nm n e, trHs Γ nm n es with
    | some x, some xs => some (x :: xs)
    | _, _ => none
end
/-- an except clause's name and its slot -/
def nmOf (Γ : Cxt) : Option Str → Option (Option (Str × Nat))
  | none => some none
  | some y => if locL Γ y && okName y then (match ixOf Γ.N y with | some i => some (some (y, i)) | none => none) else none
def trHd (Γ : Cxt) : ExceptHandler → Option Hd
  | .ExceptHandler (some (.Name x _)) nm [.Return (some e) _] _ => if okName x && glB Γ.sc x then (match Γ.G.cls x, nmOf Γ nm with
      | some i, some nm' => (match trH Γ nm' 40 e with | some h => some ⟨Γ.G.takes i, nm'.map (·.2), h⟩ | none => none)
      | _, _ => none) else none
  | _ => none
def trHds (Γ : Cxt) : List ExceptHandler → Option (List Hd)
  | [] => some []
  | h :: r => match trHd Γ h, trHds Γ r with
    | some a, some b => some (a :: b)
    | _, _ => none
mutual
def trS : Nat → Cxt → Stmt → Option St
  | 0, _, _ => none
  | n + 1, Γ, s => match s with
    | .Assign [t] v _ => trA n Γ t v
    | .AugAssign (.Name x _) .Add e _ => if locB Γ x then (match ixOf Γ.N x, trE n Γ e with | some i, some y => some (.aug i .add y) | _, _ => none) else none
    | .AugAssign (.Name x _) .Sub e _ => if locB Γ x then (match ixOf Γ.N x, trE n Γ e with | some i, some y => some (.aug i .sub y) | _, _ => none) else none
    | .Expr e _ => if isComp e then none else (trE n Γ e).map .expr
    | .Return (some e) _ => (trE n Γ e).map .ret
    | .Return none _ => some .retN
    | .If c a b _ => (match trE n Γ c, trSs n Γ a, trSs n Γ b with | some t, some x, some y => some (.ite t x y) | _, _, _ => none)
    | .For tg it body [] _ => (match trT Γ 9 tg, trI n Γ (isTup tg) it, trSs n Γ body with | some t, some i, some b => some (.for_ t i b) | _, _, _ => none)
    | .While c body [] _ => (match trE n Γ c, trSs n Γ body with | some t, some b => some (.while_ t b) | _, _ => none)
    | .Pass _ => some .pass
    | .Break _ => some .brk
    | .Continue _ => some .cont
    | .Raise (some (.Call (.Name x _) (e :: es) [] _)) none _ => if okName x && glB Γ.sc x then (match Γ.G.cls x, trEs n Γ (e :: es) with
      | some c, some xs => (match Γ.G.exc[c]? with | some p => if !p.2.isEmpty && xs.length == p.2.length then some (.raise c xs) else some .no | none => some .no)
      | _, _ => some .no) else some .no
    | .Try body (h :: hs) [] [] _ => (match trSs n Γ body, trHds Γ (h :: hs) with
      | some b, some l => some (.try_ b l)
      | _, _ => some .no)
    | _ => some .no
def trSs : Nat → Cxt → List Stmt → Option (List St)
  | 0, _, _ => none
  | n + 1, _, [] => some []
  | n + 1, Γ, s :: r => match trS n Γ s, trSs n Γ r with
    | some x, some xs => some (x :: xs)
    | none, some xs => some (.no :: xs)
    | _, _ => none
end
/-! ### the stores of a tuple -/
theorem bk_of {env : Env} (hk : env.scope.kind = .function) : env.blockKind = .function := by unfold Env.blockKind; rw [hk]; rfl
theorem fm_len {α β : Type} {f : α → Option β} : ∀ {l : List α}, l.any (fun a => (f a).isNone) = true → (l.filterMap f).length ≠ l.length
  | [], h => by simp at h
  | a :: l, h => by
    have hle := List.length_filterMap_le f l
    simp only [List.any_cons, Bool.or_eq_true] at h
    rw [List.filterMap_cons]
    cases e : f a with
    | none => simp; omega
    | some b =>
      have h2 : l.any (fun a => (f a).isNone) = true := by
        rcases h with h | h
        · rw [e] at h; cases h
        · exact h
      have := fm_len h2
      show (b :: l.filterMap f).length ≠ (a :: l).length
      simp only [List.length_cons]
      omega
theorem swapN_ok {t v : Expr} {env : Env} (hk : env.scope.kind = .function) (h : swapN t v = true) : swappedStores [t] v env = pure none := by
  have hb := bk_of hk
  unfold swapN at h
  split at h
  · rename_i ts k1 p1 vs k2 p2
    rw [Bool.or_eq_true, Bool.or_eq_true, Bool.or_eq_true] at h
    unfold swappedStores
    simp only []
    rcases h with h | h | h | h
    · rw [if_pos (by simp only [h, Bool.true_or])]
    · rw [if_pos (by simp only [h, Bool.true_or, Bool.or_true])]
    · have h2 : (ts.filterMap fun
          | .Name id pos => if (env.kindOf id == some .local && pos.line == (ts.head?.map (·.pos.line)).getD 0) = true then some id else none
          | _ => none).length ≠ ts.length := fm_len (by
        obtain ⟨a, ha, hna⟩ := List.any_eq_true.mp h
        refine List.any_eq_true.mpr ⟨a, ha, ?_⟩
        cases a <;> first | rfl | (simp [isName] at hna))
      split
      · rfl
      · split
        · rfl
        · rw [if_pos (by rw [Bool.or_eq_true]; left; exact bne_iff_ne.mpr h2)]
    · split
      · rfl
      · split
        · rfl
        · split
          · rfl
          · first | rfl | rw [if_pos h]
  · cases h
  · rename_i h1 h2
    cases t <;> first | rfl | skip
    · exact (h1 _ _ rfl).elim
    · cases v <;> first | rfl | exact (h2 _ _ _ _ _ _ rfl rfl).elim
theorem par_names {Γ : Cxt} {x : Str} {env : Env} (he : env.scope = Γ.sc) (h : locL Γ x = true) : env.kindOf x = some .local := by
  unfold Env.kindOf
  rw [he]
  exact of_decide_eq_true h
theorem ed2 {x y : Str} (h : x ≠ y) : ([x, y] : List Str).eraseDups = [x, y] := by
  have : y ≠ x := fun e => h e.symm
  simp [List.eraseDups_cons, h, this]
theorem ed3 {x y z : Str} (h : x ≠ y) (h2 : x ≠ z) (h3 : y ≠ z) : ([x, y, z] : List Str).eraseDups = [x, y, z] := by
  have : y ≠ x := fun e => h e.symm
  have : z ≠ x := fun e => h2 e.symm
  have : z ≠ y := fun e => h3 e.symm
  simp [List.eraseDups_cons, *]
theorem par2_ok {Γ : Cxt} {x y : Str} {px py pt p2 : Pos} {kt k2 : Nat} {a b : Expr} {env : Env} (hk : env.scope.kind = .function) (he : env.scope = Γ.sc) (hs : ∀ w ∈ [a, b], ∀ e p, w ≠ .Starred e p) (h : par2 Γ [.Name x px, .Name y py] [a, b] = true) :
    swappedStores [.Tuple [.Name x px, .Name y py] kt pt] (.Tuple [a, b] k2 p2) env = pure (some [x, y]) := by
  have hb := bk_of hk
  unfold par2 at h
  simp only [Bool.and_eq_true, Bool.not_eq_true', beq_iff_eq, decide_eq_true_eq] at h
  obtain ⟨⟨hx, hy⟩, ⟨hl, hxy⟩, h1, h2⟩ := h
  have kx := par_names he hx
  have ky := par_names he hy
  unfold swappedStores
  simp only [hb]
  rw [if_neg (by simp), if_neg (fun hh => by
    obtain ⟨w, hw, e⟩ := List.any_eq_true.mp hh
    have := hs w hw
    cases w <;> first | exact absurd rfl (this _ _) | cases e)]
  have e1 : ([Expr.Name x px, Expr.Name y py].filterMap fun
      | .Name id pos => if (env.kindOf id == some .local && pos.line == ((Option.map (fun x : Expr => x.pos.line) [Expr.Name x px, Expr.Name y py].head?).getD 0)) = true then some id else none
      | _ => none) = [x, y] := by
    have e2 : ((Option.map (fun x : Expr => x.pos.line) [Expr.Name x px, Expr.Name y py].head?).getD 0) = px.line := rfl
    rw [e2]
    simp [List.filterMap_cons, kx, ky, hl]
  rw [if_neg (by
    intro hh
    rw [Bool.or_eq_true] at hh
    rcases hh with hh | hh
    · have hh := bne_iff_ne.mp hh
      exact hh (congrArg List.length e1)
    · have hh := bne_iff_ne.mp hh
      refine hh ?_
      refine (congrArg (fun l : List Str => l.eraseDups.length) e1).trans ?_
      refine Eq.trans ?_ (congrArg List.length e1).symm
      show ([x, y] : List Str).eraseDups.length = 2
      rw [ed2 hxy]; rfl), if_neg (by rw [h1]; decide), if_neg (by rw [h2]; decide)]
  exact congrArg (fun l : List Str => (pure (some l) : Sem (Option (List Str)))) e1
theorem par3_ok {Γ : Cxt} {x y z : Str} {px py pz pt p2 : Pos} {kt k2 : Nat} {a b c : Expr} {env : Env} (hk : env.scope.kind = .function) (he : env.scope = Γ.sc) (hs : ∀ w ∈ [a, b, c], ∀ e p, w ≠ .Starred e p) (h : par3 Γ [.Name x px, .Name y py, .Name z pz] [a, b, c] = true) :
    swappedStores [.Tuple [.Name x px, .Name y py, .Name z pz] kt pt] (.Tuple [a, b, c] k2 p2) env = pure (some [x, y, z]) := by
  have hb := bk_of hk
  unfold par3 at h
  simp only [Bool.and_eq_true, Bool.not_eq_true', beq_iff_eq, decide_eq_true_eq] at h
  obtain ⟨⟨hx, hy, hz⟩, ⟨⟨hl, hl2⟩, hxy, hxz, hyz⟩, h1, h2⟩ := h
  have kx := par_names he hx
  have ky := par_names he hy
  have kz := par_names he hz
  unfold swappedStores
  simp only [hb]
  rw [if_neg (by simp), if_neg (fun hh => by
    obtain ⟨w, hw, e⟩ := List.any_eq_true.mp hh
    have := hs w hw
    cases w <;> first | exact absurd rfl (this _ _) | cases e)]
  have e1 : ([Expr.Name x px, Expr.Name y py, Expr.Name z pz].filterMap fun
      | .Name id pos => if (env.kindOf id == some .local && pos.line == ((Option.map (fun x : Expr => x.pos.line) [Expr.Name x px, Expr.Name y py, Expr.Name z pz].head?).getD 0)) = true then some id else none
      | _ => none) = [x, y, z] := by
    have e2 : ((Option.map (fun x : Expr => x.pos.line) [Expr.Name x px, Expr.Name y py, Expr.Name z pz].head?).getD 0) = px.line := rfl
    rw [e2]
    simp [List.filterMap_cons, kx, ky, kz, hl, hl2]
  rw [if_neg (by
    intro hh
    rw [Bool.or_eq_true] at hh
    rcases hh with hh | hh
    · have hh := bne_iff_ne.mp hh
      exact hh (congrArg List.length e1)
    · have hh := bne_iff_ne.mp hh
      refine hh ?_
      refine (congrArg (fun l : List Str => l.eraseDups.length) e1).trans ?_
      refine Eq.trans ?_ (congrArg List.length e1).symm
      show ([x, y, z] : List Str).eraseDups.length = 3
      rw [ed3 hxy hxz hyz]; rfl), if_neg (by rw [h1]; decide), if_neg (by rw [h2]; decide)]
  exact congrArg (fun l : List Str => (pure (some l) : Sem (Option (List Str)))) e1
end DL

end
section
set_option maxHeartbeats 16000000
/-! # DL: the translation of statements is sound -/
namespace DL
open PySem PySem.Spec PyProof.Rows L2
/-- a target's store ends only forward or by an exception -/
def Fwd (r : RS) : Prop := (∀ env' S', r ≠ .bk env' S') ∧ (∀ env' S', r ≠ .ct env' S') ∧ ∀ d' S', r ≠ .rt d' S'
theorem Fwd.thenS {α : Type} {r : R α} {env : En} {f : α → Store → RS} (h : ∀ a S, Fwd (f a S)) : Fwd (r.thenS env f) := by
  cases r with
  | ok a S => exact h a S
  | ex c as S => exact ⟨fun _ _ e => (by cases e), fun _ _ e => (by cases e), fun _ _ e => (by cases e)⟩
  | bad => exact ⟨fun _ _ e => (by cases e), fun _ _ e => (by cases e), fun _ _ e => (by cases e)⟩
theorem Fwd.seq {r : RS} {f : En → Store → RS} (hr : Fwd r) (h : ∀ a S, Fwd (f a S)) : Fwd (r.seq f) := by
  cases r with
  | nx env S => exact h env S
  | bk env S => exact absurd rfl (hr.1 env S)
  | ct env S => exact absurd rfl (hr.2.1 env S)
  | rt d S => exact absurd rfl (hr.2.2 d S)
  | ex c as env S => exact ⟨fun _ _ e => (by cases e), fun _ _ e => (by cases e), fun _ _ e => (by cases e)⟩
  | bad => exact ⟨fun _ _ e => (by cases e), fun _ _ e => (by cases e), fun _ _ e => (by cases e)⟩
theorem Fwd.nx {env : En} {S : Store} : Fwd (.nx env S) := ⟨fun _ _ e => (by cases e), fun _ _ e => (by cases e), fun _ _ e => (by cases e)⟩
theorem Fwd.bad : Fwd .bad := ⟨fun _ _ e => (by cases e), fun _ _ e => (by cases e), fun _ _ e => (by cases e)⟩
theorem fwd_setR (y k x : D) (env : En) (S : Store) : Fwd (setR y k x env S) := by
  unfold setR
  (repeat' split) <;> first | exact .nx | exact .bad
section
variable {k : Nat} {F : Nat → List D → Store → R D} {C : List D} {fa : Nat → Addr} {fd : Nat → FuncData}
mutual
theorem fwd_putL : ∀ (t : LT) (d : D) (env : En) (S : Store), Fwd (putL F C t d env S)
  | .name i, d, env, S => .nx
  | .sub o i, d, env, S => Fwd.thenS fun y S1 => Fwd.thenS fun z S2 => fwd_setR _ _ _ _ _
  | .tup ts, d, env, S => by
    show Fwd (match items S d with
      | some l => if l.length = ts.length then putLs F C ts l env S else .bad
      | none => .bad)
    split
    · split
      · exact fwd_putLs ts _ env S
      · exact .bad
    · exact .bad
theorem fwd_putLs : ∀ (ts : List LT) (ds : List D) (env : En) (S : Store), Fwd (putLs F C ts ds env S)
  | [], [], env, S => .nx
  | t :: ts, d :: l, env, S => Fwd.seq (fwd_putL t d env S) fun env' S' => fwd_putLs ts l env' S'
  | [], _ :: _, env, S => .bad
  | _ :: _, [], env, S => .bad
end
theorem assignL_star {Γ : Cxt} {e : Expr} {n : Nat} {t : LT} (h : trL Γ n e = some t) (es : List Expr) (env : Env) : assignEach (e :: es) env = (false, assign e env) :: assignEach es env := by
  cases e <;> first | rfl | (cases n <;> simp [trL] at h)
theorem gcg {X : Cx} {P : Pm} {tg : Expr} {m m' : D → En → Store → RS} (h : PG X tg (rdG P m)) (hm : m = m') : PG X tg (rdG P m') := hm ▸ h
theorem gscg {X : Cx} {P : Pm} {tg : List Expr} {m m' : List D → En → Store → RS} (h : PGs X tg (rdGs P m)) (hm : m = m') : PGs X tg (rdGs P m') := hm ▸ h
theorem sub_asg {X : Cx} {o i : Expr} {pos : Pos} (hs : isSlice i = false) : ∀ v, assign (.Subscript o i pos) X.env v = (do
      let ov ← holding [v] (eval o X.env)
      let iv ← holding [v, ov] (eval i X.env)
      standAt pos
      holding [v, ov, iv] (setItem ov iv v)
      release [v, ov, iv] []) := by
  intro v
  cases i <;> first | rfl | (simp [isSlice] at hs)
theorem bf {b : Bool} (h : ¬ b = true) : b = false := by cases b <;> simp_all
mutual
theorem trL_ok : ∀ (n : Nat) (e : Expr) (t : LT) (X : Cx) (Γ : Cxt) (P : Pm), Good X Γ P k F C fa fd → trL Γ n e = some t → PG X e (rdG P (putL F C t))
  | 0, e, t, X, Γ, P, g, h => by simp [trL] at h
  | n + 1, e, t, X, Γ, P, g, h => by
    simp only [trL] at h
    split at h
    · split at h
      · rename_i hl
        obtain ⟨i, ei, rfl⟩ := omap h
        obtain ⟨l1, l2⟩ := g.loc hl
        exact g_name g.nd (g.ix ei) l1 l2
      · cases h
    · split at h
      · cases h
      · rename_i hs
        split at h
        · rename_i h1 h2
          cases h
          exact g_sub ((snd n).e X Γ P _ _ g h1).1 ((snd n).e X Γ P _ _ g h2).1 (sub_asg (bf hs))
        · cases h
    · obtain ⟨ts, e1, rfl⟩ := omap h
      obtain ⟨h1, h2, h3⟩ := trLs_ok n _ ts X Γ P g e1
      exact g_tup g.hK g.calm h1 h2 h3
    · cases h
theorem trLs_ok : ∀ (n : Nat) (es : List Expr) (ts : List LT) (X : Cx) (Γ : Cxt) (P : Pm), Good X Γ P k F C fa fd → trLs Γ n es = some ts →
    PGs X es (rdGs P (putLs F C ts)) ∧ (assignEach es X.env).length = ts.length ∧ (assignEach es X.env).findIdx? (·.1) = none
  | 0, es, ts, X, Γ, P, g, h => by simp [trLs] at h
  | n + 1, [], ts, X, Γ, P, g, h => by
    simp only [trLs] at h; cases h
    refine ⟨gscg g_nil ?_, rfl, rfl⟩
    funext ds env S
    cases ds <;> rfl
  | n + 1, e :: es, ts, X, Γ, P, g, h => by
    simp only [trLs] at h
    split at h
    · rename_i t ts' h1 h2
      cases h
      have p1 := trL_ok n e t X Γ P g h1
      obtain ⟨q1, q3, q4⟩ := trLs_ok n es ts' X Γ P g h2
      have ea := assignL_star h1 es X.env
      refine ⟨gscg (g_cons g.js p1 q1 (by rw [ea]; rfl)) ?_, by rw [ea]; simp [q3], ?_⟩
      · funext ds env S
        cases ds <;> rfl
      · rw [ea, List.findIdx?_cons]
        simp [q4]
    · cases h
end
/-! ### assignments -/
theorem swW {v : Expr} (h : isComp v = false) (t : Option Expr) (l : Nat) (env : Env) : swapsWith v t l env = pure false := by
  cases v <;> first | rfl | (simp [isComp] at h)
theorem swL {elt : Expr} {gs : List Comprehension} {scope : Scope} {pos : Pos} {tg : Expr} {l : Nat} {env : Env} (h : isName tg = false) : swapsWith (.ListComp elt gs scope pos) (some tg) l env = pure false := by
  cases tg <;> first | rfl | (simp [isName] at h)
theorem swLN {elt : Expr} {gs : List Comprehension} {scope : Scope} {pos py : Pos} {y : Str} {l : Nat} {env : Env} (hk : env.scope.kind = .function) : swapsWith (.ListComp elt gs scope pos) (some (.Name y py)) l env = pure (swB env.scope scope y py.line pos.line) := by
  have hb := bk_of hk
  unfold swapsWith swB
  simp only [hb, Env.kindOf, Expr.pos]
  rfl
theorem one_asg {t : Expr} {n : Nat} {Γ : Cxt} {lt : LT} {env : Env} (h : trL Γ n t = some lt) : (assignEach [t] env).map (·.2) = [assign t env] := by
  rw [assignL_star h]; rfl
theorem trE_comp {n : Nat} {Γ : Cxt} {v : Expr} {ex : Ex} (h : trE n Γ v = some ex) (hl : ∀ a b c d, v ≠ .ListComp a b c d) : isComp v = false := by
  cases v <;> first | rfl | exact absurd rfl (hl _ _ _ _) | (cases n <;> simp [trE] at h)
theorem nostar {n : Nat} {Γ : Cxt} {v : Expr} {ex : Ex} (h : trE n Γ v = some ex) : ∀ e p, v ≠ .Starred e p := by
  rintro e p rfl
  cases n <;> simp [trE] at h
theorem nostars {Γ : Cxt} : ∀ {n : Nat} {vs : List Expr} {xs : List Ex}, trEs n Γ vs = some xs → ∀ w ∈ vs, ∀ e p, w ≠ .Starred e p
  | 0, vs, xs, h => by simp [trEs] at h
  | n + 1, [], xs, h => fun w hw => by cases hw
  | n + 1, v :: vs, xs, h => by
    simp only [trEs] at h
    split at h
    · rename_i h1 h2
      intro w hw
      rcases List.mem_cons.mp hw with rfl | hw
      · exact nostar h1
      · exact nostars h2 w hw
    · cases h
theorem s_asgN {X : Cx} {Γ : Cxt} {P : Pm} (g : Good X Γ P k F C fa fd) {n : Nat} {t v : Expr} {lt : LT} {ex : Ex} {pos : Pos} (h1 : trL Γ n t = some lt) (h2 : trE n Γ v = some ex) (hs : swapsWithSole [t] v pos.line X.env = pure false) (hw : swapN t v = true) :
    PS X (.Assign [t] v pos) (rdS P fun env S => (ev F C ex env S).thenS env fun x S1 => putL F C lt x env S1) :=
  s_asg ((snd n).e X Γ P _ _ g h2).1 (trL_ok n t lt X Γ P g h1) (fun d env S => fwd_putL lt d env S) hs (swapN_ok (by rw [g.sc]; exact g.kind) hw) (one_asg h1)
end
end DL

end
section
set_option maxHeartbeats 1000000
/-! # DL: the translation of statements is sound, assignments and the induction -/
namespace DL
open PySem PySem.Spec PyProof.Rows L2
section
variable {k : Nat} {F : Nat → List D → Store → R D} {C : List D} {fa : Nat → Addr} {fd : Nat → FuncData}
theorem lc_parts {n : Nat} {X : Cx} {Γ : Cxt} {P : Pm} (g : Good X Γ P k F C fa fd) {elt : Expr} {gs : List Comprehension} {scope : Scope} {pos : Pos} {x : Ex} (h : trE n Γ (.ListComp elt gs scope pos) = some x) :
    ∃ tg iter ifs it t el, ∃ (own : List (Str × Nat)) (mt : En → Store → R Bool), gs = [⟨tg, iter, ifs, 0⟩] ∧ ev F C x = mLc (evi F C it) (ev F C el) mt t (own.map (·.2)) ∧ PI X tg iter (rdI P (evi F C it)) ∧ BlkOk X.N X.env.scope scope own ∧ PutOk X.K (gOf X.K t) t ∧ (∀ j ∈ t.ix, j ∈ own.map (·.2)) ∧
      (∀ (s : Shared) (H : Hp) (Ca : Addr) (cl : List (Str × Addr)) (fp : List Addr), PG (X.blk s H scope (compEnvC scope cl Ca X.env) fp) tg (gOf X.K t)) ∧ (∀ (s : Shared) (H : Hp) (Ca : Addr) (cl : List (Str × Addr)) (fp : List Addr), PTs (X.blk s H scope (compEnvC scope cl Ca X.env) fp) ifs (rdT P.shut mt)) ∧
      (∀ (s : Shared) (H : Hp) (Ca : Addr) (cl : List (Str × Addr)) (fp : List Addr), PE (X.blk s H scope (compEnvC scope cl Ca X.env) fp) elt (rdE P.shut (ev F C el))) ∧ ∀ z, foldedSetIterable iter X.env z = pure z := by
  cases n with
  | zero => simp [trE] at h
  | succ n =>
    have ih := snd (k := k) (F := F) (C := C) (fa := fa) (fd := fd) n
    rcases gs with _ | ⟨⟨tg, iter, ifs, as⟩, _ | ⟨g2, gr⟩⟩
    · simp [trE] at h
    · cases as with
      | ofNat m =>
        cases m with
        | zero =>
          have h : trE (n + 1) Γ (.ListComp elt [⟨tg, iter, ifs, (0 : Int)⟩] scope pos) = some x := h
          simp only [trE] at h
          split at h
          · rename_i hb
            split at h
            · rename_i it t el h1 h2 h3
              split at h
              · rename_i hs
                have ok := blkOk_by hb
                replace ok := (congrArg (fun N => BlkOk N Γ.sc _ _) g.N).mpr ok
                rw [← g.sc] at ok
                have hkd := ok.kind
                obtain ⟨i1, i2⟩ := ih.i X Γ P _ _ _ g h1
                have pgl := fun s H Ca cl fp => (trT_ok 9 _ _ _ _ _ (g.blk s H _ Ca cl fp hkd) h2).1
                have pg := put_gOf X.K t
                have he := fun s H Ca cl fp => (ih.e _ _ _ _ _ (g.blk s H _ Ca cl fp hkd) h3).1
                split at h
                · cases h
                  refine ⟨tg, iter, [], it, t, el, _, fun _ S => .ok true S, rfl, rfl, i1, ok, pg, subset_ok hs, pgl, fun s H Ca cl fp => ?_, he, i2⟩
                  exact ⟨fun pins s1 σ H1 Q I ⟨ρ, env, S, r, hh⟩ => pts_nil.run pins s1 σ H1 Q I (hh ρ true H1 (.refl H1 ρ) r.rep rfl)⟩
                · obtain ⟨c', e1, rfl⟩ := omap h
                  refine ⟨tg, iter, _, it, t, el, _, fun env S => evt F C [c'] env S, rfl, rfl, i1, ok, pg, subset_ok hs, pgl, fun s H Ca cl fp => ?_, he, i2⟩
                  have t1 : (fun env S => evt F C [c'] env S) = mT (ev F C c') := by
                    funext env S
                    show ((ev F C c' env S).bind fun x S1 => (truthR x S1).bind fun k S2 => if k = true then R.ok true S2 else R.ok false S2) = (ev F C c' env S).bind truthR
                    cases ev F C c' env S with
                    | ok x S1 =>
                      show ((truthR x S1).bind fun k S2 => if k = true then R.ok true S2 else R.ok false S2) = truthR x S1
                      unfold truthR
                      cases truth S1 x with
                      | none => rfl
                      | some b => cases b <;> rfl
                    | ex _ _ _ => rfl
                    | bad => rfl
                  rw [t1]
                  exact pts_one (ih.e _ _ _ _ _ (g.blk s H _ Ca cl fp hkd) e1).2
                · cases h
              · cases h
            · cases h
          · cases h
        | succ m => exact absurd (show (none : Option Ex) = some x from h) (fun e => by cases e)
      | negSucc m => exact absurd (show (none : Option Ex) = some x from h) (fun e => by cases e)
    · simp [trE] at h
theorem s_lc {n : Nat} {X : Cx} {Γ : Cxt} {P : Pm} (g : Good X Γ P k F C fa fd) {elt : Expr} {gs : List Comprehension} {scope : Scope} {pos spos py : Pos} {x : Ex} {y : Str} {i : Nat} (h : trE n Γ (.ListComp elt gs scope pos) = some x) (hi : ixOf Γ.N y = some i) (hsw : swB Γ.sc scope y py.line pos.line = true) :
    PS X (.Assign [.Name y py] (.ListComp elt gs scope pos) spos) (rdS P fun env S => (ev F C x env S).thenS env fun d S1 => putL F C (.name i) d env S1) := by
  obtain ⟨tg, iter, ifs, it, t, el, own, mt, rfl, hev, i1, ok, pg, hown, pgl, pt, he, i2⟩ := lc_parts g h
  have hsl : X.env.scope.names.lookup y = some .local := by
    rw [g.sc]
    unfold swB at hsw
    simp only [Bool.and_eq_true] at hsw
    have := hsw.1.1
    cases e : Γ.sc.names.lookup y with
    | none => rw [e] at this; cases this
    | some kd => rw [e] at this; cases kd <;> first | rfl | cases this
  have hs2 : swapsWith (.ListComp elt [⟨tg, iter, ifs, 0⟩] scope pos) (some (.Name y py)) spos.line X.env = pure true := by
    rw [swLN (by rw [g.sc]; exact g.kind), g.sc, hsw]
  rw [hev]
  refine PS.imp (ps_setLc g.calm g.nd (g.ix hi) hsl hs2 i1 ok pgl pt he i2) fun D σ H ⟨ρ, env, S, r, hh⟩ => ?_
  refine lc_imp (hK := g.hK) g.js pg hown ⟨ρ, env, S, r, PostS.bind (f := fun d S1 => putL F C (.name i) d env S1) r.env hh fun d S1 ρ1 v H1 _ st1 q1 a1 h1 => ?_⟩
  exact NxP.done h1 q1 ((r.env.mono st1).set a1)
theorem ix_ne {N : List Str} {x y : Str} {i j : Nat} (h1 : ixOf N x = some i) (h2 : ixOf N y = some j) (h : x ≠ y) : i ≠ j := by
  rintro rfl
  have a := ixOf_ok h1
  rw [ixOf_ok h2] at a
  cases a; exact h rfl
theorem locL_ok {Γ : Cxt} {X : Cx} (hs : X.env.scope = Γ.sc) {x : Str} (h : locL Γ x = true) : X.env.scope.names.lookup x = some .local := by
  rw [hs]; exact of_decide_eq_true h
theorem post_par {P : Pm} {σ : L2.St} {H : Hp} {ρ : List Addr} {env : En} {rr : R (List D)} {f : List D → Store → RS} {D : Ends} {Φ : List V → Hp → Prop} (ev : EnvR P.K H ρ env σ) (hl : ∀ l S1, rr = .ok l S1 → l.length ≤ PySem.sizeLine) (h : PostS P H ρ ((rr.bind newT).thenS env fun d S1 => match d with | .tup l => f l S1 | _ => .bad) D)
    (k : ∀ l S1 ρ1 v H1, rr = .ok l S1 → Step H ρ H1 ρ1 → Rep P.K H1 ρ1 S1 → AtL P.K H1 ρ1 l v → PostS P H1 ρ1 (f l S1) D → Φ v H1) : Post P σ H ρ (relL P) rr Φ := by
  cases rr with
  | ok l S1 =>
    have e : newT l S1 = .ok (.tup l) S1 := if_pos (hl l S1 rfl)
    have h : PostS P H ρ ((newT l S1).thenS env fun d S1 => match d with | .tup l => f l S1 | _ => .bad) D := h
    rw [e] at h
    exact fun ρ' v H' s q a => k l S1 ρ' v H' rfl s q a (PostS.step s h)
  | ex c as S' => exact fun ρ' cls dd H' s q x => h ρ' σ cls dd H' s q (ev.mono s) x
  | bad => exact h
theorem putLs_2 {i j : Nat} {a b : D} {env : En} {S : Store} : putL F C (.tup [.name i, .name j]) (.tup [a, b]) env S = .nx ((env.set i (some a)).set j (some b)) S := rfl
theorem putLs_3 {i j l : Nat} {a b c : D} {env : En} {S : Store} : putL F C (.tup [.name i, .name j, .name l]) (.tup [a, b, c]) env S = .nx (((env.set i (some a)).set j (some b)).set l (some c)) S := rfl
theorem len2 {l : List D} (h : l.length = 2) : ∃ a b, l = [a, b] := by
  rcases l with _ | ⟨a, _ | ⟨b, _ | ⟨c, l⟩⟩⟩ <;> simp at h
  exact ⟨a, b, rfl⟩
theorem len3 {l : List D} (h : l.length = 3) : ∃ a b c, l = [a, b, c] := by
  rcases l with _ | ⟨a, _ | ⟨b, _ | ⟨c, _ | ⟨d, l⟩⟩⟩⟩ <;> simp at h
  exact ⟨a, b, c, rfl⟩
theorem names2 {Γ : Cxt} {n : Nat} {x y : Str} {px py pt : Pos} {kt : Nat} {lt : LT} (h : trL Γ n (.Tuple [.Name x px, .Name y py] kt pt) = some lt) : ∃ i j, ixOf Γ.N x = some i ∧ ixOf Γ.N y = some j ∧ lt = .tup [.name i, .name j] := by
  rcases n with _ | _ | _ | _ | n <;> simp only [trL, trLs] at h <;> try (cases h; done)
  · simp at h
  · simp at h
    obtain ⟨a, h, rfl⟩ := h
    revert h
    split <;> intro h <;> try cases h
    rename_i t ts h1 h2
    split at h1 <;> try cases h1
    obtain ⟨i, e1, rfl⟩ := omap h1
    split at h2 <;> try cases h2
    rename_i t2 ts2 h3 h4
    split at h3 <;> try cases h3
    obtain ⟨j, e2, rfl⟩ := omap h3
    cases h4
    exact ⟨i, j, e1, e2, rfl⟩
theorem names3 {Γ : Cxt} {n : Nat} {x y z : Str} {px py pz pt : Pos} {kt : Nat} {lt : LT} (h : trL Γ n (.Tuple [.Name x px, .Name y py, .Name z pz] kt pt) = some lt) : ∃ i j l, ixOf Γ.N x = some i ∧ ixOf Γ.N y = some j ∧ ixOf Γ.N z = some l ∧ lt = .tup [.name i, .name j, .name l] := by
  rcases n with _ | _ | _ | _ | _ | n <;> simp only [trL, trLs] at h <;> try (cases h; done)
  · simp at h
  · simp at h
  · simp at h
    obtain ⟨a, h, rfl⟩ := h
    revert h
    split <;> intro h <;> try cases h
    rename_i t ts h1 h2
    split at h1 <;> try cases h1
    obtain ⟨i, e1, rfl⟩ := omap h1
    split at h2 <;> try cases h2
    rename_i t2 ts2 h3 h4
    split at h3 <;> try cases h3
    obtain ⟨j, e2, rfl⟩ := omap h3
    split at h4 <;> try cases h4
    rename_i t3 ts3 h5 h6
    split at h5 <;> try cases h5
    obtain ⟨l, e3, rfl⟩ := omap h5
    cases h6
    exact ⟨i, j, l, e1, e2, e3, rfl⟩
theorem tupE {n : Nat} {Γ : Cxt} {es : List Expr} {k2 : Nat} {p2 : Pos} {ex : Ex} (h : trE n Γ (.Tuple es k2 p2) = some ex) : ∃ m xs, trEs m Γ es = some xs ∧ ex = .tup xs := by
  cases n with
  | zero => simp [trE] at h
  | succ n =>
    simp only [trE] at h
    obtain ⟨xs, e1, rfl⟩ := omap h
    exact ⟨n, xs, e1, rfl⟩
theorem s_par2 {n : Nat} {X : Cx} {Γ : Cxt} {P : Pm} (g : Good X Γ P k F C fa fd) {x y : Str} {px py pt p2 pos : Pos} {kt k2 : Nat} {a b : Expr} {lt : LT} {ex : Ex} (h1 : trL Γ n (.Tuple [.Name x px, .Name y py] kt pt) = some lt) (h2 : trE n Γ (.Tuple [a, b] k2 p2) = some ex) (h : par2 Γ [.Name x px, .Name y py] [a, b] = true) :
    PS X (.Assign [.Tuple [.Name x px, .Name y py] kt pt] (.Tuple [a, b] k2 p2) pos) (rdS P fun env S => (ev F C ex env S).thenS env fun d S1 => putL F C lt d env S1) := by
  obtain ⟨i, j, ei, ej, rfl⟩ := names2 h1
  obtain ⟨m, xs, hx, rfl⟩ := tupE h2
  have hk : X.env.scope.kind = .function := by rw [g.sc]; exact g.kind
  have hw := par2_ok (kt := kt) (k2 := k2) (pt := pt) (p2 := p2) hk g.sc (nostars hx) h
  have h' := h
  unfold par2 at h'
  simp only [Bool.and_eq_true, Bool.not_eq_true', beq_iff_eq, decide_eq_true_eq] at h'
  obtain ⟨⟨lx, ly⟩, ⟨_, hxy⟩, _⟩ := h'
  refine PS.imp (ps_par g.calm g.nd (g.ix ei) (g.ix ej) (ix_ne ei ej hxy) (locL_ok g.sc lx) (locL_ok g.sc ly) ((snd m).es X Γ P _ _ g hx) hw rfl) fun D σ H ⟨ρ, env, S, r, hh⟩ => ?_
  have len : ∀ l S1, evs F C xs env S = .ok l S1 → l.length = 2 := fun l S1 e => by rw [evs_len e, trEs_len hx]; rfl
  refine ⟨ρ, env, S, r, post_par (D := D) (f := fun l S1 => putL F C (.tup [.name i, .name j]) (.tup l) env S1) r.env (fun l S1 e => by rw [len l S1 e]; decide) ?_ fun l S1 ρ1 v H1 e st1 q1 a1 hq => ?_⟩
  · have e : ((evs F C xs env S).bind newT).thenS env (fun d S1 => match d with | .tup l => putL F C (.tup [.name i, .name j]) (.tup l) env S1 | _ => .bad) = (((evs F C xs env S).bind newT).thenS env fun d S1 => putL F C (.tup [.name i, .name j]) d env S1) := by
      cases evs F C xs env S with
      | ok l S1 =>
        show ((newT l S1).thenS env _) = ((newT l S1).thenS env _)
        unfold newT
        split <;> rfl
      | ex _ _ _ => rfl
      | bad => rfl
    rw [e]; exact hh
  · obtain ⟨d1, d2, rfl⟩ := len2 (len l S1 e)
    obtain ⟨v1, w1, rfl, av, aw⟩ := a1.inv
    obtain ⟨v2, w2, rfl, av2, aw2⟩ := aw.inv
    cases AtL_nil_of aw2
    have hq : PostS P H1 ρ1 (.nx ((env.set i (some d1)).set j (some d2)) S1) D := hq
    exact ⟨v1, v2, rfl, NxP.done hq q1 (((r.env.mono st1).set av).set av2)⟩
theorem s_par3 {n : Nat} {X : Cx} {Γ : Cxt} {P : Pm} (g : Good X Γ P k F C fa fd) {x y z : Str} {px py pz pt p2 pos : Pos} {kt k2 : Nat} {a b c : Expr} {lt : LT} {ex : Ex} (h1 : trL Γ n (.Tuple [.Name x px, .Name y py, .Name z pz] kt pt) = some lt) (h2 : trE n Γ (.Tuple [a, b, c] k2 p2) = some ex) (h : par3 Γ [.Name x px, .Name y py, .Name z pz] [a, b, c] = true) :
    PS X (.Assign [.Tuple [.Name x px, .Name y py, .Name z pz] kt pt] (.Tuple [a, b, c] k2 p2) pos) (rdS P fun env S => (ev F C ex env S).thenS env fun d S1 => putL F C lt d env S1) := by
  obtain ⟨i, j, l0, ei, ej, el, rfl⟩ := names3 h1
  obtain ⟨m, xs, hx, rfl⟩ := tupE h2
  have hk : X.env.scope.kind = .function := by rw [g.sc]; exact g.kind
  have hw := par3_ok (kt := kt) (k2 := k2) (pt := pt) (p2 := p2) hk g.sc (nostars hx) h
  have h' := h
  unfold par3 at h'
  simp only [Bool.and_eq_true, Bool.not_eq_true', beq_iff_eq, decide_eq_true_eq] at h'
  obtain ⟨⟨lx, ly, lz⟩, ⟨_, hxy, hxz, hyz⟩, _⟩ := h'
  refine PS.imp (ps_par3 g.calm g.nd (g.ix ei) (g.ix ej) (g.ix el) (ix_ne ei ej hxy) (ix_ne ei el hxz) (ix_ne ej el hyz) (locL_ok g.sc lx) (locL_ok g.sc ly) (locL_ok g.sc lz) ((snd m).es X Γ P _ _ g hx) hw rfl) fun D σ H ⟨ρ, env, S, r, hh⟩ => ?_
  have len : ∀ l S1, evs F C xs env S = .ok l S1 → l.length = 3 := fun l S1 e => by rw [evs_len e, trEs_len hx]; rfl
  refine ⟨ρ, env, S, r, post_par (D := D) (f := fun l S1 => putL F C (.tup [.name i, .name j, .name l0]) (.tup l) env S1) r.env (fun l S1 e => by rw [len l S1 e]; decide) ?_ fun l S1 ρ1 v H1 e st1 q1 a1 hq => ?_⟩
  · have e : ((evs F C xs env S).bind newT).thenS env (fun d S1 => match d with | .tup l => putL F C (.tup [.name i, .name j, .name l0]) (.tup l) env S1 | _ => .bad) = (((evs F C xs env S).bind newT).thenS env fun d S1 => putL F C (.tup [.name i, .name j, .name l0]) d env S1) := by
      cases evs F C xs env S with
      | ok l S1 =>
        show ((newT l S1).thenS env _) = ((newT l S1).thenS env _)
        unfold newT
        split <;> rfl
      | ex _ _ _ => rfl
      | bad => rfl
    rw [e]; exact hh
  · obtain ⟨d1, d2, d3, rfl⟩ := len3 (len l S1 e)
    obtain ⟨v1, w1, rfl, av, aw⟩ := a1.inv
    obtain ⟨v2, w2, rfl, av2, aw2⟩ := aw.inv
    obtain ⟨v3, w3, rfl, av3, aw3⟩ := aw2.inv
    cases AtL_nil_of aw3
    have hq : PostS P H1 ρ1 (.nx (((env.set i (some d1)).set j (some d2)).set l0 (some d3)) S1) D := hq
    exact ⟨v1, v2, v3, rfl, NxP.done hq q1 ((((r.env.mono st1).set av).set av2).set av3)⟩
end
end DL

end
section
set_option maxHeartbeats 1000000
/-! # DL: the translation of statements is sound, the induction -/
namespace DL
open PySem PySem.Spec PyProof.Rows L2
section
variable {k : Nat} {F : Nat → List D → Store → R D} {C : List D} {fa : Nat → Addr} {fd : Nat → FuncData}
theorem trA_ok {n : Nat} {X : Cx} {Γ : Cxt} {P : Pm} (g : Good X Γ P k F C fa fd) {t v : Expr} {pos : Pos} {st : St} (N : Nat) (h : trA n Γ t v = some st) : PS X (.Assign [t] v pos) (rdS P (exec F C N st)) := by
  have hk : X.env.scope.kind = .function := by rw [g.sc]; exact g.kind
  unfold trA at h
  split at h
  · rename_i lt ex h1 h2
    split at h
    · rename_i x p elt gs scope vp
      cases h
      have e1 : ∃ i, ixOf Γ.N x = some i ∧ lt = .name i := by
        cases n with
        | zero => simp [trL] at h1
        | succ n =>
          simp only [trL] at h1
          split at h1
          · obtain ⟨i, e, rfl⟩ := omap h1
            exact ⟨i, e, rfl⟩
          · cases h1
      obtain ⟨i, e, rfl⟩ := e1
      cases hsw : swB Γ.sc scope x p.line vp.line with
      | true => exact s_lc g h2 e hsw
      | false => exact s_asgN g h1 h2 (by simp only [swapsWithSole]; rw [swLN hk, g.sc, hsw]) rfl
    · rename_i ts k1 p1 vs k2 p2
      split at h
      · rename_i hc
        cases h
        cases hw : swapN (.Tuple ts k1 p1) (.Tuple vs k2 p2) with
        | true => exact s_asgN g h1 h2 rfl hw
        | false =>
          rw [hw, Bool.false_or, Bool.or_eq_true] at hc
          rcases hc with hc | hc
          · unfold par2 at hc
            split at hc
            · exact s_par2 g h1 h2 hc
            · cases hc
          · unfold par3 at hc
            split at hc
            · exact s_par3 g h1 h2 hc
            · cases hc
      · cases h
    · rename_i n1 n2
      split at h
      · rename_i hw
        cases h
        refine s_asgN g h1 h2 ?_ hw
        simp only [swapsWithSole]
        by_cases hl : ∃ a b c d, v = .ListComp a b c d
        · obtain ⟨a, b, c, d, rfl⟩ := hl
          refine swL ?_
          cases t <;> first | rfl | exact (n1 _ _ _ _ _ _ rfl rfl).elim
        · exact swW (trE_comp h2 fun a b c d e => hl ⟨a, b, c, d, e⟩) _ _ _
      · cases h
  · cases h
end
end DL

end
section
set_option maxHeartbeats 4000000
/-! # DL: raise -/
namespace DL
open PySem PySem.Spec PyProof.Rows L2
section
variable {k : Nat} {F : Nat → List D → Store → R D} {C : List D} {fa : Nat → Addr} {fd : Nat → FuncData} {X : Cx} {Γ : Cxt} {P : Pm}
theorem made_heap {H : Hp} {a dx Ca : Addr} {l l' : List (Str × V)} (na : H a = none) (ne : dx ≠ a) : upd (L2.del (upd (upd (upd H a (exo a Ca none)) dx (exd dx l)) a (exo a Ca (some dx))) a) dx (.xd l') = upd H dx (.xd l') := by
  funext b
  by_cases e : b = dx
  · subst e
    rw [upd_same, upd_same]
  · rw [upd_ne e, upd_ne e]
    by_cases e2 : b = a
    · subst e2
      rw [del_same, na]
    · rw [del_ne e2, upd_ne e2, upd_ne e, upd_ne e2]
theorem s_raise (g : Good X Γ P k F C fa fd) {n c : Nat} {x : Str} {fs : List Str} {e : Expr} {es : List Expr} {p pos pos' : Pos} {xs : List Ex} (hx : Γ.G.exc[c]? = some (x, fs)) (hfs : fs ≠ []) (hn : okName x = true) (hg : glB Γ.sc x = true) (h : trEs n Γ (e :: es) = some xs) (hl : xs.length = fs.length) :
    PS X (.Raise (some (.Call (.Name x p) (e :: es) [] pos)) none pos') (rdS P fun env S => (evs F C xs env S).thenS env fun vs S1 => .ex c vs env S1) := by
  obtain ⟨Ca, ex⟩ := g.exc c x fs hx
  obtain ⟨T, _, hf, hno, hnm, st, qual, fI, fdI, iC, tI, FD, FS, hb, bd⟩ := ex.make hfs
  have hs : starEach (e :: es) X.env = (false, eval e X.env) :: starEach es X.env ∧ ∃ m ys, trEs m Γ es = some ys := by
    cases n with
    | zero => simp [trEs] at h
    | succ n =>
      simp only [trEs] at h
      split at h
      · rename_i h1 h2
        exact ⟨star_ok h1 _ _, n, _, h2⟩
      · cases h
  obtain ⟨s1, m, ys, s2⟩ := hs
  have F1 := init_ok (P := X.prog) (w := X.w) (mg := X.mg) (base := X.base) FD FS T hb ⟨hf.1, hf.2.1⟩ hno hnm
  refine PS.imp (ps_raise g.calm g.tk (pmk_oex T iC tI F1 (g.rm.mono g.k2) bd .nil passL (g.gl hg) ex.glob ((snd n).es X Γ P _ _ g h) (okName_ok hn).1 s1 (any_star s2))) fun D σ H ⟨ρ, env, S, r, hh⟩ => ?_
  refine ⟨ρ, env, S, r, PostS.bind (f := fun vs S1 => .ex c vs env S1) r.env hh fun ds S1 ρ1 vs H1 e1 st1 q1 a1 h1 => ?_⟩
  have hlen : vs.length = fs.length := by rw [← AtL.length a1, evs_len e1, hl]
  refine ⟨by rw [hlen]; have := hf.2.1; omega, fun a na => ⟨a, vs, by simp, hlen, upd_same, fun dx n1 n2 => ?_⟩⟩
  have n1' : H1 dx = none := by rw [upd_ne n2] at n1; exact n1
  refine ⟨rfl, dx, (fs.zip vs).reverse, upd_same, (upd_ne n2).trans upd_same, n1', ?_⟩
  rw [made_heap na n2]
  have st2 : Step H1 ρ1 (upd H1 dx (.xd (fs.zip vs).reverse)) ρ1 := ⟨.new n1', List.prefix_refl ρ1⟩
  refine h1 ρ1 σ _ _ _ st2 (q1.newT n1') ((r.env.mono st1).mono st2) ?_
  rw [g.xa]
  exact ⟨x, fs, Ca, dx, vs, hx, ex.glob, rfl, rfl, upd_same, AtL.mono st2 a1, hlen⟩
end
end DL

end
section
set_option maxHeartbeats 4000000
/-! # DL: a try with several clauses, some of them with a name -/
namespace DL
open PySem PySem.Spec PyProof.Rows L2
abbrev Cl := Value × Option Nat × (Addr → Value → Option Addr → TS)
/-- behind a suite its name is gone -/
def offE (D : Ends) (i : Nat) : Ends where
  nx := fun σ H => D.nx (σ.set i none) H
  rt := D.rt
  bk := fun σ H => D.bk (σ.set i none) H
  ct := fun σ H => D.ct (σ.set i none) H
/-- what a suite is asked for -/
def tsOf (o : Option Nat) (ts : TS) (a : Addr) (D : Ends) (σ : L2.St) (H : Hp) : Prop := match o with
  | none => ts D σ H
  | some i => ts (offE D i) (σ.set i (some (.ref a))) H
def wMix (K : Frag) (Wo : WX) (D : Ends) : List Cl → WX
  | [] => Wo
  | (c, o, ts) :: r => fun cls d σ H => ∃ b, PySem.W.exmOne K cls c = some b ∧
      (b = true → ∀ a, H a = none → tsOf o (ts a cls d) a D σ H) ∧ (b = false → wMix K Wo D r cls d σ H)
/-- the name of a clause and its slot -/
def NameAt (X : Cx) : Option Str → Option Nat → Prop
  | none, none => True
  | some n, some i => X.N[i]? = some n ∧ X.env.kindOf n = some .local
  | _, _ => False
def SuiteOk (X : Cx) (body : List Stmt) (ts : Addr → Value → Option Addr → TS) : Prop :=
  ∀ a oe cls d pn, Zc cls d oe → (∃ vs, oe.data = .fields vs) → PSs (X.suite a ((a, oe) :: pn)) body (ts a cls d)
inductive Clauses (X : Cx) : List ExceptHandler → List Cl → Prop
  | nil : Clauses X [] []
  | cons {x : Str} {c : Value} {nm : Option Str} {o : Option Nat} {ts : Addr → Value → Option Addr → TS} {b : Stmt} {bs : List Stmt} {np hp : Pos} {hds : List ExceptHandler} {l : List Cl}
      (hc : Names X x c) (ho : NameAt X nm o) (hs : SuiteOk X (b :: bs) ts) (r : Clauses X hds l) :
      Clauses X (.ExceptHandler (some (.Name x np)) nm (b :: bs) hp :: hds) ((c, o, ts) :: l)
/-- an exception, caught by the frame: it lies there, the rest is a state of ours -/
structure Caught (X : Cx) (pins : List (Addr × Obj)) (a : Addr) (cls : Value) (d : Option Addr) (σ : L2.St) (H : Hp) (B : Heap) (s : Shared) : Prop where
  inv : Inv X pins σ H s
  fly : HandSPX.FlyingZ B (X.env :: X.outer) a (Zc cls d) s.heap
  na : H a = none
  re : ∀ h, s.heap.UpToSlots h → (HandSPX.FlyingZ B (X.env :: X.outer) a (Zc cls d) h → Inv X pins σ H { s with heap := h }) ∧
    (HandSPX.HeldZ B (X.env :: X.outer) a (Zc cls d) X.env.locals h → ∀ W : WX, W cls d σ H → XE X W (.ref a) { s with heap := h })
section
variable {X : Cx} {pins : List (Addr × Obj)}
theorem Caught.off {a : Addr} {cls : Value} {d : Option Addr} {σ : L2.St} {H : Hp} {B : Heap} {s : Shared} (c : Caught X pins a cls d σ H B s) (hf : X.env.frame = some X.env.locals) {h : Heap}
    (fl : HandSPX.FlyingZ B (X.env :: X.outer) a (Zc cls d) h) {oe : Obj} {vs : Array Value} (he : h.get? a = some oe) (hd : oe.data = .fields vs) : a ≠ X.env.locals ∧ a ∉ X.fs := by
  have no : a ∉ frs (X.env :: X.outer) := by
    intro m
    obtain ⟨_, q, e, n⟩ := fl.2.2.1.mem m
    cases he.symm.trans e
    exact n _ hd
  constructor
  · rintro rfl
    exact no (List.mem_filterMap.mpr ⟨_, List.mem_cons_self, hf⟩)
  · intro m
    obtain ⟨v, hv, q⟩ := List.mem_filterMap.mp m
    exact no (List.mem_filterMap.mpr ⟨v, List.mem_cons_of_mem _ hv, q⟩)
/-- it is noted, it lies -/
theorem catches {W : WX} {xe E : Value → Shared → Prop} {u : Value} {s' : Shared} {R : Shared → Prop} (ok : X.Ok) (hs : X.stack = X.env :: X.outer) (hf : X.env.frame = some X.env.locals)
    (x : XE (X.tr (X.pn ++ pins) xe) W u s')
    (hR : ∀ a cls d σ H B s, u = .ref a → Caught X pins a cls d σ H B s → W cls d σ H → R s) :
    wpAny (model X.prog X.w) X.A (noteFrame u X.env) (fun _ s₂ => wpAny (model X.prog X.w) X.A (setFlight u none) (fun _ s₃ => R s₃) E s₂) E s' := by
  obtain ⟨a, B, sI, pn', σ, H, cls, d, rfl, J0, nb, up, sky, na, os, ag, w⟩ := x
  have J := J0.ofTry (X := X) ok
  have sk : Sky B (X.env :: X.outer) a (Zc cls d) X.env.locals s'.heap := hs ▸ sky
  refine Sky.land Zc.steady (by rw [ok.frames, hs]) hf sk fun h3 fl up3 => ?_
  refine hR a cls d σ H B _ rfl ⟨J.landed nb fl.1 (up.trans up3) os ag, fl, na, fun h up4 => ⟨fun f4 => ?_, fun hd W' w' => ?_⟩⟩ w
  · exact J.landed (s' := { s' with heap := h }) nb f4.1 ((up.trans up3).trans up4) os ag
  · exact ⟨a, B, sI, pins, σ, H, cls, d, rfl, J, nb, (up.trans up3).trans up4, .inr (.inr (hs ▸ hd)), na, os, ag, w'⟩
theorem clause_go {Wo : WX} {D : Ends} (ok : X.Ok) (hN : X.N.Nodup) (hf : X.env.frame = some X.env.locals) (tk : Takes X Wo) {a : Addr} {cls : Value} {d : Option Addr} {σ : L2.St} {H : Hp} {B : Heap} {s : Shared} (c : Caught X pins a cls d σ H B s) :
    ∀ {hds : List ExceptHandler} {l : List Cl}, Clauses X hds l → wMix X.K Wo D l cls d σ H → wpAny (model X.prog X.w) X.A (handleBy (.ref a) X.env hds) (SP X pins D) X.xe s := by
  intro hds l k
  induction k with
  | nil =>
    intro w
    refine wpAny_handleBy_nil ?_
    unfold PySem.passOn
    obtain ⟨_, _, _, _, _, T, _, _, g1, _, g2, g3, _⟩ := id c.fly
    refine wpAny_bind (wpAny_field g1 g2 g3 ?_)
    have ne : ¬ ((Value.ref T == Value.none) = true) := by simp
    rw [if_neg ne]
    have last : wpAny (model X.prog X.w) X.A (setFlight (.ref a) X.env.frame) (fun _ s4 => wpAny (model X.prog X.w) X.A (throw (.ref a) : Sem Flow) (SP X pins D) X.xe s4) X.xe s := by
      rw [hf]
      exact HandSPX.setFlight_upZ c.fly fun h hh up => wpAny_throw (tk _ _ ((c.re h up).2 hh Wo w))
    first | exact wpAny_bind (wpAny_pure (wpAny_bind last)) | exact wpAny_bind last
  | @cons x cv nm o ts b bs np hp hds l hc ho hsu r ih =>
    rintro ⟨bb, hb1, yes, no⟩
    obtain ⟨oe, vs, he, hz, hd⟩ := c.fly.there
    obtain ⟨nL, nF⟩ := c.off hf c.fly he hd
    have S := c.inv.suite he hd c.na nL nF
    refine wpAny_handleBy_cons (codeAny_handlers_test ?_) (by intro q; cases q)
    have look : ∀ {Q E : Value → Shared → Prop}, Q cv s → wpAny (model X.prog X.w) (X.A.mark (some (.ref a))) (eval (.Name x np) X.env) Q E s := by
      intro Q E q
      obtain ⟨hg, hdb, hm | ⟨hm, hv, hnn⟩⟩ := hc
      · exact ld_glob (X := X.suite a ((a, oe) :: (X.pn ++ pins))) S hg hm q hdb
      · exact ld_blt (X := X.suite a ((a, oe) :: (X.pn ++ pins))) S hg hm hv q hnn hdb
    have ty : PySem.W.Looks (model X.prog X.w) s.heap (typeOf (.ref a)) cls := by
      intro A Q E s k q
      refine wpAny_typeOf_ref (k _ _ he) ?_
      rw [hz.1]; exact q
    refine look ((PySem.W.exm_one (M := model X.prog X.w) c.inv.kIn ty hb1).here ?_)
    cases bb with
    | false => exact ih (no rfl)
    | true =>
      have y := yes rfl a c.na
      cases nm with
      | none =>
        cases o with
        | some i => exact absurd ho (by simp [NameAt])
        | none =>
          refine codeAny_handlers_suite (HandSPX.lands_againZ c.fly fun h4 f4 up4 => ?_)
          obtain ⟨oe4, vs4, he4, hz4, hd4⟩ := f4.there
          obtain ⟨nL4, nF4⟩ := c.off hf f4 he4 hd4
          have S4 := ((c.re h4 up4).1 f4).suite he4 hd4 c.na nL4 nF4
          refine wpAny_mono ((hsu a oe4 cls d (X.pn ++ pins) hz4 ⟨_, hd4⟩).run [] _ σ H D S4 y) (fun f s6 z => ?_) fun _ _ z => z.elim
          cases f with
          | ret u => obtain ⟨v6, σ6, H6, S6, r6, q6⟩ := z; exact ⟨v6, σ6, H6, S6.unsuite ok, r6, q6⟩
          | next => obtain ⟨σ6, H6, S6, q6⟩ := z; exact ⟨σ6, H6, S6.unsuite ok, q6⟩
          | brk => obtain ⟨σ6, H6, S6, q6⟩ := z; exact ⟨σ6, H6, S6.unsuite ok, q6⟩
          | cont => obtain ⟨σ6, H6, S6, q6⟩ := z; exact ⟨σ6, H6, S6.unsuite ok, q6⟩
      | some n =>
        cases o with
        | none => exact absurd ho (by simp [NameAt])
        | some i =>
          obtain ⟨hi, hl⟩ := ho
          refine codeAny_handlers_suite_as (HandSPX.lands_againZ c.fly fun h4 f4 up4 => ?_)
          obtain ⟨oe4, vs4, he4, hz4, hd4⟩ := f4.there
          obtain ⟨nL4, nF4⟩ := c.off hf f4 he4 hd4
          have S4 := ((c.re h4 up4).1 f4).suite he4 hd4 c.na nL4 nF4
          refine store_ok (X := X.suite a ((a, oe4) :: (X.pn ++ pins))) (v := .ref a) S4 hN hi (.inl hl) rfl (fun s5 S5 => ?_) (.inr hl)
          refine wpAny_mono ((hsu a oe4 cls d (X.pn ++ pins) hz4 ⟨_, hd4⟩).run [] s5 _ H (offE D i) S5 y) (fun f s6 z => ?_) fun _ _ z => z.elim
          have gone : ∀ {σ6 : L2.St} {H6 : Hp} {Q : Shared → Prop}, Inv (X.suite a ((a, oe4) :: (X.pn ++ pins))) [] σ6 H6 s6 → (∀ s7, Inv X pins (σ6.set i none) H6 s7 → Q s7) →
              wpAny (model X.prog X.w) X.A (do bindName X.env n .none; unbindBehindTheSuite X.env n hp) (fun _ s7 => Q s7) X.xe s6 :=
            fun S6 hq => gone_ok (S6.unsuite ok) hN hi hl hq
          cases f with
          | ret u => obtain ⟨v6, σ6, H6, S6, r6, q6⟩ := z; exact gone S6 fun s7 J7 => ⟨v6, _, H6, J7, r6, q6⟩
          | next => obtain ⟨σ6, H6, S6, q6⟩ := z; exact gone S6 fun s7 J7 => ⟨_, H6, J7, q6⟩
          | brk => obtain ⟨σ6, H6, S6, q6⟩ := z; exact gone S6 fun s7 J7 => ⟨_, H6, J7, q6⟩
          | cont => obtain ⟨σ6, H6, S6, q6⟩ := z; exact gone S6 fun s7 J7 => ⟨_, H6, J7, q6⟩
/-- the rule -/
theorem ps_mix {body : List Stmt} {h₀ : ExceptHandler} {hds : List ExceptHandler} {l : List Cl} {pos : Pos} {tb : WX → TS} {Wo : WX} (hs : X.stack = X.env :: X.outer) (hf : X.env.frame = some X.env.locals) (hN : X.N.Nodup) (tk : Takes X Wo)
    (hb : ∀ W pn xe, Takes (X.tr pn xe) W → PassesOwn (model X.prog X.w) X.A X.env xe → PSs (X.tr pn xe) body (tb W))
    (hc : Clauses X (h₀ :: hds) l) : PS X (.Try body (h₀ :: hds) [] [] pos) (fun D σ H => tb (wMix X.K Wo D l) D σ H) := by
  constructor
  intro pins s σ H D I h
  have ok := I.ok
  refine wpAny_Try_except ?_
  have run := (hb (wMix X.K Wo D l) (X.pn ++ pins) (fun e s₁ => wpAny (model X.prog X.w) X.A (noteFrame e X.env) (fun _ s₂ => wpAny (model X.prog X.w) X.A (setFlight e none)
    (fun _ s₃ => wpAny (model X.prog X.w) X.A (handleBy e X.env (h₀ :: hds)) (SP X pins D) X.xe s₃) X.xe s₂) X.xe s₁)
    (fun u s' x => catches ok hs hf x fun a cls d σ' H' B s e c w => by subst e; exact clause_go ok hN hf tk c hc w) PassesOwn.looking).run [] s σ H D (I.toTry _) h
  refine wpAny_mono run (fun f s1 z => ?_) fun _ _ z => z
  cases f with
  | next => obtain ⟨σ', H', J, q⟩ := z; exact wpAny_execs_nil ⟨σ', H', J.ofTry ok, q⟩
  | ret v => obtain ⟨v', σ', H', J, r, q⟩ := z; exact ⟨v', σ', H', J.ofTry ok, r, q⟩
  | brk => obtain ⟨σ', H', J, q⟩ := z; exact ⟨σ', H', J.ofTry ok, q⟩
  | cont => obtain ⟨σ', H', J, q⟩ := z; exact ⟨σ', H', J.ofTry ok, q⟩
end
end DL

end
section
set_option maxHeartbeats 8000000
/-! # DL: except suites -/
namespace DL
open PySem PySem.Spec PyProof.Rows L2
theorem idxOf_ok {fs : List Str} {f : Str} {j : Nat} (h : idxOf fs f = some j) : fs[j]? = some f := by
  unfold idxOf at h
  simp only at h
  split at h
  · cases h; assumption
  · cases h
theorem zip_look : ∀ {fs : List Str} {ws : List V} {j : Nat} {f : Str} {v : V}, fs.length ≤ 2 → fs.Nodup → ws.length = fs.length → fs[j]? = some f → ws[j]? = some v → (fs.zip ws).reverse.lookup f = some v
  | [], _, _, _, _, _, _, _, h, _ => by simp at h
  | [f1], [y1], j, f, v, _, _, _, h, h2 => by
    cases j with
    | zero => simp at h h2; subst h h2; simp [List.lookup]
    | succ j => simp at h
  | [f1, f2], [y1, y2], j, f, v, _, nd, _, h, h2 => by
    have ne : f1 ≠ f2 := by simpa using nd
    match j with
    | 0 =>
      simp at h h2; subst h h2
      have : (f1 == f2) = false := by simpa using ne
      simp [List.lookup, this]
    | 1 => simp at h h2; subst h h2; simp [List.lookup]
    | j + 2 => simp at h
  | _ :: _ :: _ :: _, _, _, _, _, h, _, _, _, _ => by simp at h
  | [_], [], _, _, _, _, _, h, _, _ => by simp at h
  | [_], _ :: _ :: _, _, _, _, _, _, h, _, _ => by simp at h
  | [_, _], [], _, _, _, _, _, h, _, _ => by simp at h
  | [_, _], [_], _, _, _, _, _, h, _, _ => by simp at h
  | [_, _], _ :: _ :: _ :: _, _, _, _, _, _, h, _, _ => by simp at h
/-- what is held while a suite goes on -/
def sP (P : Pm) (mg : Str → Option Value) (G : Gm) (nm : Option (Str × Nat)) (a : Addr) (cls : Value) (d : Option Addr) (c : Nat) (as : List D) : Pm where
  K := P.K
  W := fun _ _ _ _ => False
  XA := P.XA
  J := fun H ρ => XAof P.K mg G c as H ρ cls d
  jm := fun _ _ _ _ st h => h.mono st
  Js := fun σ => ∀ p, nm = some p → σ[p.2]? = some (some (.ref a))
theorem nx_repr (x : D) (S : Store) : NoEx (biD .repr [x] S) := noex_biD .repr [x] S
section
variable {k : Nat} {F : Nat → List D → Store → R D} {C : List D} {fa : Nat → Addr} {fd : Nat → FuncData} {X : Cx} {Γ : Cxt} {P : Pm}
theorem star_h {Γ : Cxt} {nm : Option (Str × Nat)} {n : Nat} {e : Expr} {h : HEx} (q : trH Γ nm n e = some h) (es : List Expr) (env : Env) : starEach (e :: es) env = (false, eval e env) :: starEach es env := by
  cases n with
  | zero => simp [trH] at q
  | succ n => cases e <;> first | rfl | (simp [trH] at q)
theorem bind_one {m : R D} : (m.bind fun x S1 => (R.ok ([] : List D) S1).bind fun xs S2 => .ok (x :: xs) S2).bind (biD .repr) = m.bind fun x S1 => biD .repr [x] S1 := by
  cases m <;> rfl
theorem hsnd (g : Good X Γ P k F C fa fd) {a : Addr} {oe : Obj} {cls : Value} {d : Option Addr} {pn : List (Addr × Obj)} (hz : Zc cls d oe) (hf : ∃ vs, oe.data = .fields vs) {nm : Option (Str × Nat)}
    (hnm : ∀ p, nm = some p → X.N[p.2]? = some p.1 ∧ Vis X.env.scope p.1 ∧ okName p.1 = true) (c : Nat) (as : List D) : ∀ n,
    (∀ e h, trH Γ nm n e = some h → PE (X.suite a ((a, oe) :: pn)) e (rdE (sP P X.mg Γ.G nm a cls d c as) (hev c as h))) ∧
    (∀ es hs, trHs Γ nm n es = some hs → PA (X.suite a ((a, oe) :: pn)) es (rdA (sP P X.mg Γ.G nm a cls d c as) (hevs c as hs)))
  | 0 => ⟨fun e h q => by simp [trH] at q, fun es hs q => by simp [trHs] at q⟩
  | n + 1 => by
    obtain ⟨ih, ihs⟩ := hsnd g hz hf hnm c as n
    refine ⟨fun e h q => ?_, fun es hs q => ?_⟩
    · simp only [trH] at q
      split at q
      · cases q; exact d_int
      · cases q; exact d_bl
      · cases q; exact d_non
      · cases q; exact d_str
      · split at q
        · rename_i hc
          rw [Bool.and_eq_true] at hc
          split at q
          · rename_i i hi
            split at q
            · cases q
            · cases q
              obtain ⟨n1, n2⟩ := okName_ok hc.1
              exact d_var (X := X.suite a ((a, oe) :: pn)) (by show X.N[i]? = _; rw [g.N]; exact ixOf_ok hi) (g.vis hc.2) n1 n2
          · cases q
        · cases q
      · rename_i y py f pos
        split at q
        · rename_i hy
          split at q
          · rename_i j cs hfl
            cases q
            obtain ⟨p, rfl⟩ : ∃ p, nm = some p := by
              cases nm with
              | none => simp [nameIs] at hy
              | some p => exact ⟨p, rfl⟩
            have hy : p.1 = y := by simpa [nameIs] using hy
            subst hy
            obtain ⟨x1, x2, x3⟩ := hnm p rfl
            obtain ⟨n1, n2⟩ := okName_ok x3
            constructor
            intro pins s σ H Q I hh
            obtain ⟨ρ, env, S, r, hp⟩ := hh
            obtain ⟨x, fs, Ca, dx, ws, e1, e2, rfl, rfl, e5, e6, e7⟩ := id r.j
            simp only [hev] at hp
            split at hp
            · rename_i hcs
              have hfs : fs[j]? = some f := by
                unfold Gm.fld at hfl
                split at hfl
                · cases hfl
                  have := (List.mem_filter.mp (List.contains_iff_mem.mp hcs)).2
                  rw [e1] at this
                  exact of_decide_eq_true this
                · cases hfl
              obtain ⟨Cb, ex⟩ := g.exc c x fs e1
              have : Cb = Ca := by
                have := ex.glob.symm.trans e2
                cases this; rfl
              subst this
              have hne : fs ≠ [] := by rintro rfl; simp at hfs
              obtain ⟨_, T, hl, hno, _⟩ := ex.make hne
              have hnof := hno f (List.mem_of_getElem? hfs)
              split at hp
              · rename_i dv hdv
                obtain ⟨v, ev, av⟩ := AtL.get e6 hdv
                refine (pe_xf T hnof hz hf (pe_var (X := X.suite a ((a, oe) :: pn)) x1 x2 n1 n2)).run pins s σ H Q I ?_
                exact ⟨.ref a, r.js p rfl, rfl, rfl, dx, _, v, rfl, e5, zip_look hl.2.1 hl.2.2 e7 hfs ev, Post.done (rel := relV _) hp r.rep av⟩
              · exact False.elim hp
            · exact False.elim hp
          · cases q
        · cases q
      · obtain ⟨xs, e1, rfl⟩ := omap q
        exact d_tup (ihs _ _ e1)
      · obtain ⟨xs, e1, rfl⟩ := omap q
        exact d_lst (ihs _ _ e1)
      · split at q
        · rename_i x px b pos hc
          obtain ⟨y, e1, rfl⟩ := omap q
          rw [Bool.and_eq_true, decide_eq_true_eq] at hc
          obtain ⟨rfl, hfr⟩ := hc
          obtain ⟨f1, f2⟩ := g.fr hfr
          have s1 := star_h e1 [] X.env
          have pa : PA (X.suite a ((a, oe) :: pn)) [b] (rdA (sP P X.mg Γ.G nm a cls d c as) fun env S => (hev c as y env S).bind fun x S1 => (R.ok ([] : List D) S1).bind fun xs S2 => .ok (x :: xs) S2) := d_cons (ih _ _ e1) d_nil s1
          have hb : CallR (X.suite a ((a, oe) :: pn)) (.builtin "repr") (rC (sP P X.mg Γ.G nm a cls d c as) (biD .repr)) := bi_repr (X := X.suite a ((a, oe) :: pn)) g.hK g.gd (by have := g.rm.un; show X.A.units + 100 < cLine; omega)
          refine PE.imp (pe_callB (X := X.suite a ((a, oe) :: pn)) hb f1 f2 rfl pa (by decide) (by decide) s1 rfl) fun σ H Q hh => tCB_imp (noex_biD .repr) ?_
          obtain ⟨ρ, env, S, r, hp⟩ := hh
          refine ⟨ρ, env, S, r, ?_⟩
          dsimp only
          rw [bind_one]
          exact hp
        · cases q
      · split at q
        · rename_i h1 h2
          split at q
          · cases q
          · rename_i hm
            cases q
            exact d_cmp (P := sP P X.mg Γ.G nm a cls d c as) (X := X.suite a ((a, oe) :: pn)) g.hK (by have := g.rm.un; show X.A.units + 65 < cLine; omega) .eq (ih _ _ h1) (ih _ _ h2) (bf hm)
        · cases q
      · cases q
    · cases es with
      | nil => simp only [trHs] at q; cases q; exact d_nil
      | cons e es =>
        simp only [trHs] at q
        split at q
        · rename_i h1 h2
          cases q
          exact d_cons (ih _ _ h1) (ihs _ _ h2) (star_h h1 es X.env)
        · cases q
theorem suite_ok (g : Good X Γ P k F C fa fd) {nm : Option (Str × Nat)} (hnm : ∀ p, nm = some p → X.N[p.2]? = some p.1 ∧ Vis X.env.scope p.1 ∧ okName p.1 = true) {n : Nat} {e : Expr} {h : HEx} {pos : Pos} (q : trH Γ nm n e = some h) :
    SuiteOk X [.Return (some e) pos] (fun a cls d D σ H => σ.length = X.N.length → ∃ c as, rdS (sP P X.mg Γ.G nm a cls d c as) (fun env S => hret (hev c as h env S)) D σ H) := by
  intro a oe cls d pn hz hf
  have one : ∀ c as, PSs (X.suite a ((a, oe) :: pn)) [.Return (some e) pos] (rdS (sP P X.mg Γ.G nm a cls d c as) fun env S => hret (hev c as h env S)) := fun c as => by
    refine PSs.imp (pss_cons (s_ret ((hsnd g hz hf hnm c as n).1 e h q)) pss_nil) fun D σ H ⟨ρ, env, S, r, hh⟩ => ?_
    refine ⟨ρ, env, S, r, ?_⟩
    dsimp only at hh ⊢
    cases ev : hev c as h env S with
    | ok dv S1 => rw [ev] at hh; exact hh
    | ex cc aa S1 => rw [ev] at hh; exact False.elim hh
    | bad => rw [ev] at hh; exact False.elim hh
  refine ⟨fun pins s σ H D I h0 => ?_⟩
  obtain ⟨c, as, hh⟩ := h0 I.len
  exact (one c as).run pins s σ H D I hh
/-- what the clauses are -/
def HdIs (X : Cx) (G : Gm) (P : Pm) (h : Hd) (l : Cl) : Prop := ∃ i y gs Da nm, G.exc[i]? = some (y, gs) ∧ X.mg y = some (.ref Da) ∧ l.1 = .ref Da ∧ h.cs = G.takes i ∧ h.slot = nm.map (·.2) ∧ l.2.1 = nm.map (·.2) ∧
  l.2.2 = (fun a cls d D σ H => σ.length = X.N.length → ∃ c as, rdS (sP P X.mg G nm a cls d c as) (fun env S => hret (hev c as h.e env S)) D σ H) ∧ (∀ p, nm = some p → p.2 < X.N.length)
theorem mem_takes {G : Gm} {i c : Nat} {x : Str × List Str} (h : G.exc[c]? = some x) : (G.takes i).contains c = G.cat i c := by
  have hc : c < G.exc.length := (List.getElem?_eq_some_iff.mp h).1
  unfold Gm.takes
  rw [Bool.eq_iff_iff, List.contains_iff_mem, List.mem_filter, List.mem_range]
  exact ⟨fun h => h.2, fun h => ⟨hc, h⟩⟩
theorem hret_only {P P' : Pm} (hK : P'.K = P.K) {r : R D} {H : Hp} {ρ : List Addr} {D D' : Ends} (h : PostS P H ρ (hret r) D) (hr : D'.rt = D.rt) : PostS P' H ρ (hret r) D' := by
  cases r with
  | ok d S => intro ρ' v H' s q a; rw [hr]; exact h ρ' v H' s (hK ▸ q) (hK ▸ a)
  | ex c as S => exact h
  | bad => exact h
theorem EnvR.off {K : Frag} {H : Hp} {ρ : List Addr} {env : En} {σ : L2.St} {i : Nat} {o : Option V} (h : EnvR K H ρ env σ) : EnvR K H ρ (env.set i none) (σ.set i o) := by
  refine ⟨by simp [h.1], fun j d e => ?_⟩
  by_cases hj : i = j
  · subst hj
    by_cases hl : i < env.length
    · rw [List.getElem?_set_self hl] at e; cases e
    · rw [List.getElem?_eq_none (by simpa using hl)] at e; cases e
  · rw [List.getElem?_set_ne hj] at e ⊢
    exact h.2 j d e
inductive HdsIs (X : Cx) (G : Gm) (P : Pm) : List Hd → List Cl → Prop
  | nil : HdsIs X G P [] []
  | cons {h : Hd} {l : Cl} {hs : List Hd} {ls : List Cl} (a : HdIs X G P h l) (r : HdsIs X G P hs ls) : HdsIs X G P (h :: hs) (l :: ls)
theorem handle_ok (g : Good X Γ P k F C fa fd) {E : Ends} {c : Nat} {as : List D} {H : Hp} {ρ : List Addr} {env : En} {S : Store} {hs : List Hd} {l : List Cl} (hi : HdsIs X Γ.G P hs l) :
    PostS P H ρ (handle c as hs env S) E → ∀ ρ' σ' cls d H', Step H ρ H' ρ' → Rep P.K H' ρ' S → EnvR P.K H' ρ' env σ' → P.XA c as H' ρ' cls d → wMix X.K P.W E l cls d σ' H' := by
  induction hi with
  | nil => exact fun h => h
  | @cons h l hs ls a r ih =>
    intro hp ρ' σ' cls d H' st q ev x
    obtain ⟨cv, o, ts⟩ := l
    obtain ⟨i, y, gs, Da, nm, e1, e2, e3, e4, e5, e6, e7, e8⟩ := a
    dsimp only at e3 e6 e7
    subst e3 e6 e7
    have x' := x
    rw [g.xa] at x
    obtain ⟨x0, fs, Ca, dx, ws, f1, f2, rfl, rfl, f5, f6, f7⟩ := id x
    have ct : h.cs.contains c = Γ.G.cat i c := by rw [e4]; exact mem_takes f1
    refine ⟨Γ.G.cat i c, g.cat c i x0 y fs gs Ca Da f1 e1 f2 e2, fun hb b nb => ?_, fun hb => ?_⟩
    · unfold handle at hp
      rw [if_pos (by rw [ct]; exact hb)] at hp
      have hp := PostS.step st hp
      cases nm with
      | none =>
        show (_ → _)
        intro hl
        have henv : h.env env = env := by unfold Hd.env; rw [e5]; rfl
        rw [henv] at hp
        exact ⟨c, as, ρ', env, S, ⟨q, ev, x, fun p hp => by cases hp⟩, hret_only (P := P) (P' := sP P X.mg Γ.G _ b _ _ c as) rfl hp rfl⟩
      | some p =>
        show (_ → _)
        intro hl
        have henv : h.env env = env.set p.2 none := by unfold Hd.env; rw [e5]; rfl
        rw [henv] at hp
        refine ⟨c, as, ρ', env.set p.2 none, S, ⟨q, ev.off, x, fun p' hp => ?_⟩, hret_only (P := P) (P' := sP P X.mg Γ.G _ b _ _ c as) rfl hp rfl⟩
        cases hp
        rw [List.length_set] at hl
        exact List.getElem?_set_self (by rw [hl]; exact e8 _ rfl)
    · unfold handle at hp
      rw [if_neg (by rw [ct, hb]; exact Bool.false_ne_true)] at hp
      exact ih hp ρ' σ' _ _ H' st q ev x'
theorem cls_ok {G : Gm} {x : Str} {i : Nat} (h : G.cls x = some i) : ∃ gs, G.exc[i]? = some (x, gs) := by
  have := idxOf_ok h
  rw [List.getElem?_map] at this
  cases e : G.exc[i]? with
  | none => rw [e] at this; cases this
  | some p =>
    rw [e] at this
    obtain ⟨a, b⟩ := p
    cases this
    exact ⟨b, rfl⟩
theorem hds_ok (g : Good X Γ P k F C fa fd) : ∀ {hs : List ExceptHandler} {l : List Hd}, trHds Γ hs = some l → ∃ cl, Clauses X hs cl ∧ HdsIs X Γ.G P l cl
  | [], l, h => by simp only [trHds] at h; cases h; exact ⟨[], .nil, .nil⟩
  | eh :: r, l, h => by
    simp only [trHds] at h
    split at h
    · rename_i hd l' h1 h2
      cases h
      obtain ⟨cl, c1, c2⟩ := hds_ok g h2
      unfold trHd at h1
      split at h1
      · rename_i x px nm e p1 p2
        split at h1
        · rename_i hc
          rw [Bool.and_eq_true] at hc
          split at h1
          · rename_i i nm' hi hn
            split at h1
            · rename_i he hq
              cases h1
              obtain ⟨gs, e1⟩ := cls_ok hi
              obtain ⟨Da, ex⟩ := g.exc i x gs e1
              have hN : NameAt X nm (nm'.map (·.2)) ∧ ∀ p, nm' = some p → X.N[p.2]? = some p.1 ∧ Vis X.env.scope p.1 ∧ okName p.1 = true := by
                unfold nmOf at hn
                split at hn
                · cases hn; exact ⟨trivial, fun p hp => by cases hp⟩
                · rename_i y
                  split at hn
                  · rename_i hl
                    rw [Bool.and_eq_true] at hl
                    split at hn
                    · rename_i j hj
                      cases hn
                      have hl1 := locL_ok g.sc hl.1
                      have hj' : X.N[j]? = some y := by rw [g.N]; exact ixOf_ok hj
                      exact ⟨⟨hj', hl1⟩, fun p hp => by cases hp; exact ⟨hj', .inl hl1, hl.2⟩⟩
                    · cases hn
                  · cases hn
              refine ⟨(.ref Da, nm'.map (·.2), _) :: cl, .cons ⟨g.gl hc.2, (okName_ok hc.1).1, .inl ex.glob⟩ hN.1 (suite_ok g hN.2 hq) c1, .cons ?_ c2⟩
              exact ⟨i, x, gs, Da, nm', e1, ex.glob, rfl, rfl, rfl, rfl, rfl, fun p hp => (List.getElem?_eq_some_iff.mp (hN.2 p hp).1).1⟩
            · cases h1
          · cases h1
        · cases h1
      · cases h1
    · cases h
/-- the wish is another one -/
def Pm.wish (P : Pm) (W : WX) : Pm := { P with W := W }
theorem Good.tr (g : Good X Γ P k F C fa fd) {W : WX} {pn : List (Addr × Obj)} {xe : Value → Shared → Prop} (tk : Takes (X.tr pn xe) W) : Good (X.tr pn xe) Γ (P.wish W) k F C fa fd where
  hK := g.hK
  N := g.N
  nd := g.nd
  sc := g.sc
  kind := g.kind
  fnO := g.fnO
  calm := g.calm
  js := g.js
  k2 := g.k2
  xa := g.xa
  exc := g.exc
  cat := g.cat
  tk := tk
  rm := g.rm
  gd := g.gd
  free := g.free
  gcd := g.gcd
  mth := g.mth
  con := g.con
  fns := g.fns
  kws := g.kws
theorem s_try (g : Good X Γ P k F C fa fd) (hs : X.stack = X.env :: X.outer) (hf : X.env.frame = some X.env.locals) {m : En → Store → RS} {body : List Stmt} {h0 : ExceptHandler} {hds : List ExceptHandler} {l : List Hd} {pos : Pos}
    (hb : ∀ W pn xe, Takes (X.tr pn xe) W → PassesOwn (model X.prog X.w) X.A X.env xe → PSs (X.tr pn xe) body (rdS (P.wish W) m)) (hq : trHds Γ (h0 :: hds) = some l) :
    PS X (.Try body (h0 :: hds) [] [] pos) (rdS P fun env S => (m env S).catch fun c as env' S' => handle c as l env' S') := by
  obtain ⟨cl, c1, c2⟩ := hds_ok g hq
  refine PS.imp (ps_mix hs hf g.nd g.tk hb c1) fun E σ H ⟨ρ, env, S, r, hh⟩ => ?_
  refine ⟨ρ, env, S, ⟨r.rep, r.env, r.j, r.js⟩, ?_⟩
  dsimp only at hh
  cases e : m env S with
  | nx env' S' => rw [e] at hh; exact hh
  | bk env' S' => rw [e] at hh; exact hh
  | ct env' S' => rw [e] at hh; exact hh
  | rt d S' => rw [e] at hh; exact hh
  | bad => rw [e] at hh; exact hh
  | ex c as env' S' =>
    rw [e] at hh
    intro ρ' σ' cls dd H' st q ev x
    exact handle_ok g c2 hh ρ' σ' cls dd H' st q ev x
end
end DL

end
section
set_option maxHeartbeats 1000000
/-! # DL: the translation of statements is sound, the induction -/
namespace DL
open PySem PySem.Spec PyProof.Rows L2
section
variable {k : Nat} {F : Nat → List D → Store → R D} {C : List D} {fa : Nat → Addr} {fd : Nat → FuncData}
/-- the frame is the first one -/
def Fr (X : Cx) : Prop := X.stack = X.env :: X.outer ∧ X.env.frame = some X.env.locals
/-- what a def's statements need besides -/
theorem trS_ok (N : Nat) : ∀ (n : Nat), (∀ (s : Stmt) (st : St) (X : Cx) (Γ : Cxt) (P : Pm), Good X Γ P k F C fa fd → Fr X → PassesOwn (model X.prog X.w) X.A X.env X.xe → trS n Γ s = some st → PS X s (rdS P (exec F C N st))) ∧
    (∀ (s : List Stmt) (st : List St) (X : Cx) (Γ : Cxt) (P : Pm), Good X Γ P k F C fa fd → Fr X → PassesOwn (model X.prog X.w) X.A X.env X.xe → trSs n Γ s = some st → PSs X s (rdS P (execs F C N st)))
  | 0 => ⟨fun s st X Γ P g hr hp h => by simp [trS] at h, fun s st X Γ P g hr hp h => by simp [trSs] at h⟩
  | n + 1 => by
    obtain ⟨ih1, ih2⟩ := trS_ok N n
    have ie := snd (k := k) (F := F) (C := C) (fa := fa) (fd := fd) n
    refine ⟨fun s st X Γ P g hr hp h => ?_, fun s st X Γ P g hr hp h => ?_⟩
    · simp only [trS] at h
      split at h
      · exact trA_ok g N h
      · split at h
        · rename_i hl
          obtain ⟨l1, l2⟩ := g.loc hl
          split at h
          · rename_i h1 h2
            cases h
            exact s_aug_add g.nd (g.ix h1) l1 (ie.e X Γ P _ _ g h2).1 l2
          · cases h
        · cases h
      · split at h
        · rename_i hl
          obtain ⟨l1, l2⟩ := g.loc hl
          split at h
          · rename_i h1 h2
            cases h
            exact s_aug_sub g.nd (g.ix h1) l1 (ie.e X Γ P _ _ g h2).1 l2
          · cases h
        · cases h
      · split at h
        · cases h
        · rename_i hc
          obtain ⟨y, e1, rfl⟩ := omap h
          exact s_expr (ie.e X Γ P _ _ g e1).1 (swW (bf hc) _ _ _)
      · obtain ⟨y, e1, rfl⟩ := omap h
        exact s_ret (ie.e X Γ P _ _ g e1).1
      · cases h; exact s_retN
      · split at h
        · rename_i h1 h2 h3
          cases h
          exact s_ite (ie.e X Γ P _ _ g h1).2 (ih2 _ _ X Γ P g hr hp h2) (ih2 _ _ X Γ P g hr hp h3)
        · cases h
      · split at h
        · rename_i h1 h2 h3
          cases h
          obtain ⟨i1, i2⟩ := ie.i X Γ P _ _ _ g h2
          obtain ⟨t1, t2⟩ := trT_ok 9 _ _ X Γ P g h1
          exact s_for g.js g.hK hp g.calm i1 t1 t2 (ih2 _ _ X Γ P g hr hp h3) i2
        · cases h
      · split at h
        · rename_i h1 h2
          cases h
          exact s_while g.js N hp (ie.e X Γ P _ _ g h1).2 (ih2 _ _ X Γ P g hr hp h2)
        · cases h
      · cases h; exact s_pass
      · cases h; exact s_brk
      · cases h; exact s_cont
      · have bad : ∀ s, PS X s (rdS P (exec F C N .no)) := fun s => ⟨fun pins _ σ H D I ⟨ρ, env, S, r, hh⟩ => False.elim hh⟩
        split at h
        · rename_i hc
          rw [Bool.and_eq_true] at hc
          split at h
          · rename_i h1 h2
            split at h
            · rename_i p hp0
              split at h
              · rename_i hl
                rw [Bool.and_eq_true, beq_iff_eq] at hl
                cases h
                obtain ⟨gs, e1⟩ := cls_ok h1
                rw [e1] at hp0
                cases hp0
                exact s_raise g e1 (by intro z; rw [z] at hl; exact absurd hl.1 (by simp)) hc.1 hc.2 h2 hl.2
              · cases h; exact bad _
            · cases h; exact bad _
          · cases h; exact bad _
        · cases h; exact bad _
      · split at h
        · rename_i h1 h2
          cases h
          exact s_try g hr.1 hr.2 (fun W pn xe tk hp' => ih2 _ _ (X.tr pn xe) Γ (P.wish W) (g.tr tk) hr hp' h1) h2
        · cases h; exact ⟨fun pins s σ H D I ⟨ρ, env, S, r, hh⟩ => False.elim hh⟩
      · cases h; exact ⟨fun pins s σ H D I ⟨ρ, env, S, r, hh⟩ => False.elim hh⟩
    · cases s with
      | nil => simp only [trSs] at h; cases h; exact s_nil
      | cons s r =>
        simp only [trSs] at h
        split at h
        · rename_i h1 h2
          cases h
          exact s_cons g.js (ih1 _ _ X Γ P g hr hp h1) (ih2 _ _ X Γ P g hr hp h2)
        · rename_i h1 h2
          cases h
          exact s_cons g.js ⟨fun pins s σ H D I ⟨ρ, env, S, r, hh⟩ => False.elim hh⟩ (ih2 _ _ X Γ P g hr hp h2)
        · cases h
end
end DL

end
section
set_option maxHeartbeats 1000000
/-! # DL: what a call leaves behind -/
namespace DL
open PySem PySem.Spec PyProof.Rows L2
mutual
theorem At.closed {K : Frag} {H : Hp} {ρ : List Addr} : ∀ {d : D} {v : V}, At K H ρ d v → d.closed ρ.length = true
  | .non, v, h => rfl
  | .bl _, v, h => rfl
  | .int _, v, h => rfl
  | .str _, v, h => rfl
  | .tup l, v, h => by
    obtain ⟨a, xs, rfl, _, q⟩ := h.tup_inv
    exact AtL.closed q
  | .fz l, v, h => by
    obtain ⟨a, xs, rfl, _, q⟩ := h.fz_inv
    exact AtL.closed q
  | .ref n, v, h => by
    obtain ⟨a, rfl, e⟩ := h.ref_inv
    exact decide_eq_true (List.getElem?_eq_some_iff.mp e).1
  | .dct, v, h => rfl
theorem AtL.closed {K : Frag} {H : Hp} {ρ : List Addr} : ∀ {l : List D} {xs : List V}, AtL K H ρ l xs → D.closeds ρ.length l = true
  | [], _, h => rfl
  | d :: l, xs, h => by
    obtain ⟨v, r, rfl, av, ar⟩ := h.inv
    show (d.closed ρ.length && D.closeds ρ.length l) = true
    rw [At.closed av, AtL.closed ar]; rfl
end
mutual
theorem At.cutR {K : Frag} {H : Hp} {ρ ρ' : List Addr} (n : Nat) (hn : ∀ k, k < n → ρ[k]? = ρ'[k]?) : ∀ {d : D} {v : V}, d.closed n = true → At K H ρ' d v → At K H ρ d v
  | .non, v, _, h => by cases h.non_inv; exact .mk_non
  | .bl _, v, _, h => by cases h.bl_inv; exact .mk_bl
  | .int _, v, _, h => by cases h.int_inv; exact .mk_int
  | .str _, v, _, h => by cases h.str_inv; exact .mk_str
  | .tup l, v, c, h => by
    obtain ⟨a, xs, rfl, s, q⟩ := h.tup_inv
    exact .mk_tup s (AtL.cutR n hn c q)
  | .fz l, v, c, h => by
    obtain ⟨a, xs, rfl, s, q⟩ := h.fz_inv
    simp only [At]
    exact ⟨a, xs, rfl, s, AtL.cutR n hn c q⟩
  | .ref m, v, c, h => by
    obtain ⟨a, rfl, e⟩ := h.ref_inv
    have hm : m < n := of_decide_eq_true c
    exact .mk_ref (by rw [hn m hm]; exact e)
  | .dct, v, c, h => by
    obtain ⟨a, rfl, e⟩ := h.dct_inv
    exact .mk_dct e
theorem AtL.cutR {K : Frag} {H : Hp} {ρ ρ' : List Addr} (n : Nat) (hn : ∀ k, k < n → ρ[k]? = ρ'[k]?) : ∀ {l : List D} {xs : List V}, D.closeds n l = true → AtL K H ρ' l xs → AtL K H ρ l xs
  | [], xs, _, h => by cases AtL_nil_of h; exact .nil
  | d :: l, xs, c, h => by
    obtain ⟨v, r, rfl, av, ar⟩ := h.inv
    have c : (d.closed n && D.closeds n l) = true := c
    rw [Bool.and_eq_true] at c
    exact .cons (At.cutR n hn c.1 av) (AtL.cutR n hn c.2 ar)
end
theorem pre_take {ρ ρ' : List Addr} (h : ρ <+: ρ') (k : Nat) (hk : k < ρ.length) : ρ[k]? = ρ'[k]? := by
  obtain ⟨t, rfl⟩ := h
  rw [List.getElem?_append_left hk]
theorem clean_get {K : Frag} {H : Hp} {ρ : List Addr} {S S' : Store} (r : Rep K H ρ S) (h : cleanS S S' = true) (hl : S.length ≤ S'.length) {n : Nat} {l : List D} (e : S'[n]? = some l) (hn : n < S.length) : D.closeds ρ.length l = true := by
  unfold cleanS at h
  rw [Bool.or_eq_true] at h
  rw [r.len]
  have e2 : (S'.take S.length)[n]? = some l := by rw [List.getElem?_take, if_pos hn]; exact e
  rcases h with h | h
  · rw [sbeq_eq h] at e2
    obtain ⟨a, xs, e1, h1, q⟩ := r.get e2
    rw [← r.len]; exact q.closed
  · exact List.all_eq_true.mp h l (List.mem_of_getElem? e2)
theorem Rep.cut {K : Frag} {H H' : Hp} {ρ ρ' : List Addr} {S S' : Store} (r : Rep K H ρ S) (r' : Rep K H' ρ' S') (hp : ρ <+: ρ') (hl : S.length ≤ S'.length) (h : cleanS S S' = true) : Rep K H' ρ (S'.take S.length) := by
  refine ⟨r.nd, by rw [r.len, List.length_take]; omega, fun n a l e1 e2 => ?_⟩
  have hn : n < ρ.length := (List.getElem?_eq_some_iff.mp e1).1
  have hn2 : n < S.length := by rw [← r.len]; exact hn
  have e2 : S'[n]? = some l := by rw [List.getElem?_take, if_pos hn2] at e2; exact e2
  obtain ⟨xs, h1, q⟩ := r'.at_ n a l (pre_get hp e1) e2
  exact ⟨xs, h1, AtL.cutR ρ.length (fun k hk => pre_take hp k hk) (clean_get r h hl e2 hn2) q⟩
theorem leave_ok {K : Frag} {H H' : Hp} {ρ ρ' : List Addr} {S S' : Store} {d : D} {v : V} (r : Rep K H ρ S) (st : Step H ρ H' ρ') (r' : Rep K H' ρ' S') (a : At K H' ρ' d v) :
    ∃ d2 S2 ρ2, leave S d S' = .ok d2 S2 ∧ Step H ρ H' ρ2 ∧ Rep K H' ρ2 S2 ∧ At K H' ρ2 d2 v := by
  have st0 : Step H ρ H' ρ := ⟨st.ext, List.prefix_refl ρ⟩
  unfold leave
  split
  · exact ⟨_, _, _, rfl, st, r', a⟩
  · rename_i hne
    split
    · rename_i hc
      simp only [Bool.and_eq_true, decide_eq_true_eq] at hc
      obtain ⟨c1, c2, c3⟩ := hc
      exact ⟨_, _, ρ, rfl, st0, r.cut r' st.pre c1 c3, At.cutR ρ.length (fun k hk => pre_take st.pre k hk) (by rw [r.len]; exact c2) a⟩
    · split
      · rename_i m _
        split
        · rename_i hm
          split
          · rename_i l el
            split
            · rename_i hc
              simp only [Bool.and_eq_true, decide_eq_true_eq] at hc
              obtain ⟨c1, c2, c3⟩ := hc
              obtain ⟨b, rfl, eb⟩ := a.ref_inv
              obtain ⟨xs, h1, q⟩ := r'.at_ m b l eb el
              have hnot : b ∉ ρ := fun hb => by
                obtain ⟨j, hj, ej⟩ := List.mem_iff_getElem.mp hb
                have e2 : ρ'[j]? = some b := pre_get st.pre (by rw [List.getElem?_eq_getElem hj, ej])
                have hj' : j < ρ'.length := (List.getElem?_eq_some_iff.mp e2).1
                have := (List.getElem?_inj hj' r'.nd).mp (e2.trans eb.symm)
                have := r.len
                omega
              have hp2 : ρ <+: ρ ++ [b] := List.prefix_append ρ [b]
              have rc := r.cut r' st.pre c1 c3
              have hlen : (S'.take S.length).length = ρ.length := by rw [← rc.len]
              refine ⟨_, _, ρ ++ [b], rfl, ⟨st.ext, hp2⟩, ⟨?_, ?_, fun n c k e1 e2 => ?_⟩, .mk_ref (by rw [← r.len]; simp)⟩
              · rw [List.nodup_append]
                refine ⟨r.nd, by simp, fun x hx y hy => ?_⟩
                have : y = b := by simpa using hy
                subst this
                exact fun e => hnot (e ▸ hx)
              · rw [List.length_append, List.length_append, hlen]; rfl
              · by_cases hn : n < ρ.length
                · rw [List.getElem?_append_left hn] at e1
                  rw [List.getElem?_append_left (by rw [hlen]; exact hn)] at e2
                  obtain ⟨ys, g1, g2⟩ := rc.at_ n c k e1 e2
                  exact ⟨ys, g1, AtL.cutR ρ.length (fun j hj => (pre_take hp2 j hj).symm) g2.closed g2⟩
                · have hn2 : n = ρ.length := by
                    have := (List.getElem?_eq_some_iff.mp e1).1
                    rw [List.length_append] at this
                    simp at this
                    omega
                  subst hn2
                  have e1 : c = b := by simpa using e1.symm
                  have e2 : k = l := by
                    rw [← hlen, List.getElem?_append_right (Nat.le_refl _)] at e2
                    simpa using e2.symm
                  subst e1 e2
                  refine ⟨xs, h1, ?_⟩
                  exact AtL.cutR ρ.length (fun j hj => ((pre_take hp2 j hj).symm.trans (pre_take st.pre j hj))) (by rw [r.len]; exact c2) q
            · exact ⟨_, _, _, rfl, st, r', a⟩
          · exact ⟨_, _, _, rfl, st, r', a⟩
        · exact ⟨_, _, _, rfl, st, r', a⟩
      · exact ⟨_, _, _, rfl, st, r', a⟩
end DL

end
section
set_option maxHeartbeats 1000000
/-! # DL: a text's defs, all at once -/
namespace DL
open PySem PySem.Spec PyProof.Rows L2
structure Dn where
  x : Str
  ps : List Str
  N : List Str
  st : Stmt
  body : List St
def Dn.fn (d : Dn) : Fn := ⟨d.ps.length, d.N.length, d.body⟩
def Dn.cxt (G : Gm) (d : Dn) : Cxt := ⟨G, d.N, defScope d.st, fun _ => true⟩
structure Tab (K : PySem.W.Frag) (mg : Str → Option Value) (G : Gm) (C : List D) (T : List Dn) (fa : Nat → Addr) (fd : Nat → FuncData) : Prop where
  names : G.fns = T.map fun d => (d.x, d.ps)
  fun_ : ∀ (i : Nat) d, T[i]? = some d → FunD K d.x d.x (defArgs d.st) (defBody d.st) (defScope d.st) [] [] (fa i) (fd i)
  tr : ∀ d ∈ T, trSs 60 (d.cxt G) (defBody d.st) = some d.body
  sc : ∀ d ∈ T, FnScope d.N d.ps (defScope d.st)
  glob : ∀ (i : Nat) d, T[i]? = some d → mg d.x = some (.ref (fa i))
  binds : ∀ (i : Nat) d, T[i]? = some d → Binds K (fd i) d.ps []
  kws : ∀ q ∈ G.kws, ∀ d, T[q.f]? = some d → ∀ (s : Shared) (us ws : List Value), K.In s.heap → us.length = q.n → ws.length = q.ks.length → BindsTo s (fd q.f) ⟨us, q.ks.zip ws⟩ (d.ps.zip (permL q.perm (us ++ ws)))
  free : ∀ x ∈ G.free, mg x = none
  gcd : G.gcd = true → mg "gcd" = some (.builtin "math.gcd")
  mth : ∀ q ∈ G.mth, mg q.1 = some (.builtin q.2)
  exc : ∀ (c : Nat) x fs, G.exc[c]? = some (x, fs) → ∃ Ca, ExOk K mg x fs Ca
  cat : ∀ (c i : Nat) x y fs gs Ca Da, G.exc[c]? = some (x, fs) → G.exc[i]? = some (y, gs) → mg x = some (.ref Ca) → mg y = some (.ref Da) → PySem.W.exmOne K (.ref Ca) (.ref Da) = some (G.cat i c)
  con : ∀ (c : Nat) x, G.consts[c]? = some x → ∃ d u v, C[c]? = some d ∧ mg x = some u ∧ RelV v u ∧ ∀ H ρ, At K H ρ d v
section
variable {P : Program} {w : World} {K : PySem.W.Frag} {mg : Str → Option Value} {base : Heap} {G : Gm} {C : List D} {T : List Dn} {fa : Nat → Addr} {fd : Nat → FuncData}
theorem run_arity (N : Nat) : ∀ (k i : Nat) (d : Dn), T[i]? = some d → Arity d.ps.length (run (T.map Dn.fn) C N k i)
  | 0, i, d, e, ds, S, h => rfl
  | k + 1, i, d, e, ds, S, h => by
    show (match (T.map Dn.fn)[i]? with
      | some fn => if ds.length = fn.np then endR S (execs (run (T.map Dn.fn) C N k) C N fn.body (startD fn.nn ds) S) else .bad
      | none => .bad) = .bad
    rw [List.getElem?_map, e]
    exact if_neg h
theorem run_eq (N k i : Nat) (d : Dn) (e : T[i]? = some d) {ds : List D} (S : Store) (h : ds.length = d.ps.length) : run (T.map Dn.fn) C N (k + 1) i ds S = endR S (execs (run (T.map Dn.fn) C N k) C N d.body (startD d.N.length ds) S) := by
  show (match (T.map Dn.fn)[i]? with
      | some fn => if ds.length = fn.np then endR S (execs (run (T.map Dn.fn) C N k) C N fn.body (startD fn.nn ds) S) else .bad
      | none => .bad) = _
  rw [List.getElem?_map, e]
  exact if_pos h
theorem env_start {H : Hp} {ρ : List Addr} {N : List Str} {ds : List D} {vs : List V} (a : AtL K H ρ ds vs) : EnvR K H ρ (startD N.length ds) (L2.start N vs) := by
  have hl := a.length
  refine ⟨by simp [L2.start, startD, hl], fun i d e => ?_⟩
  unfold startD at e
  unfold L2.start
  by_cases hi : i < ds.length
  · rw [List.getElem?_append_left (by simpa using hi)] at e
    rw [List.getElem?_map] at e
    cases e2 : ds[i]? with
    | none => rw [e2] at e; cases e
    | some d' =>
      rw [e2] at e
      cases e
      obtain ⟨v, ev, av⟩ := a.get e2
      refine ⟨v, ?_, av⟩
      rw [List.getElem?_append_left (by simp; omega), List.getElem?_map, ev]; rfl
  · rw [List.getElem?_append_right (by simp; omega)] at e
    rw [List.getElem?_replicate] at e
    split at e <;> cases e
theorem tab_ok (hT : Tab K mg G C T fa fd) (XA : Nat → List D → Hp → List Addr → Value → Option Addr → Prop) (hXA : XA = XAof K mg G) (N : Nat) : ∀ (k i : Nat) (d : Dn), T[i]? = some d →
    FnG P w K mg base (L2.CX P w) (k + 2) (fa i) (fd i) d.ps (spD (.of K (fun _ _ _ _ => False) XA) d.ps.length (run (T.map Dn.fn) C N k i))
  | 0, i, d, e => ⟨fun vs H Q E h => h.1, fun A outer s H args us vs Q E hr hgd he hb hv hs => by
      obtain ⟨_, ρ, ds, S, r, a, h⟩ := hs
      exact False.elim h⟩
  | k + 1, i, d, e => by
    have hm : d ∈ T := List.mem_of_getElem? e
    have S := hT.sc d hm
    refine okG (hT.fun_ i d e) S (fun vs H Q E h => h.1) (fun cdv A outer s H vs Q E hr hgd h => ?_)
    obtain ⟨hl, ρ, ds, St, r, a, h⟩ := h
    have hld : ds.length = d.ps.length := a.length.trans hl
    rw [run_eq N k i d e St hld] at h
    have g : Good (cxOf (L2.CX P w) P w K mg base d.N d.x (defScope d.st) (fa i) cdv A outer s H E) (d.cxt G) (.of K (fun cls dd _ H => E cls dd H) XA) (k + 2) (run (T.map Dn.fn) C N k) C fa fd := {
      hK := rfl
      N := rfl
      nd := S.nd
      sc := rfl
      kind := S.kind
      fnO := fun _ _ => rfl
      calm := rfl
      js := fun _ => trivial
      k2 := by omega
      xa := hXA
      exc := hT.exc
      cat := hT.cat
      tk := takes_of rfl rfl rfl rfl
      rm := hr
      gd := hgd
      free := hT.free
      gcd := hT.gcd
      mth := hT.mth
      con := hT.con
      fns := fun j x ps ej => by
        have ej : G.fns[j]? = some (x, ps) := ej
        rw [hT.names, List.getElem?_map] at ej
        cases e2 : T[j]? with
        | none => rw [e2] at ej; cases ej
        | some d' =>
          rw [e2] at ej
          cases ej
          exact ⟨⟨_, tab_ok hT XA hXA N k j d' e2, rfl, rfl⟩, hT.glob j d' e2, (hT.fun_ j d' e2).kp, hT.binds j d' e2, run_arity N k j d' e2⟩
      kws := fun q hq x ps ej => by
        have ej : G.fns[q.f]? = some (x, ps) := ej
        rw [hT.names, List.getElem?_map] at ej
        cases e2 : T[q.f]? with
        | none => rw [e2] at ej; cases ej
        | some d' =>
          rw [e2] at ej
          cases ej
          exact hT.kws q hq d' e2 }
    refine ⟨_, (trS_ok N 60).2 _ _ _ _ _ g ⟨rfl, rfl⟩ (passes_of rfl) (hT.tr d hm), ρ, startD d.N.length ds, St, ⟨r, env_start a, trivial, trivial⟩, ?_⟩
    cases er : execs (run (T.map Dn.fn) C N k) C N d.body (startD d.N.length ds) St with
    | nx env S' =>
      rw [er] at h
      intro ρ' σ' H' st q ev
      obtain ⟨d2, S2, ρ2, e1, st2, q2, a2⟩ := leave_ok (d := .non) r st q .mk_non
      have h : (match leave St .non S' with
        | .ok d S' => ∀ ρ' v H', Step H ρ H' ρ' → Rep K H' ρ' S' → At K H' ρ' d v → Q v H'
        | .ex c as S' => ∀ ρ' cls dd H', Step H ρ H' ρ' → Rep K H' ρ' S' → XA c as H' ρ' cls dd → E cls dd H'
        | .bad => False) := h
      rw [e1] at h
      exact h ρ2 _ H' st2 q2 a2
    | rt dd S' =>
      rw [er] at h
      intro ρ' v H' st q av
      obtain ⟨d2, S2, ρ2, e1, st2, q2, a2⟩ := leave_ok r st q av
      have h : (match leave St dd S' with
        | .ok d S' => ∀ ρ' v H', Step H ρ H' ρ' → Rep K H' ρ' S' → At K H' ρ' d v → Q v H'
        | .ex c as S' => ∀ ρ' cls dd H', Step H ρ H' ρ' → Rep K H' ρ' S' → XA c as H' ρ' cls dd → E cls dd H'
        | .bad => False) := h
      rw [e1] at h
      exact h ρ2 _ H' st2 q2 a2
    | ex c as env S' =>
      rw [er] at h
      intro ρ' σ' cls dd H' st q ev x
      exact h ρ' cls dd H' st q x
    | bk env S' => rw [er] at h; exact False.elim h
    | ct env S' => rw [er] at h; exact False.elim h
    | bad => rw [er] at h; exact False.elim h
end
end DL

end
section
set_option maxHeartbeats 1000000
/-! # DL: what the opened text holds -/
namespace DL
open PySem PySem.Spec PyProof.Rows L2
mutual
/-- a module's value that never changes -/
def cB (K : PySem.W.Frag) : D → Value → Bool
  | .non, .none => true
  | .bl b, .bool c => b == c
  | .int i, .int j _ => decide (i = j)
  | .str x, .str y _ => decide (x = y)
  | .tup l, .ref a => (match K.lookup a with
    | some ⟨.type c, _, .seq its _, _⟩ => decide (c = "tuple") && (decide (its.size ≤ sizeLine) && cBs K l its.toList)
    | _ => false)
  | .fz l, .ref a => (match K.lookup a with
    | some ⟨.type c, none, .seq its _, _⟩ => decide (c = "list") && (decide (its.size ≤ sizeLine) && cBs K l its.toList)
    | _ => false)
  | _, _ => false
def cBs (K : PySem.W.Frag) : List D → List Value → Bool
  | [], [] => true
  | d :: ds, v :: vs => cB K d v && cBs K ds vs
  | _, _ => false
end
mutual
theorem cB_ok {K : PySem.W.Frag} : ∀ {d : D} {u : Value}, cB K d u = true → ∃ v, RelV v u ∧ ∀ H ρ, At K H ρ d v
  | .non, u, h => by
    cases u with
    | none => exact ⟨.non, rfl, fun _ _ => .mk_non⟩
    | _ => cases h
  | .bl b, u, h => by
    cases u with
    | bool c =>
      have e : b = c := eq_of_beq h
      subst e
      exact ⟨.bl b, rfl, fun _ _ => .mk_bl⟩
    | _ => cases h
  | .int i, u, h => by
    cases u with
    | int j t =>
      have e : i = j := of_decide_eq_true h
      subst e
      exact ⟨.int i, ⟨t, rfl⟩, fun _ _ => .mk_int⟩
    | _ => cases h
  | .str x, u, h => by
    cases u with
    | str y t =>
      have e : x = y := of_decide_eq_true h
      subst e
      exact ⟨.str x, ⟨t, rfl⟩, fun _ _ => .mk_str⟩
    | _ => cases h
  | .tup l, u, h => by
    cases u with
    | ref a =>
      have h : (match K.lookup a with
        | some ⟨.type c, _, .seq its _, _⟩ => decide (c = "tuple") && (decide (its.size ≤ sizeLine) && cBs K l its.toList)
        | _ => false) = true := h
      split at h
      · rename_i c od its n sl e
        simp only [Bool.and_eq_true, decide_eq_true_eq] at h
        obtain ⟨xs, r, q⟩ := cBs_ok h.2.2
        exact ⟨.ref a, rfl, fun H ρ => .mk_tup (.inr ⟨_, its, n, e, congrArg Value.type h.1, rfl, h.2.1, r⟩) (q H ρ)⟩
      · cases h
    | _ => cases h
  | .fz l, u, h => by
    cases u with
    | ref a =>
      have h : (match K.lookup a with
        | some ⟨.type c, none, .seq its _, _⟩ => decide (c = "list") && (decide (its.size ≤ sizeLine) && cBs K l its.toList)
        | _ => false) = true := h
      split at h
      · rename_i c its n sl e
        simp only [Bool.and_eq_true, decide_eq_true_eq] at h
        obtain ⟨xs, r, q⟩ := cBs_ok h.2.2
        refine ⟨.ref a, rfl, fun H ρ => ?_⟩
        simp only [At]
        exact ⟨a, xs, rfl, .inr ⟨_, its, n, e, congrArg Value.type h.1, rfl, rfl, h.2.1, r⟩, q H ρ⟩
      · cases h
    | _ => cases h
  | .ref n, u, h => by cases u <;> cases h
  | .dct, u, h => by cases u <;> cases h
theorem cBs_ok {K : PySem.W.Frag} : ∀ {ds : List D} {us : List Value}, cBs K ds us = true → ∃ vs, Vals vs us ∧ ∀ H ρ, AtL K H ρ ds vs
  | [], us, h => by
    cases us with
    | nil => exact ⟨[], .nil, fun _ _ => .nil⟩
    | cons a b => cases h
  | d :: ds, us, h => by
    cases us with
    | nil => cases h
    | cons u us =>
      have h : (cB K d u && cBs K ds us) = true := h
      rw [Bool.and_eq_true] at h
      obtain ⟨v, r, q⟩ := cB_ok h.1
      obtain ⟨vs, rs, qs⟩ := cBs_ok h.2
      exact ⟨v :: vs, .cons r rs, fun H ρ => .cons (q H ρ) (qs H ρ)⟩
end
def cnB (K : PySem.W.Frag) (p : Str × D) : Bool := match PySem.W.nsIn K mainGlobals p.1 with
  | some (some u) => cB K p.2 u
  | _ => false
def gcdB (K : PySem.W.Frag) : Bool := decide (PySem.W.nsIn K mainGlobals "gcd" = some (some (.builtin "math.gcd")))
def Dn.he (d : Dn) : He.DefD := ⟨(d.x, none), d.x, d.x, defArgs d.st, defBody d.st, defScope d.st, [], []⟩
def mthB (K : PySem.W.Frag) (q : Str × String) : Bool := decide (PySem.W.nsIn K mainGlobals q.1 = some (some (.builtin q.2)))
/-- a class of exceptions: its name, its fields, its __init__ (with the qualified name) -/
structure Xn where
  x : Str
  fs : List Str
  q : Str
  st : Stmt
def Xn.ini (e : Xn) : Dn := ⟨Str.ofString "__init__", Str.ofString "self" :: e.fs, Str.ofString "self" :: e.fs, e.st, []⟩
def Xn.at_ (e : Xn) : Str × Option Str := (e.x, some (Str.ofString "__init__"))
def Xn.he (e : Xn) : He.DefD := ⟨e.at_, Str.ofString "__init__", e.q, defArgs e.st, defBody e.st, defScope e.st, [], []⟩
def oexB (K : PySem.W.Frag) (C : Addr) : Bool := (match K.lookup C with
    | some ⟨.type "type", _, .cls cd, sl⟩ => (match cd.mro, sl.toList with
      | .ref C' :: bm, [_, _, _, _, some (.builtin n), _] => decide (C' = C) && (decide (n = "ValueError.__new__") && (!cd.hasDel && (cd.hasDict && PySem.HandSPX.refsVE bm)))
      | _, _ => false)
    | _ => false) && (decide (PySem.W.findIn K (.ref C) "__setattr__" = some (some (.builtin "object.__setattr__"))) && (decide (PySem.W.subIn K (.ref C) (.type "BaseException") = some true) &&
    (decide (PySem.W.typeIn K (.ref C) = some (.type "type")) && PySem.W.keepIn K (.ref C))))
theorem oexB_ok {K : PySem.W.Frag} {C : Addr} (h : oexB K C = true) : OexC K C := by
  unfold oexB at h
  simp only [Bool.and_eq_true, decide_eq_true_eq] at h
  obtain ⟨h1, h2, h3, h4, h5⟩ := h
  refine ⟨?_, h2, h3, h4, h5⟩
  split at h1
  · rename_i dd cd sl ho
    split at h1
    · rename_i Cb bm k0 k1 k2 k3 nn k5 hm hs
      simp only [Bool.and_eq_true, decide_eq_true_eq, Bool.not_eq_true'] at h1
      obtain ⟨e1, e2, e3, e4, e5⟩ := h1
      subst e1 e2
      cases cd with
      | mk nm bs mro ns qn hd sn sub ab col del =>
        dsimp only at hm e3 e4
        subst hm e3 e4
        have esl : sl = #[k0, k1, k2, k3, some (.builtin "ValueError.__new__"), k5] := by
          cases sl
          exact congrArg Array.mk hs
        subst esl
        exact ⟨nm, qn, ns, bs, bm, sn, sub, ab, col, dd, k0, k1, k2, k3, k5, ho, e5⟩
    · cases h1
  · cases h1
/-- such a class, in the opened text -/
def Xn.ok (K : PySem.W.Frag) (e : Xn) : Bool := (He.Fa.glo e.x).ok K && (e.fs.isEmpty || (oexB K (He.ga K e.x) && (xfB K (He.ga K e.x) && (e.fs.all (fun f => decide (PySem.W.findIn K (.ref (He.ga K e.x)) f = some none)) &&
  (e.he.ok K && (decide (PySem.W.findIn K (.ref (He.ga K e.x)) (Str.ofString "__init__") = some (some (.ref (He.ma K (He.ga K e.x) (Str.ofString "__init__"))))) &&
    decide (PySem.W.typeIn K (.ref (He.ma K (He.ga K e.x) (Str.ofString "__init__"))) = some (.type "function"))))))))
/-- the clauses take what they have to -/
def catB (K : PySem.W.Frag) (root : Nat) (l : List Xn) : Bool := (List.range l.length).all fun c => (List.range l.length).all fun i => match l[c]?, l[i]? with
  | some a, some b => decide (PySem.W.exmOne K (.ref (He.ga K a.x)) (.ref (He.ga K b.x)) = some (decide (i = c) || decide (i = root)))
  | _, _ => true
/-- what is looked for: the names that are free, the defs, the constants, gcd -/
structure Sk where
  free : List Str
  cs : List (Str × D)
  gcd : Bool
  mth : List (Str × String)
  T : List Dn
  exc : List Xn := []
  root : Nat := 0
def Sk.ins (s : Sk) : List Xn := s.exc.filter fun e => !e.fs.isEmpty
def Sk.ok (K : PySem.W.Frag) (s : Sk) : Bool := (s.free.all fun x => (He.Fa.free x).ok K) && (((s.T.all fun d => (He.Fa.glo d.x).ok K) && (s.T.all fun d => d.he.ok K)) && ((s.cs.all (cnB K)) && ((!s.gcd || gcdB K) && (s.mth.all (mthB K) && (s.exc.all (Xn.ok K) && catB K s.root s.exc)))))
def Sk.obs (s : Sk) (K : PySem.W.Frag) : He.AlD := (s.ok K, (s.T.map fun d => He.fnW K (d.x, none)) ++ s.ins.map fun e => He.fnW K e.at_)
def Sk.val (s : Sk) : He.AlD := (true, (s.T.map fun d => d.he.val) ++ s.ins.map fun e => e.he.val)
def Sk.obsG (s : Sk) (n : Nat) (g : Addr → Option Obj) : He.AlD := s.obs (He.frG g (He.asD g n))
def Sk.hook (s : Sk) (n : Nat) : PySem.W.Hook where
  α := He.AlD
  obs := fun t => s.obsG n t.heap.get?
  val := fun _ => s.val
  says := fun _ h => ∃ K : PySem.W.Frag, K.In h ∧ s.obs K = s.val
  of := fun _ _ e => ⟨_, He.frG_in, e⟩
  keeps := fun _ _ _ ⟨K, hK, c⟩ k => ⟨K, PySem.W.Frag.In.keeps hK k, c⟩
theorem Sk.obsG_eq {s : Sk} {n : Nat} {g : Addr → Option Obj} {t : Shared} (h : ∀ a, g a = t.heap.get? a) : s.obsG n g = (s.hook n).obs t := by
  have e : g = t.heap.get? := funext h
  rw [e] <;> rfl
/-! ### the table -/
def Dn.scB (d : Dn) : Bool := (match (defScope d.st).kind with | .function => true | _ => false) && ((!(defScope d.st).isCoroutine) && ((!(defScope d.st).isGenerator) && (decide d.N.Nodup && (decide (d.N.take d.ps.length = d.ps) &&
  ((d.ps.all fun x => (defScope d.st).names.lookup x == some .local || (defScope d.st).names.lookup x == some .cell) && ((defScope d.st).names.all fun y => !(y.2 == .free)))))))
theorem nk_eq {a b : NameKind} (h : (a == b) = true) : a = b := by cases a <;> cases b <;> first | rfl | cases h
theorem onk_eq {a : Option NameKind} {b : NameKind} (h : (a == some b) = true) : a = some b := by
  cases a with
  | none => cases h
  | some a => rw [nk_eq (a := a) (b := b) h]
theorem nk_refl (b : NameKind) : (b == b) = true := by cases b <;> rfl
theorem Dn.scB_ok {d : Dn} (h : d.scB = true) : FnScope d.N d.ps (defScope d.st) := by
  unfold Dn.scB at h
  simp only [Bool.and_eq_true, Bool.not_eq_true', decide_eq_true_eq, List.all_eq_true, Bool.or_eq_true] at h
  obtain ⟨h1, h2, h3, h4, h5, h6, h7⟩ := h
  refine ⟨?_, h2, h3, h4, h5, fun x hx => ?_, fun y hy e => ?_⟩
  · revert h1
    cases (defScope d.st).kind <;> intro h1 <;> first | rfl | cases h1
  · rcases h6 x hx with h | h
    · exact .inl (onk_eq h)
    · exact .inr (onk_eq h)
  · have := h7 y hy
    rw [e, nk_refl] at this
    cases this
/-- how the arguments are bound -/
def Dn.Bnd (d : Dn) : Prop := ∀ (kV doc pm : Value) (an : Option Addr) (cdv ct : Value) (us : List Value), us.length = d.ps.length → bindArgs (PySem.W.fnOf d.x d.x (defArgs d.st) (defBody d.st) (defScope d.st) .none kV doc pm an cdv ct) ⟨us, []⟩ = pure (d.ps.zip us)
def Dn.Kbn (d : Dn) (q : KwPat) : Prop := ∀ (kV doc pm : Value) (an : Option Addr) (cdv ct : Value) (us ws : List Value), us.length = q.n → ws.length = q.ks.length → bindArgs (PySem.W.fnOf d.x d.x (defArgs d.st) (defBody d.st) (defScope d.st) .none kV doc pm an cdv ct) ⟨us, q.ks.zip ws⟩ = pure (d.ps.zip (permL q.perm (us ++ ws)))
theorem kw_binds {K : PySem.W.Frag} {x qual : Str} {params : Arguments} {body : List Stmt} {scope : Scope} {kws : List (Str × V)} {f : Addr} {fd : FuncData} {ps ks : List Str} {perm : List Nat} {n : Nat} (F : FunD K x qual params body scope [] kws f fd)
    (h : ∀ (kV doc pm : Value) (an : Option Addr) (cdv ct : Value) (us ws : List Value), us.length = n → ws.length = ks.length → bindArgs (PySem.W.fnOf x qual params body scope .none kV doc pm an cdv ct) ⟨us, ks.zip ws⟩ = pure (ps.zip (permL perm (us ++ ws)))) (s : Shared) (us ws : List Value) (hl : us.length = n) (hw : ws.length = ks.length) : BindsTo s fd ⟨us, ks.zip ws⟩ (ps.zip (permL perm (us ++ ws))) := by
  obtain ⟨oc, od, dV, kV, doc, pm, an, cdv, ct, osl, rfl, lk, hcd, hD, hK⟩ := F.ex
  rcases hD with ⟨_, rfl⟩ | ⟨e, _⟩
  · exact .of_eq (h kV doc pm an cdv ct us ws hl hw)
  · exact absurd rfl e
/-- the text's own facts, by evaluation -/
structure Txt (s : Sk) (G : Gm) : Prop where
  names : G.fns = s.T.map fun d => (d.x, d.ps)
  tr : (s.T.map fun d => trSs 60 (d.cxt G) (defBody d.st)) = s.T.map fun d => some d.body
  sc : s.T.all Dn.scB = true
  bnd : ∀ d ∈ s.T, d.Bnd
  kbn : ∀ q ∈ G.kws, ∀ d, s.T[q.f]? = some d → d.Kbn q
  free : G.free = s.free
  gcd : G.gcd = s.gcd
  mth : G.mth = s.mth
  cs : G.consts = s.cs.map (·.1)
  exc : G.exc = s.exc.map fun e => (e.x, e.fs)
  root : G.root = s.root
  ini : s.ins.all (fun e => decide (0 < e.fs.length) && (decide (e.fs.length ≤ 2) && (decide e.fs.Nodup && (e.fs.all okName && (e.ini.scB && initB e.fs (defBody e.st)))))) = true
  inb : ∀ e ∈ s.ins, ∀ (kV doc pm : Value) (an : Option Addr) (cdv ct : Value) (us : List Value), us.length = (Str.ofString "self" :: e.fs).length → bindArgs (PySem.W.fnOf (Str.ofString "__init__") e.q (defArgs e.st) (defBody e.st) (defScope e.st) .none kV doc pm an cdv ct) ⟨us, []⟩ = pure ((Str.ofString "self" :: e.fs).zip us)
theorem map_mem {α β : Type} {f g : α → β} : ∀ {l : List α}, l.map f = l.map g → ∀ d ∈ l, f d = g d
  | [], _, d, hd => by cases hd
  | a :: l, h, d, hd => by
    rw [List.map_cons, List.map_cons, List.cons.injEq] at h
    rcases List.mem_cons.mp hd with rfl | hd
    · exact h.1
    · exact map_mem h.2 d hd
theorem tab_of {s : Sk} {G : Gm} (t : Txt s G) {K : PySem.W.Frag} {h : Heap} {mg : Str → Option Value} (X : K.In h) (Gm : h.Ns mainGlobals mg) (c : s.obs K = s.val) {i0 : Nat} {d0 : Dn} (h0 : s.T[i0]? = some d0) :
    ∃ fd : Nat → FuncData, Tab K mg G (s.cs.map (·.2)) s.T (fun i => He.ga K ((s.T[i]?.map (·.x)).getD (Str.ofString ""))) fd := by
  have c1 : s.ok K = true := congrArg (fun z : He.AlD => z.1) c
  have c23 : ((s.T.map fun d => He.fnW K (d.x, none)) ++ s.ins.map fun e => He.fnW K e.at_) = (s.T.map fun d => d.he.val) ++ s.ins.map fun e => e.he.val := congrArg (fun z : He.AlD => z.2) c
  obtain ⟨c2, c3⟩ := List.append_inj c23 (by rw [List.length_map, List.length_map])
  unfold Sk.ok at c1
  simp only [Bool.and_eq_true, List.all_eq_true] at c1
  obtain ⟨hfr, ⟨hgl, hhe⟩, hcs, hg, hmt, hxs, hca⟩ := c1
  have hF : ∀ (i : Nat) d, s.T[i]? = some d → ∃ fd, FunD K d.x d.x (defArgs d.st) (defBody d.st) (defScope d.st) [] [] (He.ga K ((s.T[i]?.map (·.x)).getD (Str.ofString ""))) fd := fun i d e => by
    have hm := List.mem_of_getElem? e
    obtain ⟨fd, F⟩ := He.DefD.funD (d := d.he) (map_mem c2 d hm) (hhe d hm)
    rw [e]
    exact ⟨fd, F⟩
  have hS : ∀ i : Nat, ∃ fd : FuncData, ∀ d, s.T[i]? = some d → FunD K d.x d.x (defArgs d.st) (defBody d.st) (defScope d.st) [] [] (He.ga K ((s.T[i]?.map (·.x)).getD (Str.ofString ""))) fd := fun i => by
    cases e : s.T[i]? with
    | none =>
      obtain ⟨fd, _⟩ := hF i0 d0 h0
      exact ⟨fd, fun d h => by cases h⟩
    | some d =>
      obtain ⟨fd, F⟩ := hF i d e
      rw [e] at F
      exact ⟨fd, fun d' h => by cases h; exact F⟩
  obtain ⟨fd, hfd⟩ := Classical.skolem.mp hS
  refine ⟨fd, ?_⟩
  exact {
    names := t.names
    fun_ := fun i d e => hfd i d e
    tr := fun d hd => map_mem t.tr d hd
    sc := fun d hd => Dn.scB_ok (List.all_eq_true.mp t.sc d hd)
    glob := fun i d e => by
      have := He.glo_ok X Gm (hgl d (List.mem_of_getElem? e))
      rw [this, e]; rfl
    binds := fun i d e => (hfd i d e).bindsN (t.bnd d (List.mem_of_getElem? e))
    kws := fun q hq d e s' us ws _ l1 l2 => kw_binds (hfd q.f d e) (t.kbn q hq d e) s' us ws l1 l2
    free := fun x hx => He.free_ok X Gm (hfr x (by rw [← t.free]; exact hx))
    exc := fun c x fs e => by
      rw [t.exc, List.getElem?_map] at e
      cases e2 : s.exc[c]? with
      | none => rw [e2] at e; cases e
      | some q =>
        rw [e2] at e
        cases e
        have hm := List.mem_of_getElem? e2
        have ok := hxs q hm
        unfold Xn.ok at ok
        rw [Bool.and_eq_true] at ok
        refine ⟨He.ga K q.x, He.glo_ok X Gm ok.1, fun hne => ?_⟩
        have he : q.fs.isEmpty = false := by
          cases hq : q.fs with
          | nil => exact absurd hq hne
          | cons a b => rfl
        have hin : q ∈ s.ins := List.mem_filter.mpr ⟨hm, by rw [he]; rfl⟩
        have k := ok.2
        rw [he, Bool.false_or] at k
        simp only [Bool.and_eq_true, decide_eq_true_eq] at k
        obtain ⟨k1, k2, k3, k4, k5, k6⟩ := k
        have j := List.all_eq_true.mp t.ini q hin
        simp only [Bool.and_eq_true, decide_eq_true_eq] at j
        obtain ⟨j1, j2, j3, j4, j5, j6⟩ := j
        obtain ⟨fd', FD⟩ := He.DefD.funD (d := q.he) (map_mem c3 q hin) k4
        exact ⟨oexB_ok k1, xfB_ok k2, ⟨j1, j2, j3⟩, fun g hg => of_decide_eq_true (List.all_eq_true.mp k3 g hg), fun g hg => List.all_eq_true.mp j4 g hg, q.st, q.q, _, fd', k5, k6, FD, Dn.scB_ok j5, j6, FD.bindsN (t.inb q hin)⟩
    cat := fun c i x y fs gs Ca Da e1 e2 m1 m2 => by
      rw [t.exc, List.getElem?_map] at e1 e2
      cases f1 : s.exc[c]? with
      | none => rw [f1] at e1; cases e1
      | some a =>
        cases f2 : s.exc[i]? with
        | none => rw [f2] at e2; cases e2
        | some b =>
          rw [f1] at e1; rw [f2] at e2
          cases e1; cases e2
          have oa := hxs a (List.mem_of_getElem? f1)
          have ob := hxs b (List.mem_of_getElem? f2)
          unfold Xn.ok at oa ob
          rw [Bool.and_eq_true] at oa ob
          have ga := (He.glo_ok X Gm oa.1).symm.trans m1
          have gb := (He.glo_ok X Gm ob.1).symm.trans m2
          cases ga; cases gb
          have hc := (List.getElem?_eq_some_iff.mp f1).1
          have hi := (List.getElem?_eq_some_iff.mp f2).1
          have z := List.all_eq_true.mp (List.all_eq_true.mp hca c (List.mem_range.mpr hc)) i (List.mem_range.mpr hi)
          rw [f1, f2] at z
          have z := of_decide_eq_true z
          rw [← t.root] at z
          exact z
    mth := fun q hq => PySem.W.mg_of X Gm (of_decide_eq_true (hmt q (by rw [← t.mth]; exact hq)))
    gcd := fun e => by
      rw [t.gcd] at e
      rw [e] at hg
      exact PySem.W.mg_of X Gm (of_decide_eq_true hg)
    con := fun i x e => by
      rw [t.cs, List.getElem?_map] at e
      cases e2 : s.cs[i]? with
      | none => rw [e2] at e; cases e
      | some p =>
        rw [e2] at e
        cases e
        have hp := hcs p (List.mem_of_getElem? e2)
        unfold cnB at hp
        split at hp
        · rename_i u en
          obtain ⟨v, r, q⟩ := cB_ok hp
          exact ⟨p.2, u, v, by rw [List.getElem?_map, e2]; rfl, PySem.W.mg_of X Gm en, r, q⟩
        · cases hp }
theorem at_ints {K : PySem.W.Frag} {H : Hp} {ρ : List Addr} : ∀ ns : List Int, AtL K H ρ (ns.map .int) (ns.map V.int)
  | [] => .nil
  | n :: ns => .cons .mk_int (at_ints ns)
/-- the end: the law's def gives True, whatever the script -/
theorem walk_run {s : Sk} {G : Gm} (t : Txt s G) {l : PySem.W.OpenLaw} {n k m N i0 : Nat} {q : Program} {loose : List Str} {XP : (Str → Option Value) → Heap → Prop} {d : DefRec} {d0 : Dn} {x : Str} (h0 : s.T[i0]? = some d0) (hx : d0.ps = [x]) (hdx : d.name = d0.x)
    (hn : l.most = some n) (hn2 : n ≤ sizeLine) (hdf : d.params.defaults = []) (hr : Room (k + 2) callerA)
    (law : ∀ ns : List Int, ns.length ≤ n → ∃ S', run (s.T.map Dn.fn) (s.cs.map (·.2)) N k i0 [.fz (ns.map .int)] [] = .ok (.bl true) S') :
    PySem.W.WalkO q loose XP (s.hook m).says l.row.toRowW d [] (fun f vs => PySem.call f vs) := by
  refine Att.attach_call hn hdf fun w s₀ s₁ mg mb fa o pm cd doc a vs ns Gg Y ho hd hcd hmg hobj hints hlen hg => ?_
  obtain ⟨K, KX, c⟩ := Y
  obtain ⟨fd, hT⟩ := tab_of t KX Gg.T.g c h0
  have hgl := hT.glob i0 d0 h0
  rw [hdx, hgl] at hmg
  have hF := hT.fun_ i0 d0 h0
  have hb : ∀ (s : Shared) (u : Value), BindsTo s (fd i0) ⟨[u], []⟩ [(x, u)] := fun s u => by
    have := hF.bindsA (ps := d0.ps) (t.bnd d0 (List.mem_of_getElem? h0)) s [u] (by rw [hx]; rfl)
    rw [hx] at this
    exact this
  cases hmg
  refine callG (CX := L2.CX l.prog w) (k := k + 2) (fd := fd i0) (x := x) (sp := spD (.of K (fun _ _ _ _ => False) (XAof K mg G)) 1 (run (s.T.map Dn.fn) (s.cs.map (·.2)) N k i0)) KX Gg.T.g Gg.T.b Gg.T.builtins Gg.T.nolimit hg hobj hints (Nat.le_trans hlen hn2) hr (fun base hK hN => ?_) hb (fun H hO hS => ?_) fun H e s' hc => ?_
  · have := tab_ok (P := l.prog) (w := w) (base := base) hT (XAof K mg G) rfl N k i0 d0 h0
    rw [hx] at this
    exact this
  · refine ⟨rfl, [], [.fz (ns.map .int)], [], ⟨List.nodup_nil, rfl, fun n a l e1 _ => by cases e1⟩, .cons ?_ .nil, ?_⟩
    · simp only [At]
      refine ⟨a, ns.map V.int, rfl, ?_, at_ints ns⟩
      rcases hS with (h | ⟨o, h⟩) | h
      · rcases hO a with h2 | ⟨o, xs, h2⟩
        · rw [h] at h2; cases h2
        · rw [h] at h2; cases h2
      · exact .inl ⟨o, h⟩
      · exact .inr h
    · obtain ⟨S', e⟩ := law ns hlen
      rw [e]
      intro ρ' v H' _ _ av
      exact av.bl_inv
  · obtain ⟨_, _, _, _, _, _, _, _, _, _, _, _, hE⟩ := hc
    exact hE
end DL

end
section
set_option maxHeartbeats 1000000
/-! # DL: the evaluator's equations, weakest preconditions -/
namespace DL
open PySem (Str)
section
variable {F : Nat → List D → Store → R D} {C : List D} {N : Nat} {env : En} {S : Store}
@[simp] theorem ev_var {i : Nat} : ev F C (.var i) env S = (match env[i]? with | some (some d) => .ok d S | _ => .bad) := rfl
@[simp] theorem ev_int {i : Int} : ev F C (.int i) env S = .ok (.int i) S := rfl
@[simp] theorem ev_bl {b : Bool} : ev F C (.bl b) env S = .ok (.bl b) S := rfl
@[simp] theorem ev_non : ev F C .non env S = .ok .non S := rfl
@[simp] theorem ev_str {x : Str} : ev F C (.str x) env S = .ok (.str x) S := rfl
@[simp] theorem ev_dct : ev F C .dct env S = .ok .dct S := rfl
@[simp] theorem ev_cst {c : Nat} : ev F C (.cst c) env S = (match C[c]? with | some d => .ok d S | none => .bad) := rfl
@[simp] theorem ev_tup {es : List Ex} : ev F C (.tup es) env S = (evs F C es env S).bind newT := rfl
@[simp] theorem ev_lst {es : List Ex} : ev F C (.lst es) env S = (evs F C es env S).bind newL := rfl
@[simp] theorem ev_bin {o : Bop} {a b : Ex} : ev F C (.bin o a b) env S = (ev F C a env S).bind fun x S1 => (ev F C b env S1).bind fun y S2 => opD o x y S2 := rfl
@[simp] theorem ev_neg {a : Ex} : ev F C (.neg a) env S = (ev F C a env S).bind fun x S1 => match x with | .int i => .ok (.int (-i)) S1 | _ => .bad := rfl
@[simp] theorem ev_nt {a : Ex} : ev F C (.nt a) env S = (ev F C a env S).bind fun x S1 => (truthR x S1).bind fun b S2 => .ok (.bl !b) S2 := rfl
@[simp] theorem ev_and {a b : Ex} : ev F C (.and_ a b) env S = (ev F C a env S).bind fun x S1 => (truthR x S1).bind fun k S2 => if k then ev F C b env S2 else .ok x S2 := rfl
@[simp] theorem ev_or {a b : Ex} : ev F C (.or_ a b) env S = (ev F C a env S).bind fun x S1 => (truthR x S1).bind fun k S2 => if k then .ok x S2 else ev F C b env S2 := rfl
@[simp] theorem ev_cmp {o : Cop} {a b : Ex} : ev F C (.cmp o a b) env S = (ev F C a env S).bind fun x S1 => (ev F C b env S1).bind fun y S2 => cmpR o x y S2 := rfl
@[simp] theorem ev_cmp2 {o p : Cop} {a b c : Ex} : ev F C (.cmp2 o p a b c) env S = (ev F C a env S).bind fun x S1 => (ev F C b env S1).bind fun y S2 => match cmpD o x y S2 with
    | some true => (ev F C c env S2).bind fun z S3 => cmpR p y z S3
    | some false => .ok (.bl false) S2
    | none => .bad := rfl
@[simp] theorem ev_ife {t a b : Ex} : ev F C (.ife t a b) env S = (ev F C t env S).bind fun x S1 => (truthR x S1).bind fun k S2 => if k then ev F C a env S2 else ev F C b env S2 := rfl
@[simp] theorem ev_call' {f : Nat} {es : List Ex} : ev F C (.call f es) env S = (evs F C es env S).bind fun vs S1 => F f vs S1 := rfl
@[simp] theorem ev_callk {f : Nat} {es ks : List Ex} {perm : List Nat} : ev F C (.callk f es ks perm) env S = (evs F C es env S).bind fun vs S1 => (evs F C ks env S1).bind fun ws S2 => F f (permL perm (vs ++ ws)) S2 := rfl
@[simp] theorem ev_bi' {b : Bi} {es : List Ex} : ev F C (.bi b es) env S = (evs F C es env S).bind fun vs S1 => biD b vs S1 := rfl
@[simp] theorem ev_isi {e : Ex} {ts : List Ty} : ev F C (.isi e ts) env S = (ev F C e env S).bind fun x S1 => isiR x ts S1 := rfl
@[simp] theorem ev_meth {m : Mt} {e : Ex} {es : List Ex} : ev F C (.meth m e es) env S = (ev F C e env S).bind fun x S1 => if recvOk m x S1 then (evs F C es env S1).bind fun vs S2 => mtD m x vs S2 else .bad := rfl
@[simp] theorem ev_idx {a i : Ex} : ev F C (.idx a i) env S = (ev F C a env S).bind fun x S1 => (ev F C i env S1).bind fun y S2 => idxR x y S2 := rfl
@[simp] theorem ev_slc {a : Ex} {lo hi : List Ex} : ev F C (.slc a lo hi) env S = (ev F C a env S).bind fun x S1 => ((evs F C lo env S1).bind partOk).bind fun l S2 => ((evs F C hi env S2).bind partOk).bind fun h S3 => slcR x l h S3 := rfl
theorem ev_lrg {t : Bool} {es : List Ex} : ev F C (.lrg t es) env S = (evs F C es env S).bind fun vs S1 => lrgR t vs S1 := rfl
@[simp] theorem ev_rev {a : Ex} : ev F C (.rev a) env S = (ev F C a env S).bind fun x S1 => revR x S1 := rfl
theorem ev_lc {el : Ex} {tg : Tg} {it : Ex} {ifs : List Ex} {own : List Nat} : ev F C (.lc el tg it ifs own) env S = (evi F C it env S).bind fun I S1 =>
    lcLoop S1.length I.dep (fun env' S' => ev F C el env' S') (fun env' S' => evt F C ifs env' S') tg (wipeD env own) I.items (S1 ++ [[]]) := rfl
@[simp] theorem evs_nil : evs F C [] env S = .ok [] S := rfl
@[simp] theorem evs_cons {e : Ex} {es : List Ex} : evs F C (e :: es) env S = (ev F C e env S).bind fun x S1 => (evs F C es env S1).bind fun xs S2 => .ok (x :: xs) S2 := rfl
@[simp] theorem evt_nil : evt F C [] env S = .ok true S := rfl
@[simp] theorem evt_cons {e : Ex} {es : List Ex} : evt F C (e :: es) env S = (ev F C e env S).bind fun x S1 => (truthR x S1).bind fun k S2 => if k then evt F C es env S2 else .ok false S2 := rfl
theorem evi_range {es : List Ex} : evi F C (.range es) env S = (evs F C es env S).bind fun vs S1 => match vs with
    | [.int j] => if boundOk j then .ok ⟨rangeL 0 j.toNat, []⟩ S1 else .bad
    | [.int i, .int j] => if boundOk i && boundOk j then .ok ⟨rangeL i (j - i).toNat, []⟩ S1 else .bad
    | [.int i, .int j, .int c] => if boundOk i && (boundOk j && decide (c = -1)) then .ok ⟨rangeDn i (i - j).toNat, []⟩ S1 else .bad
    | _ => .bad := rfl
theorem evi_range1 {es : List Ex} {S1 : Store} {j : Int} (h : evs F C es env S = .ok [.int j] S1) (hb : boundOk j = true) : evi F C (.range es) env S = .ok ⟨rangeL 0 j.toNat, []⟩ S1 := by
  rw [evi_range, h]
  exact if_pos hb
@[simp] theorem evi_enum {e : Ex} : evi F C (.enum e) env S = (ev F C e env S).bind fun x S1 => match items S1 x with
    | some l => .ok ⟨enumL l, depOf S1 x⟩ S1
    | none => .bad := rfl
@[simp] theorem evi_zip {a b : Ex} : evi F C (.zip a b) env S = (ev F C a env S).bind fun x S1 => (ev F C b env S1).bind fun y S2 => match items S2 x, items S2 y with
    | some l, some m => if zipOk x y then .ok ⟨zipL l m, depOf S2 x ++ depOf S2 y⟩ S2 else .bad
    | _, _ => .bad := rfl
@[simp] theorem evi_seq {e : Ex} : evi F C (.seq e) env S = (ev F C e env S).bind fun x S1 => match items S1 x with
    | some l => .ok ⟨l, depOf S1 x⟩ S1
    | none => .bad := rfl
@[simp] theorem test_eq {e : Ex} : test F C e env S = (ev F C e env S).bind truthR := rfl
@[simp] theorem ex_asg {t : LT} {e : Ex} : exec F C N (.asg t e) env S = (ev F C e env S).thenS env fun x S1 => putL F C t x env S1 := rfl
@[simp] theorem ex_expr {e : Ex} : exec F C N (.expr e) env S = (ev F C e env S).thenS env fun _ S1 => .nx env S1 := rfl
@[simp] theorem ex_ret {e : Ex} : exec F C N (.ret e) env S = (ev F C e env S).thenS env fun x S1 => .rt x S1 := rfl
@[simp] theorem ex_retN : exec F C N .retN env S = .rt .non S := rfl
@[simp] theorem ex_ite {t : Ex} {a b : List St} : exec F C N (.ite t a b) env S = (test F C t env S).thenS env fun k S1 => if k then execs F C N a env S1 else execs F C N b env S1 := rfl
theorem ex_for {t : Tg} {it : Ex} {body : List St} : exec F C N (.for_ t it body) env S = (evi F C it env S).thenS env fun I S1 => forLoop I.dep t (fun e S' => execs F C N body e S') I.items env S1 := rfl
theorem ex_while {t : Ex} {body : List St} : exec F C N (.while_ t body) env S = whileLoop (test F C t) (fun e S' => execs F C N body e S') N env S := rfl
@[simp] theorem ex_pass : exec F C N .pass env S = .nx env S := rfl
@[simp] theorem ex_brk : exec F C N .brk env S = .bk env S := rfl
@[simp] theorem ex_cont : exec F C N .cont env S = .ct env S := rfl
@[simp] theorem ex_no : exec F C N .no env S = .bad := rfl
@[simp] theorem exs_nil : execs F C N [] env S = .nx env S := rfl
@[simp] theorem exs_cons {s : St} {r : List St} : execs F C N (s :: r) env S = (exec F C N s env S).seq fun env' S' => execs F C N r env' S' := rfl
@[simp] theorem put_name' {i : Nat} {d : D} : putL F C (.name i) d env S = .nx (env.set i (some d)) S := rfl
@[simp] theorem put_sub' {o i : Ex} {d : D} : putL F C (.sub o i) d env S = (ev F C o env S).thenS env fun y S1 => (ev F C i env S1).thenS env fun k S2 => setR y k d env S2 := rfl
@[simp] theorem put_tup' {ts : List LT} {d : D} : putL F C (.tup ts) d env S = (match items S d with | some l => if l.length = ts.length then putLs F C ts l env S else .bad | none => .bad) := rfl
@[simp] theorem puts_nil' : putLs F C [] [] env S = .nx env S := rfl
@[simp] theorem puts_cons' {t : LT} {ts : List LT} {d : D} {l : List D} : putLs F C (t :: ts) (d :: l) env S = (putL F C t d env S).seq fun env' S' => putLs F C ts l env' S' := rfl
@[simp] theorem tg_name {i : Nat} {d : D} : Tg.put S (.name i) d env = some (env.set i (some d)) := rfl
@[simp] theorem tg_tup {ts : List Tg} {d : D} : Tg.put S (.tup ts) d env = (match items S d with | some l => Tg.puts S ts l env | none => none) := rfl
@[simp] theorem tgs_nil : Tg.puts S [] [] env = some env := rfl
@[simp] theorem tgs_cons {t : Tg} {ts : List Tg} {d : D} {l : List D} : Tg.puts S (t :: ts) (d :: l) env = (match Tg.put S t d env with | some env' => Tg.puts S ts l env' | none => none) := rfl
@[simp] theorem seq_rt {d : D} {f : En → Store → RS} : (RS.rt d S).seq f = .rt d S := rfl
@[simp] theorem seq_bk {f : En → Store → RS} : (RS.bk env S).seq f = .bk env S := rfl
@[simp] theorem seq_ct {f : En → Store → RS} : (RS.ct env S).seq f = .ct env S := rfl
@[simp] theorem items_tup {l : List D} : items S (.tup l) = some l := rfl
@[simp] theorem items_fz {l : List D} : items S (.fz l) = some l := rfl
@[simp] theorem items_ref {n : Nat} : items S (.ref n) = S[n]? := rfl
@[simp] theorem wipe_nil : wipeD env [] = env := rfl
@[simp] theorem wipe_cons {v : Nat} {vs : List Nat} : wipeD env (v :: vs) = (wipeD env vs).set v none := rfl
@[simp] theorem dep_tup {l : List D} : depOf S (.tup l) = [] := rfl
@[simp] theorem dep_fz {l : List D} : depOf S (.fz l) = [] := rfl
@[simp] theorem still_nil : It.still S [] = true := rfl
@[simp] theorem truth_bl {b : Bool} : truthR (.bl b) S = .ok b S := rfl
@[simp] theorem truth_int {i : Int} : truthR (.int i) S = .ok (i != 0) S := rfl
@[simp] theorem isi_int {i : Int} {ts : List Ty} : isiR (.int i) ts S = .ok (.bl (ts.any (isTy (some .int)))) S := rfl
@[simp] theorem isi_bl {i : Bool} {ts : List Ty} : isiR (.bl i) ts S = .ok (.bl (ts.any (isTy (some .bool)))) S := rfl
@[simp] theorem isi_str {i : Str} {ts : List Ty} : isiR (.str i) ts S = .ok (.bl (ts.any (isTy (some .str)))) S := rfl
@[simp] theorem isi_tup {l : List D} {ts : List Ty} : isiR (.tup l) ts S = .ok (.bl (ts.any (isTy (some .tuple)))) S := rfl
@[simp] theorem isi_fz {l : List D} {ts : List Ty} : isiR (.fz l) ts S = .ok (.bl (ts.any (isTy (some .list)))) S := rfl
@[simp] theorem isi_dct {ts : List Ty} : isiR .dct ts S = .ok (.bl (ts.any (isTy none))) S := rfl
@[simp] theorem isi_non {ts : List Ty} : isiR .non ts S = .ok (.bl (ts.any (isTy none))) S := rfl
@[simp] theorem op_add {i j : Int} : opD .add (.int i) (.int j) S = .ok (.int (i + j)) S := rfl
@[simp] theorem op_sub {i j : Int} : opD .sub (.int i) (.int j) S = .ok (.int (i - j)) S := rfl
theorem op_mul {i j : Int} (h : mulOk i j = true) : opD .mul (.int i) (.int j) S = .ok (.int (i * j)) S := if_pos h
theorem op_div {i j : Int} (h0 : j ≠ 0) (h : divOk i j = true) : opD .fdiv (.int i) (.int j) S = .ok (.int (i.fdiv j)) S := (if_neg h0).trans (if_pos h)
theorem op_mod {i j : Int} (h0 : j ≠ 0) : opD .mod (.int i) (.int j) S = .ok (.int (i.fmod j)) S := if_neg h0
theorem op_cat {l m : List D} (h : (l ++ m).length ≤ PySem.sizeLine) : opD .add (.tup l) (.tup m) S = .ok (.tup (l ++ m)) S := if_pos h
@[simp] theorem cmp_lt {i j : Int} : cmpR .lt (.int i) (.int j) S = .ok (.bl (decide (i < j))) S := rfl
@[simp] theorem cmp_le {i j : Int} : cmpR .le (.int i) (.int j) S = .ok (.bl (decide (i ≤ j))) S := rfl
@[simp] theorem cmp_gt {i j : Int} : cmpR .gt (.int i) (.int j) S = .ok (.bl (decide (j < i))) S := rfl
@[simp] theorem cmp_ge {i j : Int} : cmpR .ge (.int i) (.int j) S = .ok (.bl (decide (j ≤ i))) S := rfl
@[simp] theorem cmpD_lt {i j : Int} : cmpD .lt (.int i) (.int j) S = some (decide (i < j)) := rfl
@[simp] theorem cmpD_le {i j : Int} : cmpD .le (.int i) (.int j) S = some (decide (i ≤ j)) := rfl
theorem cmp_eq {a b : D} {k : Bool} (h : eqD a b S = some k) : cmpR .eq a b S = .ok (.bl k) S := by
  show (match eqD a b S with | some k => R.ok (D.bl k) S | none => .bad) = _
  rw [h]
theorem cmp_ne {a b : D} {k : Bool} (h : eqD a b S = some k) : cmpR .ne a b S = .ok (.bl !k) S := by
  show (match (eqD a b S).map (!·) with | some k => R.ok (D.bl k) S | none => .bad) = _
  rw [h]; rfl
@[simp] theorem bi_len_tup {l : List D} : biD .len [.tup l] S = .ok (.int l.length) S := rfl
@[simp] theorem bi_len_fz {l : List D} : biD .len [.fz l] S = .ok (.int l.length) S := rfl
theorem bi_len_ref {n : Nat} {l : List D} (h : S[n]? = some l) : biD .len [.ref n] S = .ok (.int l.length) S := by
  show (match S[n]? with | some l => R.ok (D.int l.length) S | none => .bad) = _
  rw [h]
@[simp] theorem bi_int_int {i : Int} : biD .int [.int i] S = .ok (.int i) S := rfl
@[simp] theorem bi_abs_int {i : Int} : biD .abs [.int i] S = .ok (.int (if i < 0 then -i else i)) S := rfl
@[simp] theorem bi_max_int {i j : Int} : biD .max [.int i, .int j] S = .ok (.int (if j > i then j else i)) S := rfl
@[simp] theorem bi_min_int {i j : Int} : biD .min [.int i, .int j] S = .ok (.int (if j < i then j else i)) S := rfl
@[simp] theorem bi_gcd_int {i j : Int} : biD .gcd [.int i, .int j] S = .ok (.int ((Nat.gcd i.natAbs j.natAbs : Nat) : Int)) S := rfl
@[simp] theorem bi_tuple_tup {l : List D} : biD .tuple [.tup l] S = .ok (.tup l) S := rfl
theorem bi_tuple_ref {n : Nat} {l : List D} (h : S[n]? = some l) : biD .tuple [.ref n] S = .ok (.tup l) S := by
  show (match S[n]? with | some l => R.ok (D.tup l) S | none => .bad) = _
  rw [h]
@[simp] theorem bi_list_tup {l : List D} : biD .list [.tup l] S = .ok (.ref S.length) (S ++ [l]) := rfl
theorem idx_tup {l : List D} {k : Int} {d : D} (h : L2.atI l k = some d) : idxR (.tup l) (.int k) S = .ok d S := by
  show (match L2.atI l k with | some d => R.ok d S | none => .bad) = _
  rw [h]
theorem idx_fz {l : List D} {k : Int} {d : D} (h : L2.atI l k = some d) : idxR (.fz l) (.int k) S = .ok d S := by
  show (match L2.atI l k with | some d => R.ok d S | none => .bad) = _
  rw [h]
theorem idx_ref {n : Nat} {l : List D} {k : Int} {d : D} (hn : S[n]? = some l) (h : L2.atI l k = some d) : idxR (.ref n) (.int k) S = .ok d S := by
  show (match S[n]? with | some l => (match L2.atI l k with | some d => R.ok d S | none => .bad) | none => .bad) = _
  rw [hn]
  show (match L2.atI l k with | some d => R.ok d S | none => .bad) = _
  rw [h]
theorem atI_nat {l : List D} {k : Nat} : L2.atI l (k : Int) = l[k]? := by
  unfold L2.atI L2.ixN
  rw [if_pos (by omega)]
  by_cases h : (k : Int) < (l.length : Int)
  · rw [if_pos h]; simp
  · rw [if_neg h]
    rw [List.getElem?_eq_none (by omega)]; rfl
theorem atI_last {l : List D} {d : D} : L2.atI (l ++ [d]) (-1) = some d := by
  unfold L2.atI L2.ixN
  rw [if_neg (by omega), if_pos (by simp; omega)]
  have e : (-1 + ((l ++ [d]).length : Int)).toNat = l.length := by simp; omega
  show (l ++ [d])[(-1 + ((l ++ [d]).length : Int)).toNat]? = some d
  rw [e]
  simp
@[simp] theorem idx_0 {a : D} {l : List D} : idxR (.tup (a :: l)) (.int 0) S = .ok a S := idx_tup (atI_nat (k := 0))
@[simp] theorem idx_1 {a b : D} {l : List D} : idxR (.tup (a :: b :: l)) (.int 1) S = .ok b S := idx_tup (atI_nat (k := 1))
theorem newT_ok {l : List D} (h : l.length ≤ PySem.sizeLine) : newT l S = .ok (.tup l) S := if_pos h
theorem newL_ok {l : List D} (h : l.length ≤ PySem.sizeLine) : newL l S = .ok (.ref S.length) (S ++ [l]) := if_pos h
theorem small {n : Nat} (h : n ≤ 16777216) : n ≤ PySem.sizeLine := h
@[simp] theorem newT_0 : newT [] S = .ok (.tup []) S := rfl
@[simp] theorem newT_1 {a : D} : newT [a] S = .ok (.tup [a]) S := newT_ok (small (by simp))
@[simp] theorem newT_2 {a b : D} : newT [a, b] S = .ok (.tup [a, b]) S := newT_ok (small (by simp))
@[simp] theorem newT_3 {a b c : D} : newT [a, b, c] S = .ok (.tup [a, b, c]) S := newT_ok (small (by simp))
@[simp] theorem newT_4 {a b c d : D} : newT [a, b, c, d] S = .ok (.tup [a, b, c, d]) S := newT_ok (small (by simp))
@[simp] theorem newT_5 {a b c d e : D} : newT [a, b, c, d, e] S = .ok (.tup [a, b, c, d, e]) S := newT_ok (small (by simp))
@[simp] theorem newT_6 {a b c d e f : D} : newT [a, b, c, d, e, f] S = .ok (.tup [a, b, c, d, e, f]) S := newT_ok (small (by simp))
@[simp] theorem newL_1 {a : D} : newL [a] S = .ok (.ref S.length) (S ++ [[a]]) := newL_ok (small (by simp))
@[simp] theorem newL_2 {a b : D} : newL [a, b] S = .ok (.ref S.length) (S ++ [[a, b]]) := newL_ok (small (by simp))
/-! ### the end of a call -/
theorem leave_same {d : D} : leave S d S = .ok d S := if_pos rfl
/-- lists made meanwhile are forgotten -/
theorem leave_drop {d : D} {S' : Store} (h : S'.take S.length = S) (hl : S.length ≤ S'.length) (c : d.closed S.length = true) : leave S d S' = .ok d S := by
  unfold leave
  split
  · rename_i e
    rw [← e, List.take_length] at h
    rw [h]
  · rw [if_pos]
    · rw [h]
    · simp only [Bool.and_eq_true, decide_eq_true_eq]
      refine ⟨hl, c, ?_⟩
      unfold cleanS
      rw [h, sbeq_refl]; rfl
@[simp] theorem end_rt_same {d : D} : endR S (.rt d S) = .ok d S := leave_same
@[simp] theorem end_nx_same : endR S (.nx env S) = .ok .non S := leave_same
theorem end_rt {d : D} {S' : Store} (h : S'.take S.length = S) (hl : S.length ≤ S'.length) (c : d.closed S.length = true) : endR S (.rt d S') = .ok d S := leave_drop h hl c
/-! ### loops, a turn at a time -/
theorem while_go {t : En → Store → R Bool} {body : En → Store → RS} {M : Nat} {env env' : En} {S S1 S' : Store} (ht : t env S = .ok true S1) (hb : body env S1 = .nx env' S') : whileLoop t body (M + 1) env S = whileLoop t body M env' S' := by
  show ((t env S).thenS env fun k S1 => if k then match body env S1 with
      | .nx e S' => whileLoop t body M e S'
      | .ct e S' => whileLoop t body M e S'
      | .bk e S' => .nx e S'
      | .rt v S' => .rt v S'
      | .ex c as e S' => .ex c as e S'
      | .bad => .bad
    else .nx env S1) = _
  rw [ht]
  simp only [R.thenS_ok, if_true, hb]
theorem while_end {t : En → Store → R Bool} {body : En → Store → RS} {M : Nat} {env : En} {S S1 : Store} (ht : t env S = .ok false S1) : whileLoop t body (M + 1) env S = .nx env S1 := by
  show ((t env S).thenS env fun k S1 => if k then match body env S1 with
      | .nx e S' => whileLoop t body M e S'
      | .ct e S' => whileLoop t body M e S'
      | .bk e S' => .nx e S'
      | .rt v S' => .rt v S'
      | .ex c as e S' => .ex c as e S'
      | .bad => .bad
    else .nx env S1) = _
  rw [ht]
  simp
theorem for_nil {dep : List (Nat × List D)} {tg : Tg} {body : En → Store → RS} {env : En} {S : Store} (hs : It.still S dep = true) : forLoop dep tg body [] env S = .nx env S := if_pos hs
theorem for_go {dep : List (Nat × List D)} {tg : Tg} {body : En → Store → RS} {d : D} {r : List D} {env env1 env2 : En} {S S2 : Store} (hs : It.still S dep = true) (hp : Tg.put S tg d env = some env1) (hb : body env1 S = .nx env2 S2) :
    forLoop dep tg body (d :: r) env S = forLoop dep tg body r env2 S2 := by
  show (if It.still S dep then match Tg.put S tg d env with
      | some env' => match body env' S with
        | .nx e S' => forLoop dep tg body r e S'
        | .ct e S' => forLoop dep tg body r e S'
        | .bk e S' => .nx e S'
        | .rt v S' => .rt v S'
        | .ex c as e S' => .ex c as e S'
        | .bad => .bad
      | none => .bad
    else .bad) = _
  rw [if_pos hs, hp]
  simp only [hb]
theorem for_rt {dep : List (Nat × List D)} {tg : Tg} {body : En → Store → RS} {d v : D} {r : List D} {env env1 : En} {S S2 : Store} (hs : It.still S dep = true) (hp : Tg.put S tg d env = some env1) (hb : body env1 S = .rt v S2) :
    forLoop dep tg body (d :: r) env S = .rt v S2 := by
  show (if It.still S dep then match Tg.put S tg d env with
      | some env' => match body env' S with
        | .nx e S' => forLoop dep tg body r e S'
        | .ct e S' => forLoop dep tg body r e S'
        | .bk e S' => .nx e S'
        | .rt v S' => .rt v S'
        | .ex c as e S' => .ex c as e S'
        | .bad => .bad
      | none => .bad
    else .bad) = _
  rw [if_pos hs, hp]
  simp only [hb]
/-! ### bounds -/
theorem bits_le {i : Int} {n : Nat} (h : i.natAbs < 2 ^ n) : PySem.Builtin.Int.intBits i ≤ n := by
  unfold PySem.Builtin.Int.intBits
  split
  · omega
  · rename_i h0
    have hi : i ≠ 0 := by simpa using h0
    have hne : i.natAbs ≠ 0 := by omega
    have := (Nat.log2_lt hne).mpr h
    omega
theorem mulOk_of {i j : Int} {a b : Nat} (h1 : i.natAbs < 2 ^ a) (h2 : j.natAbs < 2 ^ b) (h : a + b ≤ 134217728) : mulOk i j = true := by
  have := bits_le h1
  have := bits_le h2
  rw [mulOk_eq]
  exact decide_eq_true (by omega)
theorem divOk_of {i j : Int} (h : j.natAbs < 2 ^ 9000) : divOk i j = true := by
  unfold divOk PySem.Builtin.divisionGoesByPylong
  by_cases h0 : j = 0
  · subst h0; simp
  · have hl : j.natAbs.log2 < 9000 := (Nat.log2_lt (by omega)).mpr h
    have : ¬ (j.natAbs.log2 / 30 + 1 > 300) := by omega
    simp [h0, this]
end
end DL

end
section
set_option maxHeartbeats 1000000
/-! # DL: equality of ints and tuples of them -/
namespace DL
open PySem (Str PyData)
mutual
/-- ints, nested in tuples to a depth -/
def num : Nat → D → Bool
  | _, .int _ => true
  | n + 1, .tup l => nums n l
  | _, _ => false
def nums : Nat → List D → Bool
  | _, [] => true
  | n, d :: l => num n d && nums n l
end
mutual
def pd : D → PyData
  | .int i => .int i
  | .tup l => .tuple (pds l)
  | _ => .none
def pds : List D → List PyData
  | [] => []
  | d :: l => pd d :: pds l
end
mutual
theorem toP_num (S : Store) : ∀ (n : Nat) (d : D), num n d = true → toP S n d = some (pd d)
  | n, .int i, h => by cases n <;> rfl
  | n + 1, .tup l, h => by
    show (l.mapM (toP S n)).map PyData.tuple = _
    rw [toPs_num S n l h]; rfl
  | 0, .tup l, h => by cases h
  | 0, .non, h => by cases h
  | 0, .bl _, h => by cases h
  | 0, .str _, h => by cases h
  | 0, .fz _, h => by cases h
  | 0, .ref _, h => by cases h
  | n + 1, .non, h => by cases h
  | n + 1, .bl _, h => by cases h
  | n + 1, .str _, h => by cases h
  | n + 1, .fz _, h => by cases h
  | n + 1, .ref _, h => by cases h
theorem toPs_num (S : Store) : ∀ (n : Nat) (l : List D), nums n l = true → l.mapM (toP S n) = some (pds l)
  | n, [], h => rfl
  | n, d :: l, h => by
    have h : (num n d && nums n l) = true := h
    rw [Bool.and_eq_true] at h
    rw [List.mapM_cons, toP_num S n d h.1, toPs_num S n l h.2]; rfl
end
mutual
theorem can_num : ∀ (n : Nat) (d : D), num n d = true → (pd d).canLay0 = true
  | n, .int i, h => by simp [pd, PyData.canLay0]
  | n + 1, .tup l, h => by
    show (PyData.tuple (pds l)).canLay0 = true
    simp only [PyData.canLay0]
    exact cans_num n l h
  | 0, .tup l, h => by cases h
  | n, .non, h => by cases n <;> cases h
  | n, .bl _, h => by cases n <;> cases h
  | n, .str _, h => by cases n <;> cases h
  | n, .fz _, h => by cases n <;> cases h
  | n, .ref _, h => by cases n <;> cases h
theorem cans_num : ∀ (n : Nat) (l : List D), nums n l = true → PyData.canLayAll0 (pds l) = true
  | n, [], h => by simp [pds, PyData.canLayAll0]
  | n, d :: l, h => by
    have h : (num n d && nums n l) = true := h
    rw [Bool.and_eq_true] at h
    show PyData.canLayAll0 (pd d :: pds l) = true
    simp only [PyData.canLayAll0, Bool.and_eq_true]
    exact ⟨can_num n d h.1, cans_num n l h.2⟩
end
mutual
theorem dep_num : ∀ (n : Nat) (d : D), num n d = true → (pd d).depth ≤ n
  | n, .int i, h => by simp [pd, PyData.depth]
  | n + 1, .tup l, h => by
    show (PyData.tuple (pds l)).depth ≤ n + 1
    simp only [PyData.depth]
    have := deps_num n l h
    omega
  | 0, .tup l, h => by cases h
  | n, .non, h => by cases n <;> cases h
  | n, .bl _, h => by cases n <;> cases h
  | n, .str _, h => by cases n <;> cases h
  | n, .fz _, h => by cases n <;> cases h
  | n, .ref _, h => by cases n <;> cases h
theorem deps_num : ∀ (n : Nat) (l : List D), nums n l = true → PyData.depthAll (pds l) ≤ n
  | n, [], h => by simp [pds, PyData.depthAll]
  | n, d :: l, h => by
    have h : (num n d && nums n l) = true := h
    rw [Bool.and_eq_true] at h
    show PyData.depthAll (pd d :: pds l) ≤ n
    simp only [PyData.depthAll]
    have := dep_num n d h.1
    have := deps_num n l h.2
    omega
end
mutual
theorem eqv_num : ∀ (m n : Nat) (a b : D), num m a = true → num n b = true → PyData.eqv (pd a) (pd b) = D.beq a b
  | m, n, .int i, .int j, _, _ => by simp only [pd, PyData.eqv, D.beq]
  | m, n + 1, .int i, .tup l, _, _ => by simp only [pd, PyData.eqv, D.beq]
  | m + 1, n, .tup l, .int j, _, _ => by simp only [pd, PyData.eqv, D.beq]
  | m + 1, n + 1, .tup l, .tup k, h1, h2 => by
    simp only [pd, PyData.eqv, D.beq]
    exact eqvs_num m n l k h1 h2
  | 0, _, .tup l, _, h, _ => by cases h
  | _, 0, _, .tup l, _, h => by cases h
  | m, _, .non, _, h, _ => by cases m <;> cases h
  | m, _, .bl _, _, h, _ => by cases m <;> cases h
  | m, _, .str _, _, h, _ => by cases m <;> cases h
  | m, _, .fz _, _, h, _ => by cases m <;> cases h
  | m, _, .ref _, _, h, _ => by cases m <;> cases h
  | _, n, _, .non, _, h => by cases n <;> cases h
  | _, n, _, .bl _, _, h => by cases n <;> cases h
  | _, n, _, .str _, _, h => by cases n <;> cases h
  | _, n, _, .fz _, _, h => by cases n <;> cases h
  | _, n, _, .ref _, _, h => by cases n <;> cases h
theorem eqvs_num : ∀ (m n : Nat) (a b : List D), nums m a = true → nums n b = true → PyData.eqvAll (pds a) (pds b) = D.beqs a b
  | m, n, [], [], _, _ => by simp only [pds, PyData.eqvAll, D.beqs]
  | m, n, [], _ :: _, _, _ => by simp only [pds, PyData.eqvAll, D.beqs]
  | m, n, _ :: _, [], _, _ => by simp only [pds, PyData.eqvAll, D.beqs]
  | m, n, a :: as, b :: bs, h1, h2 => by
    have h1 : (num m a && nums m as) = true := h1
    have h2 : (num n b && nums n bs) = true := h2
    rw [Bool.and_eq_true] at h1 h2
    simp only [pds, PyData.eqvAll, D.beqs]
    rw [eqv_num m n a b h1.1 h2.1, eqvs_num m n as bs h1.2 h2.2]
end
theorem toPs_ok {S : Store} {d : D} (h : num 12 d = true) : toPs S d = some (pd d) := by
  unfold toPs
  rw [toP_num S 12 d h]
  have : PySem.SeqAt.shaped (pd d) = true := by
    unfold PySem.SeqAt.shaped
    rw [can_num 12 d h]
    have := dep_num 12 d h
    simp only [Bool.true_and, decide_eq_true_eq]
    omega
  simp only [this, if_true]
theorem eqD_num {S : Store} {a b : D} (h1 : num 12 a = true) (h2 : num 12 b = true) : eqD a b S = some (D.beq a b) := by
  unfold eqD
  rw [toPs_ok h1, toPs_ok h2]
  simp only [eqv_num 12 12 a b h1 h2]
/-- two lists -/
theorem toPs_list {S : Store} {n : Nat} {l : List D} (e : S[n]? = some l) (h : nums 11 l = true) : toPs S (.ref n) = some (.list (pds l)) := by
  have e1 : toP S 12 (.ref n) = some (.list (pds l)) := by
    show (match S[n]? with | some l => (l.mapM (toP S 11)).map PyData.list | none => none) = _
    rw [e]
    show (l.mapM (toP S 11)).map PyData.list = _
    rw [toPs_num S 11 l h]; rfl
  unfold toPs
  rw [e1]
  have : PySem.SeqAt.shaped (.list (pds l)) = true := by
    unfold PySem.SeqAt.shaped
    have h3 := deps_num 11 l h
    have h4 : PyData.depth (.list (pds l)) = PyData.depthAll (pds l) + 1 := by simp only [PyData.depth]
    have h5 : PyData.canLay0 (.list (pds l)) = true := by simp only [PyData.canLay0]; exact cans_num 11 l h
    rw [h4, h5, Bool.true_and]
    exact decide_eq_true (by omega)
  simp only [this, if_true]
theorem eqD_list {S : Store} {m n : Nat} {l k : List D} (e1 : S[m]? = some l) (e2 : S[n]? = some k) (h1 : nums 11 l = true) (h2 : nums 11 k = true) : eqD (.ref m) (.ref n) S = some (D.beqs l k) := by
  unfold eqD
  rw [toPs_list e1 h1, toPs_list e2 h2]
  simp only [PyData.eqv, eqvs_num 11 11 l k h1 h2]
/-! a truth value among truth values -/
theorem toP_bls (S : Store) (n : Nat) : ∀ bs : List Bool, (bs.map D.bl).mapM (toP S n) = some (bs.map PyData.bool)
  | [] => rfl
  | b :: bs => by
    have e : toP S n (.bl b) = some (.bool b) := by cases n <;> rfl
    rw [List.map_cons, List.mapM_cons, e, toP_bls S n bs]; rfl
theorem can_bls : ∀ bs : List Bool, PyData.canLayAll0 (bs.map PyData.bool) = true ∧ PyData.depthAll (bs.map PyData.bool) = 0
  | [] => by simp [PyData.canLayAll0, PyData.depthAll]
  | b :: bs => by simp [PyData.canLayAll0, PyData.depthAll, PyData.canLay0, PyData.depth, can_bls bs]
theorem in_bls {S : Store} {n : Nat} {bs : List Bool} (e : S[n]? = some (bs.map .bl)) (b : Bool) : inD (.bl b) (.ref n) S = some (bs.any (· == b)) := by
  have e1 : toP S 12 (.ref n) = some (.list (bs.map PyData.bool)) := by
    show (match S[n]? with | some l => (l.mapM (toP S 11)).map PyData.list | none => none) = _
    rw [e]
    show ((bs.map D.bl).mapM (toP S 11)).map PyData.list = _
    rw [toP_bls S 11 bs]; rfl
  have e2 : toPs S (.ref n) = some (.list (bs.map PyData.bool)) := by
    unfold toPs
    rw [e1]
    have : PySem.SeqAt.shaped (.list (bs.map PyData.bool)) = true := by
      unfold PySem.SeqAt.shaped
      simp only [PyData.canLay0, PyData.depth, can_bls bs, Bool.true_and, decide_eq_true_eq]
      omega
    simp only [this, if_true]
  have e3 : toPs S (.bl b) = some (.bool b) := by
    have : toP S 12 (.bl b) = some (.bool b) := rfl
    unfold toPs
    rw [this]
    have : PySem.SeqAt.shaped (.bool b) = true := by
      unfold PySem.SeqAt.shaped
      simp [PyData.canLay0, PyData.depth]
    simp only [this, if_true]
  show (match toPs S (.bl b), toPs S (.ref n) with
    | some d, some (.list ds) => some (ds.any fun z => PyData.eqv z d)
    | _, _ => none) = _
  rw [e2, e3]
  simp only [List.any_map]
  congr 1
end DL

end
section
set_option maxHeartbeats 1000000
set_option exponentiation.threshold 10000
/-! # DL: FRACTIONs -/
namespace DL
open PySem (Str)
section
variable {T : List Fn} {C : List D} {N k f : Nat} {S : Store}
theorem run_s {fn : Fn} {ds : List D} (h : T[f]? = some fn) (hk : 1 ≤ k) (hl : ds.length = fn.np) : run T C N k f ds S = endR S (execs (run T C N (k - 1)) C N fn.body (startD fn.nn ds) S) := by
  obtain ⟨j, rfl⟩ : ∃ j, k = j + 1 := ⟨k - 1, by omega⟩
  show (match T[f]? with
    | some fn => if ds.length = fn.np then endR S (execs (run T C N j) C N fn.body (startD fn.nn ds) S) else .bad
    | none => .bad) = _
  rw [h]
  exact if_pos hl
/-- a FRACTION as it stands in the text -/
def fr (q : Rat) : D := .tup [.int q.num, .int q.den]
def Sz (n : Nat) (q : Rat) : Prop := q.num.natAbs < 2 ^ n ∧ q.den < 2 ^ n
theorem fr_inj {p q : Rat} (h : fr p = fr q) : p = q := by
  simp only [fr, D.tup.injEq, List.cons.injEq, D.int.injEq, and_true] at h
  exact Rat.ext h.1 (by omega)
theorem Sz.mono {m n : Nat} {q : Rat} (h : Sz m q) (l : m ≤ n) : Sz n q :=
  ⟨Nat.lt_of_lt_of_le h.1 (Nat.pow_le_pow_right (by omega) l), Nat.lt_of_lt_of_le h.2 (Nat.pow_le_pow_right (by omega) l)⟩
theorem sz_norm {n : Nat} {a : Int} {d : Nat} (nz : d ≠ 0) (h1 : a.natAbs < 2 ^ n) (h2 : d < 2 ^ n) : Sz n (Rat.normalize a d nz) := by
  rw [Rat.normalize_eq]
  refine ⟨?_, Nat.lt_of_le_of_lt (Nat.div_le_self _ _) h2⟩
  show (a / ((a.natAbs.gcd d : Nat) : Int)).natAbs < 2 ^ n
  have hd : ((a.natAbs.gcd d : Nat) : Int) ∣ a := Int.ofNat_dvd_left.mpr (Nat.gcd_dvd_left _ _)
  rw [Int.natAbs_ediv_of_dvd hd]
  exact Nat.lt_of_le_of_lt (Nat.div_le_self _ _) h1
theorem lt_mul {a b x y : Nat} (h1 : x < 2 ^ a) (h2 : y < 2 ^ b) : x * y < 2 ^ (a + b) := by
  rw [Nat.pow_add]
  exact Nat.mul_lt_mul'' h1 h2
theorem abs_mul {a b : Nat} {x y : Int} (h1 : x.natAbs < 2 ^ a) (h2 : y.natAbs < 2 ^ b) : (x * y).natAbs < 2 ^ (a + b) := by
  rw [Int.natAbs_mul]; exact lt_mul h1 h2
theorem abs_add {a : Nat} {x y : Int} (h1 : x.natAbs < 2 ^ a) (h2 : y.natAbs < 2 ^ a) : (x + y).natAbs < 2 ^ (a + 1) := by
  rw [Nat.pow_succ]; omega
theorem nat_lt {a : Nat} {d : Nat} (h : d < 2 ^ a) : ((d : Int)).natAbs < 2 ^ a := by simpa using h
theorem Sz.add {a b : Nat} {x y : Rat} (hx : Sz a x) (hy : Sz b y) : Sz (a + b + 1) (x + y) := by
  rw [Rat.add_def]
  refine sz_norm _ (abs_add (abs_mul hx.1 (nat_lt hy.2)) ?_) ?_
  · have := abs_mul hy.1 (nat_lt hx.2)
    rw [Nat.add_comm b a] at this; exact this
  · exact Nat.lt_of_lt_of_le (lt_mul hx.2 hy.2) (Nat.pow_le_pow_right (by omega) (by omega))
theorem Sz.mul {a b : Nat} {x y : Rat} (hx : Sz a x) (hy : Sz b y) : Sz (a + b) (x * y) := by
  rw [Rat.mul_def]
  exact sz_norm _ (abs_mul hx.1 hy.1) (lt_mul hx.2 hy.2)
theorem sz_zero : Sz 1 0 := ⟨by decide, by decide⟩
theorem sz_one : Sz 1 1 := ⟨by decide, by decide⟩
/-! ### is_whole .. -/
def fnIsWhole : Fn := ⟨1, 1, [(.ret (.and_ (.isi (.var 0) [.int]) (.nt (.isi (.var 0) [.bool]))))]⟩
theorem isWhole_int (h : T[f]? = some fnIsWhole) (hk : 1 ≤ k) (i : Int) : run T C N k f [.int i] S = .ok (.bl true) S := by
  rw [run_s h hk rfl]; simp [fnIsWhole, startD, isTy]
def fnIsTupleOf : Fn := ⟨3, 3, [(.ret (.and_ (.isi (.var 0) [.tuple]) (.cmp2 .le .le (.var 1) (.bi .len [(.var 0)]) (.var 2))))]⟩
theorem isTupleOf_tup (h : T[f]? = some fnIsTupleOf) (hk : 1 ≤ k) (l : List D) (i j : Int) (h1 : i ≤ l.length) (h2 : (l.length : Int) ≤ j) : run T C N k f [.tup l, .int i, .int j] S = .ok (.bl true) S := by
  rw [run_s h hk rfl]; simp [fnIsTupleOf, startD, isTy, h1, h2]
def fnIsFraction (w t : Nat) : Fn := ⟨1, 1, [(.ite (.or_ (.nt (.call t [(.var 0), (.int 2), (.int 2)])) (.or_ (.nt (.call w [(.idx (.var 0) (.int 0))])) (.nt (.call w [(.idx (.var 0) (.int 1))])))) [(.ret (.bl false))] []), (.ret (.and_ (.cmp .gt (.idx (.var 0) (.int 1)) (.int 0)) (.cmp .eq (.bi .gcd [(.idx (.var 0) (.int 0)), (.idx (.var 0) (.int 1))]) (.int 1))))]⟩
theorem eqD_int {i j : Int} : eqD (.int i) (.int j) S = some (decide (i = j)) := by
  rw [eqD_num rfl rfl]
  show some (i == j) = some (decide (i = j))
  congr 1
@[simp] theorem cmp_eq_int {i j : Int} : cmpR .eq (.int i) (.int j) S = .ok (.bl (decide (i = j))) S := cmp_eq eqD_int
@[simp] theorem cmp_ne_int {i j : Int} : cmpR .ne (.int i) (.int j) S = .ok (.bl !(decide (i = j))) S := cmp_ne eqD_int
theorem num_fr (n : Nat) (q : Rat) : num (n + 1) (fr q) = true := by cases n <;> rfl
theorem nums_fr (n : Nat) : ∀ p : List Rat, nums (n + 1) (p.map fr) = true
  | [] => rfl
  | q :: p => by show (num (n + 1) (fr q) && nums (n + 1) (p.map fr)) = true; rw [num_fr, nums_fr n p]; rfl
theorem beq_fr (p q : Rat) : D.beq (fr p) (fr q) = decide (p = q) := by
  by_cases h : p = q
  · subst h; rw [D.beq_refl, decide_eq_true rfl]
  · rw [decide_eq_false h]
    cases e : D.beq (fr p) (fr q) with
    | false => rfl
    | true => exact absurd (fr_inj (D.beq_eq e)) h
theorem eqD_fr {p q : Rat} : eqD (fr p) (fr q) S = some (decide (p = q)) := by
  rw [eqD_num (num_fr 11 p) (num_fr 11 q), beq_fr]
theorem isFraction_fr {w t : Nat} (h : T[f]? = some (fnIsFraction w t)) (hw : T[w]? = some fnIsWhole) (ht : T[t]? = some fnIsTupleOf) (hk : 2 ≤ k) (q : Rat) : run T C N k f [fr q] S = .ok (.bl true) S := by
  rw [run_s h (by omega) rfl]
  have h1 := isTupleOf_tup (C := C) (N := N) (S := S) (k := k - 1) ht (by omega) [.int q.num, .int q.den] 2 2 (by simp) (by simp)
  have h2 := fun i => isWhole_int (C := C) (N := N) (S := S) (k := k - 1) hw (by omega) i
  have h3 : 0 < q.den := q.den_pos
  have h4 : Nat.gcd q.num.natAbs q.den = 1 := q.reduced
  simp [fnIsFraction, startD, fr, h1, h2, h3, h4]
/-! ### a list of values, each by itself -/
theorem lc_pure {α : Type} {n : Nat} {el : En → Store → R D} {tt : En → Store → R Bool} {tg : Tg} {env : En} (fi g : α → D) : ∀ (l : List α) (acc : List D) (S : Store), S[n]? = some acc → acc.length + l.length ≤ PySem.sizeLine →
    (∀ d ∈ l, ∀ S', ∃ env', Tg.put S' tg (fi d) env = some env' ∧ (∀ S'', tt env' S'' = .ok true S'') ∧ ∀ S'', el env' S'' = .ok (g d) S'') → lcLoop n [] el tt tg env (l.map fi) S = .ok (.ref n) (S.set n (acc ++ l.map g))
  | [], acc, S, e, hl, h => by
    show (if It.still S [] then R.ok (D.ref n) S else .bad) = _
    have : S.set n acc = S := by
      obtain ⟨hn, e'⟩ := List.getElem?_eq_some_iff.mp e
      rw [← e', List.set_getElem_self]
    simp [this]
  | d :: l, acc, S, e, hl, h => by
    obtain ⟨env', e1, e2, e3⟩ := h d List.mem_cons_self S
    have hn : n < S.length := (List.getElem?_eq_some_iff.mp e).1
    have ih := lc_pure (n := n) (el := el) (tt := tt) (tg := tg) (env := env) fi g l (acc ++ [g d]) (setAt S n (acc ++ [g d])) (by simp [setAt, hn]) (by simp only [List.length_append, List.length_cons, List.length_nil] at hl ⊢; omega) fun d' hd' => h d' (List.mem_cons_of_mem _ hd')
    simp only [setAt] at ih
    have hl2 : acc.length < PySem.sizeLine := by simp only [List.length_cons] at hl; omega
    show (if It.still S [] then (match Tg.put S tg (fi d) env with
      | some env' => (match tt env' S with
        | .ok true S1 => (match el env' S1 with
          | .ok y S2 => (match S2[n]? with
            | some acc => if acc.length < PySem.sizeLine then lcLoop n [] el tt tg env (l.map fi) (setAt S2 n (acc ++ [y])) else .bad
            | _ => .bad)
          | _ => .bad)
        | .ok false S1 => lcLoop n [] el tt tg env (l.map fi) S1
        | _ => .bad)
      | none => .bad) else .bad) = _
    rw [e1]
    simp only [still_nil, if_true, e2, e3, e, hl2, setAt]
    rw [ih]
    simp
theorem ev_lcp {α : Type} {F : Nat → List D → Store → R D} {el : Ex} {tg : Tg} {it : Ex} {own : List Nat} {env : En} {S1 : Store} {l : List α} (fi g : α → D) (hi : evi F C it env S = .ok ⟨l.map fi, []⟩ S1) (hl : l.length ≤ PySem.sizeLine)
    (h : ∀ d ∈ l, ∀ S', ∃ env', Tg.put S' tg (fi d) (wipeD env own) = some env' ∧ ∀ S'', ev F C el env' S'' = .ok (g d) S'') : ev F C (.lc el tg it [] own) env S = .ok (.ref S1.length) (S1 ++ [l.map g]) := by
  rw [ev_lc, hi]
  have := lc_pure (n := S1.length) (el := fun env' S' => ev F C el env' S') (tt := fun env' S' => evt F C [] env' S') (tg := tg) (env := wipeD env own) fi g l [] (S1 ++ [[]]) (by simp) (by simpa using hl) fun d hd S' => let ⟨e, h1, h2⟩ := h d hd S'; ⟨e, h1, fun _ => rfl, h2⟩
  simp only [R.bind_ok]
  rw [this]
  simp
theorem allBl_map : ∀ bs : List Bool, allBl (bs.map .bl) = some bs
  | [] => rfl
  | b :: bs => by show (allBl (bs.map .bl)).map (b :: ·) = _; rw [allBl_map bs]; rfl
theorem bi_all_ref {n : Nat} {bs : List Bool} (h : S[n]? = some (bs.map .bl)) : biD .all [.ref n] S = .ok (.bl (bs.all id)) S := by
  show (match (S[n]?).bind allBl with | some l => R.ok (D.bl (l.all id)) S | none => .bad) = _
  rw [h]
  show (match allBl (bs.map .bl) with | some l => R.ok (D.bl (l.all id)) S | none => .bad) = _
  rw [allBl_map]
/-- a POLY, a row of FRACTIONs -/
def pl (p : List Rat) : D := .tup (p.map fr)
def fnAreFractions (t i : Nat) : Fn := ⟨3, 4, [(.ret (.and_ (.call t [(.var 0), (.var 1), (.var 2)]) (.bi .all [(.lc (.call i [(.var 3)]) (.name 3) (.seq (.var 0)) [] [3])])))]⟩
theorem areFractions_pl {t i w : Nat} (h : T[f]? = some (fnAreFractions t i)) (ht : T[t]? = some fnIsTupleOf) (hi : T[i]? = some (fnIsFraction w t)) (hw : T[w]? = some fnIsWhole) (hk : 3 ≤ k) (p : List Rat) (lo hi' : Int) (h1 : lo ≤ p.length) (h2 : (p.length : Int) ≤ hi') (h3 : p.length ≤ PySem.sizeLine) :
    run T C N k f [pl p, .int lo, .int hi'] S = .ok (.bl true) S := by
  rw [run_s h (by omega) rfl]
  have e1 := isTupleOf_tup (C := C) (N := N) (S := S) (k := k - 1) ht (by omega) (p.map fr) lo hi' (by simpa using h1) (by simpa using h2)
  have e2 := fun S q => isFraction_fr (C := C) (N := N) (S := S) (k := k - 1) hi hw ht (by omega) q
  have e4 : biD .all [.ref S.length] (S ++ [p.map fun _ => D.bl true]) = .ok (.bl true) (S ++ [p.map fun _ => D.bl true]) := by
    rw [bi_all_ref (bs := p.map fun _ => true) (by simp [List.map_map, Function.comp_def])]
    simp
  simp only [fnAreFractions, startD, pl] at *
  have e3 : ev (run T C N (k - 1)) C (.lc (.call i [.var 3]) (.name 3) (.seq (.var 0)) [] [3]) [some (.tup (p.map fr)), some (.int lo), some (.int hi'), none] S = .ok (.ref S.length) (S ++ [p.map fun _ => .bl true]) :=
    ev_lcp fr (fun _ => .bl true) (by simp) h3 fun d hd S' => ⟨_, rfl, fun S'' => by simp [e2]⟩
  simp [e1, e3, e4]
  exact end_rt (by simp) (by simp) rfl
/-! ### fraction, whole, plus, times -/
def fnFraction : Fn := ⟨2, 3, [(.asg (.name 2) (.bi .gcd [(.var 0), (.var 1)])), (.ret (.ife (.cmp .gt (.var 1) (.int 0)) (.tup [(.bin .fdiv (.var 0) (.var 2)), (.bin .fdiv (.var 1) (.var 2))]) (.tup [(.bin .fdiv (.neg (.var 0)) (.var 2)), (.bin .fdiv (.neg (.var 1)) (.var 2))])))]⟩
theorem gcd_pos {a : Int} {d : Nat} (nz : d ≠ 0) : 0 < Nat.gcd a.natAbs d := Nat.gcd_pos_of_pos_right _ (by omega)
theorem fraction_pos (h : T[f]? = some fnFraction) (hk : 1 ≤ k) (a : Int) (d : Nat) (nz : d ≠ 0) (hd : d < 2 ^ 9000) : run T C N k f [.int a, .int d] S = .ok (fr (Rat.normalize a d nz)) S := by
  rw [run_s h hk rfl]
  have hg := gcd_pos (a := a) nz
  have hle : Nat.gcd a.natAbs d ≤ d := Nat.le_of_dvd (by omega) (Nat.gcd_dvd_right _ _)
  have hdk : ∀ i : Int, divOk i ((Nat.gcd a.natAbs d : Nat) : Int) = true := fun i => divOk_of (by simpa using Nat.lt_of_le_of_lt hle hd)
  have hz : ((Nat.gcd a.natAbs d : Nat) : Int) ≠ 0 := by omega
  have hp : 0 < d := by omega
  have e : ∀ i : Int, opD .fdiv (.int i) (.int ((Nat.gcd a.natAbs d : Nat) : Int)) S = .ok (.int (i / ((Nat.gcd a.natAbs d : Nat) : Int))) S := fun i => by
    rw [op_div hz (hdk i), Int.fdiv_eq_ediv_of_nonneg _ (by omega)]
  simp [fnFraction, startD, hp, e, fr, Rat.normalize_eq]
/-- g(a, d) is the FRACTION a over d -/
def FracS (T : List Fn) (C : List D) (N k g : Nat) : Prop := ∀ (a : Int) (d : Nat) (nz : d ≠ 0) (S : Store), a.natAbs < 2 ^ 9001 → d < 2 ^ 9000 → run T C N k g [.int a, .int d] S = .ok (fr (Rat.normalize a d nz)) S
theorem fraction_frac (h : T[f]? = some fnFraction) (hk : 1 ≤ k) : FracS T C N k f := fun a d nz S _ hd => fraction_pos h hk a d nz hd
def fnWhole : Fn := ⟨1, 1, [(.ret (.tup [(.var 0), (.int 1)]))]⟩
theorem whole_int (h : T[f]? = some fnWhole) (hk : 1 ≤ k) (i : Int) : run T C N k f [.int i] S = .ok (fr i) S := by
  rw [run_s h hk rfl]
  simp [fnWhole, startD, fr]
def fnPlus (g : Nat) : Fn := ⟨2, 2, [(.ret (.call g [(.bin .add (.bin .mul (.idx (.var 0) (.int 0)) (.idx (.var 1) (.int 1))) (.bin .mul (.idx (.var 1) (.int 0)) (.idx (.var 0) (.int 1)))), (.bin .mul (.idx (.var 0) (.int 1)) (.idx (.var 1) (.int 1)))]))]⟩
theorem plus_fr {g a b : Nat} (h : T[f]? = some (fnPlus g)) (hg : FracS T C N (k - 1) g) (hk : 1 ≤ k) {x y : Rat} (hx : Sz a x) (hy : Sz b y) (hab : a + b ≤ 9000) : run T C N k f [fr x, fr y] S = .ok (fr (x + y)) S := by
  rw [run_s h (by omega) rfl]
  have m1 : mulOk x.num y.den = true := mulOk_of hx.1 (nat_lt hy.2) (by omega)
  have m2 : mulOk y.num x.den = true := mulOk_of hy.1 (nat_lt hx.2) (by omega)
  have m3 : mulOk x.den y.den = true := mulOk_of (nat_lt hx.2) (nat_lt hy.2) (by omega)
  have hd : x.den * y.den < 2 ^ 9000 := Nat.lt_of_lt_of_le (lt_mul hx.2 hy.2) (Nat.pow_le_pow_right (by omega) hab)
  have nz : x.den * y.den ≠ 0 := Nat.mul_ne_zero x.den_nz y.den_nz
  have ha : (x.num * y.den + y.num * x.den).natAbs < 2 ^ 9001 := by
    have h1 := abs_mul hx.1 (nat_lt hy.2)
    have h2 := abs_mul hy.1 (nat_lt hx.2)
    rw [Nat.add_comm b a] at h2
    exact Nat.lt_of_lt_of_le (abs_add h1 h2) (Nat.pow_le_pow_right (by omega) (by omega))
  have e := hg (x.num * y.den + y.num * x.den) (x.den * y.den) nz S ha hd
  rw [← Rat.add_def, Int.natCast_mul] at e
  simp [fnPlus, startD, fr, op_mul, m1, m2, m3]
  rw [← fr, e]
  simp [fr]
def fnTimes (g : Nat) : Fn := ⟨2, 2, [(.ret (.call g [(.bin .mul (.idx (.var 0) (.int 0)) (.idx (.var 1) (.int 0))), (.bin .mul (.idx (.var 0) (.int 1)) (.idx (.var 1) (.int 1)))]))]⟩
theorem times_fr {g a b : Nat} (h : T[f]? = some (fnTimes g)) (hg : FracS T C N (k - 1) g) (hk : 1 ≤ k) {x y : Rat} (hx : Sz a x) (hy : Sz b y) (hab : a + b ≤ 9000) : run T C N k f [fr x, fr y] S = .ok (fr (x * y)) S := by
  rw [run_s h (by omega) rfl]
  have m1 : mulOk x.num y.num = true := mulOk_of hx.1 hy.1 (by omega)
  have m3 : mulOk x.den y.den = true := mulOk_of (nat_lt hx.2) (nat_lt hy.2) (by omega)
  have hd : x.den * y.den < 2 ^ 9000 := Nat.lt_of_lt_of_le (lt_mul hx.2 hy.2) (Nat.pow_le_pow_right (by omega) hab)
  have nz : x.den * y.den ≠ 0 := Nat.mul_ne_zero x.den_nz y.den_nz
  have ha : (x.num * y.num).natAbs < 2 ^ 9001 := Nat.lt_of_lt_of_le (abs_mul hx.1 hy.1) (Nat.pow_le_pow_right (by omega) (by omega))
  have e := hg (x.num * y.num) (x.den * y.den) nz S ha hd
  rw [← Rat.mul_def, Int.natCast_mul] at e
  simp [fnTimes, startD, fr, op_mul, m1, m3]
  rw [e]
  simp [fr]
end
end DL

end
section
set_option maxHeartbeats 1000000
/-! # DL: POLYs as rows of numbers, no program in sight -/
namespace DL
/-- the number at a power -/
def cf (p : List Rat) (i : Nat) : Rat := p.getD i 0
theorem cf_lt {p : List Rat} {i : Nat} (h : i < p.length) : cf p i = p[i] := by simp [cf, List.getD, h]
theorem cf_ge {p : List Rat} {i : Nat} (h : p.length ≤ i) : cf p i = 0 := by simp [cf, List.getD, h]
@[simp] theorem cf_nil {i : Nat} : cf [] i = 0 := cf_ge (Nat.zero_le _)
@[simp] theorem cf_cons_zero {a : Rat} {p : List Rat} : cf (a :: p) 0 = a := rfl
@[simp] theorem cf_cons_succ {a : Rat} {p : List Rat} {i : Nat} : cf (a :: p) (i + 1) = cf p i := rfl
theorem cf_map_range {f : Nat → Rat} {n i : Nat} : cf ((List.range n).map f) i = if i < n then f i else 0 := by
  by_cases h : i < n
  · rw [if_pos h, cf_lt (by simpa using h)]; simp
  · rw [if_neg h, cf_ge (by simpa using h)]
theorem cf_set {p : List Rat} {k i : Nat} {x : Rat} (h : k < p.length) : cf (p.set k x) i = if i = k then x else cf p i := by
  by_cases e : i = k
  · subst e
    rw [if_pos rfl, cf_lt (by simpa using h)]; simp
  · rw [if_neg e]
    by_cases hi : i < p.length
    · rw [cf_lt (by simpa using hi), cf_lt hi]
      simp [List.getElem_set, Ne.symm e]
    · rw [cf_ge (by simpa using hi), cf_ge (by simpa using hi)]
theorem cf_rep {n i : Nat} : cf (List.replicate n 0) i = 0 := by
  by_cases h : i < n
  · rw [cf_lt (by simpa using h)]; simp
  · rw [cf_ge (by simpa using h)]
theorem cf_append_zero {p : List Rat} {n i : Nat} : cf (p ++ List.replicate n 0) i = cf p i := by
  by_cases h : i < p.length
  · rw [cf_lt (by simp; omega), cf_lt h, List.getElem_append_left h]
  · rw [cf_ge (p := p) (by omega)]
    by_cases h2 : i < p.length + n
    · rw [cf_lt (by simp; omega), List.getElem_append_right (by omega)]; simp
    · rw [cf_ge (by simp; omega)]
/-- noughts behind are let go -/
def tlen (p : List Rat) : Nat → Nat
  | 0 => 0
  | s + 1 => if cf p s = 0 then tlen p s else s + 1
def trim (p : List Rat) : List Rat := p.take (tlen p p.length)
theorem tlen_le (p : List Rat) : ∀ s, tlen p s ≤ s
  | 0 => Nat.le_refl _
  | s + 1 => by
    unfold tlen
    split
    · exact Nat.le_trans (tlen_le p s) (Nat.le_succ s)
    · exact Nat.le_refl _
theorem tlen_zero (p : List Rat) : ∀ s i, tlen p s ≤ i → i < s → cf p i = 0
  | 0, i, _, h => absurd h (Nat.not_lt_zero _)
  | s + 1, i, h1, h2 => by
    unfold tlen at h1
    split at h1
    · rename_i h0
      by_cases e : i = s
      · subst e; exact h0
      · exact tlen_zero p s i h1 (by omega)
    · omega
theorem tlen_last (p : List Rat) : ∀ s, tlen p s ≠ 0 → cf p (tlen p s - 1) ≠ 0
  | 0, h => absurd rfl h
  | s + 1, h => by
    unfold tlen at h ⊢
    split
    · rename_i h0
      rw [if_pos h0] at h
      exact tlen_last p s h
    · rename_i h0
      exact h0
theorem trim_len (p : List Rat) : (trim p).length = tlen p p.length := by
  unfold trim
  rw [List.length_take]
  have := tlen_le p p.length
  omega
theorem cf_trim (p : List Rat) (i : Nat) : cf (trim p) i = cf p i := by
  by_cases h : i < tlen p p.length
  · rw [cf_lt (by rw [trim_len]; exact h), cf_lt (Nat.lt_of_lt_of_le h (tlen_le p _))]
    simp [trim]
  · rw [cf_ge (by rw [trim_len]; omega)]
    by_cases h2 : i < p.length
    · exact (tlen_zero p _ i (by omega) h2).symm
    · exact (cf_ge (by omega)).symm
/-- no nought behind -/
def Nm (p : List Rat) : Prop := p = [] ∨ cf p (p.length - 1) ≠ 0
theorem nm_trim (p : List Rat) : Nm (trim p) := by
  by_cases h : tlen p p.length = 0
  · left
    exact List.length_eq_zero_iff.mp (by rw [trim_len]; exact h)
  · right
    rw [cf_trim, trim_len]
    exact tlen_last p _ h
theorem nm_nil : Nm [] := .inl rfl
theorem len_le_of_cf {p : List Rat} {n : Nat} (h : Nm p) (hz : ∀ i, n ≤ i → cf p i = 0) : p.length ≤ n := by
  rcases h with h | h
  · rw [h]; exact Nat.zero_le _
  · by_cases c : p.length ≤ n
    · exact c
    · exact absurd (hz (p.length - 1) (by omega)) h
/-- such rows are told apart by their numbers -/
theorem nm_ext {p q : List Rat} (hp : Nm p) (hq : Nm q) (h : ∀ i, cf p i = cf q i) : p = q := by
  have l1 : p.length ≤ q.length := len_le_of_cf hp fun i hi => by rw [h, cf_ge hi]
  have l2 : q.length ≤ p.length := len_le_of_cf hq fun i hi => by rw [← h, cf_ge hi]
  refine List.ext_getElem (by omega) fun i h1 h2 => ?_
  have := h i
  rwa [cf_lt h1, cf_lt h2] at this
theorem trim_eq {p q : List Rat} (hq : Nm q) (h : ∀ i, cf p i = cf q i) : trim p = q := nm_ext (nm_trim p) hq fun i => by rw [cf_trim, h]
theorem trim_cong {p q : List Rat} (h : ∀ i, cf p i = cf q i) : trim p = trim q := nm_ext (nm_trim p) (nm_trim q) fun i => by rw [cf_trim, cf_trim, h]
theorem mem_cf {p : List Rat} {c : Rat} (h : c ∈ p) : ∃ i, i < p.length ∧ c = cf p i := by
  obtain ⟨i, hi, e⟩ := List.mem_iff_getElem.mp h
  exact ⟨i, hi, by rw [cf_lt hi, e]⟩
/-! ### sums and products of the numbers' rows -/
def lin (p q : List Rat) (c : Rat) : List Rat := trim ((List.range (max p.length q.length)).map fun i => cf p i + c * cf q i)
theorem cf_lin (p q : List Rat) (c : Rat) (i : Nat) : cf (lin p q c) i = cf p i + c * cf q i := by
  unfold lin
  rw [cf_trim, cf_map_range]
  split
  · rfl
  · rw [cf_ge (p := p) (by omega), cf_ge (p := q) (by omega)]; grind
def sh (f : Nat → Rat) : Nat → Rat := fun i => f (i + 1)
def cv (f g : Nat → Rat) : Nat → Rat
  | 0 => f 0 * g 0
  | k + 1 => f 0 * g (k + 1) + cv (sh f) g k
theorem cv_cong {f f' g g' : Nat → Rat} (h1 : ∀ i, f i = f' i) (h2 : ∀ i, g i = g' i) (k : Nat) : cv f g k = cv f' g' k := by
  rw [show f = f' from funext h1, show g = g' from funext h2]
theorem cv_add_left : ∀ (k : Nat) (f f' g : Nat → Rat), cv (fun i => f i + f' i) g k = cv f g k + cv f' g k
  | 0, f, f', g => by simp only [cv]; grind
  | k + 1, f, f', g => by
    simp only [cv]
    rw [show sh (fun i => f i + f' i) = fun i => sh f i + sh f' i from rfl, cv_add_left k (sh f) (sh f') g]
    grind
theorem cv_smul_left : ∀ (k : Nat) (c : Rat) (f g : Nat → Rat), cv (fun i => c * f i) g k = c * cv f g k
  | 0, c, f, g => by simp only [cv]; grind
  | k + 1, c, f, g => by
    simp only [cv]
    rw [show sh (fun i => c * f i) = fun i => c * sh f i from rfl, cv_smul_left k c (sh f) g]
    grind
theorem cv_end : ∀ (k : Nat) (f g : Nat → Rat), cv f g (k + 1) = cv f (sh g) k + f (k + 1) * g 0
  | 0, f, g => by simp only [cv, sh]
  | k + 1, f, g => by
    rw [cv, cv_end k (sh f) g, cv]
    simp only [sh]
    grind
theorem cv_comm : ∀ (k : Nat) (f g : Nat → Rat), cv f g k = cv g f k
  | 0, f, g => by simp only [cv]; grind
  | k + 1, f, g => by rw [cv_end, cv, cv_comm k f (sh g)]; grind
theorem cv_assoc : ∀ (k : Nat) (f g h : Nat → Rat), cv (cv f g) h k = cv f (cv g h) k
  | 0, f, g, h => by simp only [cv]; grind
  | k + 1, f, g, h => by
    have e : sh (cv f g) = fun i => f 0 * sh g i + cv (sh f) g i := by
      funext i
      show cv f g (i + 1) = _
      simp only [cv, sh]
    have e2 : cv (cv f g) h (k + 1) = cv f g 0 * h (k + 1) + cv (sh (cv f g)) h k := rfl
    have e3 : cv f (cv g h) (k + 1) = f 0 * cv g h (k + 1) + cv (sh f) (cv g h) k := rfl
    have e4 : cv g h (k + 1) = g 0 * h (k + 1) + cv (sh g) h k := rfl
    have e5 : cv f g 0 = f 0 * g 0 := rfl
    rw [e2, e, cv_add_left k (fun i => f 0 * sh g i) (cv (sh f) g) h, cv_smul_left, cv_assoc k (sh f) g h, e3, e4, e5]
    grind
theorem cv_zero_left : ∀ (k : Nat) (g : Nat → Rat), cv (fun _ => 0) g k = 0
  | 0, g => by simp only [cv]; grind
  | k + 1, g => by simp only [cv]; rw [show sh (fun _ => (0 : Rat)) = fun _ => 0 from rfl, cv_zero_left k g]; grind
/-- beyond both ends it is nought -/
theorem cv_far : ∀ (m n k : Nat) (f g : Nat → Rat), (∀ i, m ≤ i → f i = 0) → (∀ i, n ≤ i → g i = 0) → m + n ≤ k + 1 → cv f g k = 0
  | 0, n, k, f, g, hf, hg, h => by
    rw [show f = fun _ => 0 from funext fun i => hf i (Nat.zero_le _)]
    exact cv_zero_left k g
  | m + 1, n, 0, f, g, hf, hg, h => by
    have : m = 0 ∧ n = 0 := by omega
    simp only [cv]
    rw [hg 0 (by omega)]; grind
  | m + 1, n, k + 1, f, g, hf, hg, h => by
    simp only [cv]
    rw [hg (k + 1) (by omega), cv_far m n k (sh f) g (fun i hi => hf (i + 1) (by omega)) hg (by omega)]; grind
/-- at the top -/
theorem cv_top : ∀ (m n : Nat) (f g : Nat → Rat), (∀ i, m < i → f i = 0) → (∀ i, n < i → g i = 0) → cv f g (m + n) = f m * g n
  | 0, n, f, g, hf, hg => by
    cases n with
    | zero => rfl
    | succ n =>
      rw [Nat.zero_add]
      simp only [cv]
      rw [show sh f = fun _ => 0 from funext fun i => hf (i + 1) (by omega), cv_zero_left]; grind
  | m + 1, n, f, g, hf, hg => by
    have e : m + 1 + n = (m + n) + 1 := by omega
    rw [e]
    simp only [cv]
    rw [cv_top m n (sh f) g (fun i hi => hf (i + 1) (by omega)) hg, hg (m + n + 1) (by omega)]
    simp only [sh]; grind
def pmul (p q : List Rat) : List Rat := trim ((List.range (p.length + q.length)).map (cv (cf p) (cf q)))
theorem cf_pmul (p q : List Rat) (i : Nat) : cf (pmul p q) i = cv (cf p) (cf q) i := by
  unfold pmul
  rw [cf_trim, cf_map_range]
  split
  · rfl
  · exact (cv_far p.length q.length i _ _ (fun i hi => cf_ge hi) (fun i hi => cf_ge hi) (by omega)).symm
theorem nm_lin (p q : List Rat) (c : Rat) : Nm (lin p q c) := nm_trim _
theorem nm_pmul (p q : List Rat) : Nm (pmul p q) := nm_trim _
theorem pmul_assoc (p q r : List Rat) : pmul (pmul p q) r = pmul p (pmul q r) := nm_ext (nm_pmul _ _) (nm_pmul _ _) fun i => by
  rw [cf_pmul, cf_pmul, cv_cong (cf_pmul p q) (fun _ => rfl), cv_assoc]
  exact cv_cong (fun _ => rfl) (fun i => (cf_pmul q r i).symm) i
theorem lin_mul (p q r : List Rat) (c : Rat) : pmul (lin p q c) r = lin (pmul p r) (pmul q r) c := nm_ext (nm_pmul _ _) (nm_lin _ _ _) fun i => by
  rw [cf_pmul, cf_lin, cf_pmul, cf_pmul, cv_cong (cf_lin p q c) (fun _ => rfl), cv_add_left i (cf p) (fun j => c * cf q j), cv_smul_left]
theorem pmul_nil (p : List Rat) : pmul p [] = [] := trim_eq nm_nil fun i => by
  rw [cf_map_range, cf_nil]
  split
  · rw [cv_comm, show cf [] = fun _ => (0 : Rat) from funext fun _ => cf_nil, cv_zero_left]
  · rfl
theorem pmul_one (p : List Rat) (h : Nm p) : pmul [1] p = p := nm_ext (nm_pmul _ _) h fun i => by
  rw [cf_pmul]
  cases i with
  | zero => simp only [cv, cf_cons_zero]; grind
  | succ i =>
    simp only [cv, cf_cons_zero]
    rw [show sh (cf [1]) = fun _ => 0 from funext fun i => rfl, cv_zero_left]; grind
theorem pmul_len {p q : List Rat} (hp : Nm p) (hq : Nm q) (h1 : p ≠ []) (h2 : q ≠ []) : (pmul p q).length + 1 = p.length + q.length := by
  have l1 : p.length ≠ 0 := fun e => h1 (List.length_eq_zero_iff.mp e)
  have l2 : q.length ≠ 0 := fun e => h2 (List.length_eq_zero_iff.mp e)
  have ht := cv_top (p.length - 1) (q.length - 1) (cf p) (cf q) (fun i hi => cf_ge (by omega)) (fun i hi => cf_ge (by omega))
  have hne : cf (pmul p q) (p.length - 1 + (q.length - 1)) ≠ 0 := by
    rw [cf_pmul, ht]
    intro e
    rcases Rat.mul_eq_zero.mp e with e | e
    · exact hp.resolve_left h1 e
    · exact hq.resolve_left h2 e
  have a : (pmul p q).length ≤ p.length + q.length - 1 := len_le_of_cf (nm_pmul p q) fun i hi => by
    rw [cf_pmul]
    exact cv_far p.length q.length i _ _ (fun i hi => cf_ge hi) (fun i hi => cf_ge hi) (by omega)
  have b : p.length - 1 + (q.length - 1) < (pmul p q).length := by
    by_cases c : p.length - 1 + (q.length - 1) < (pmul p q).length
    · exact c
    · exact absurd (cf_ge (by omega)) hne
  omega
/-! ### worths -/
def worth : List Rat → Rat → Rat
  | [], _ => 0
  | a :: p, x => a + x * worth p x
def wf (f : Nat → Rat) : Nat → Rat → Rat
  | 0, _ => 0
  | n + 1, x => f 0 + x * wf (sh f) n x
theorem wf_zero : ∀ (n : Nat) (x : Rat), wf (fun _ => 0) n x = 0
  | 0, x => rfl
  | n + 1, x => by simp only [wf]; rw [show sh (fun _ => (0 : Rat)) = fun _ => 0 from rfl, wf_zero n x]; grind
theorem worth_wf : ∀ (p : List Rat) (n : Nat) (x : Rat), p.length ≤ n → worth p x = wf (cf p) n x
  | [], n, x, _ => by rw [show cf [] = fun _ => (0 : Rat) from funext fun _ => cf_nil, wf_zero]; rfl
  | a :: p, 0, x, h => by simp at h
  | a :: p, n + 1, x, h => by
    simp only [worth, wf, cf_cons_zero]
    rw [worth_wf p n x (by simpa using h)]; rfl
theorem wf_lin : ∀ (n : Nat) (f g : Nat → Rat) (c x : Rat), wf (fun i => f i + c * g i) n x = wf f n x + c * wf g n x
  | 0, f, g, c, x => by simp only [wf]; grind
  | n + 1, f, g, c, x => by
    simp only [wf]
    rw [show sh (fun i => f i + c * g i) = fun i => sh f i + c * sh g i from rfl, wf_lin n]; grind
theorem worth_lin (p q : List Rat) (c x : Rat) : worth (lin p q c) x = worth p x + c * worth q x := by
  have l : (lin p q c).length ≤ max p.length q.length := by
    unfold lin
    rw [trim_len]
    exact Nat.le_trans (tlen_le _ _) (by simp)
  rw [worth_wf _ (max p.length q.length) x l, worth_wf p (max p.length q.length) x (by omega), worth_wf q (max p.length q.length) x (by omega), ← wf_lin]
  congr 1
  funext i
  exact cf_lin p q c i
theorem worth_mul : ∀ (p q : List Rat) (x : Rat) (n : Nat), p.length + q.length ≤ n → wf (cv (cf p) (cf q)) n x = worth p x * worth q x
  | [], q, x, n, _ => by
    rw [show cv (cf []) (cf q) = fun _ => 0 from funext fun k => by rw [show cf [] = fun _ => (0 : Rat) from funext fun _ => cf_nil, cv_zero_left], wf_zero]
    simp only [worth]; grind
  | a :: p, q, x, 0, h => by simp at h
  | a :: p, q, x, n + 1, h => by
    have e : cv (cf (a :: p)) (cf q) = fun i => (match i with | 0 => 0 | j + 1 => cv (cf p) (cf q) j) + a * cf q i := by
      funext i
      cases i with
      | zero => simp only [cv, cf_cons_zero]; grind
      | succ i =>
        simp only [cv, cf_cons_zero]
        rw [show sh (cf (a :: p)) = cf p from rfl]; grind
    rw [e, wf_lin]
    have e2 : wf (fun i => match i with | 0 => (0 : Rat) | j + 1 => cv (cf p) (cf q) j) (n + 1) x = x * wf (cv (cf p) (cf q)) n x := by
      simp only [wf]
      rw [show sh (fun i => match i with | 0 => (0 : Rat) | j + 1 => cv (cf p) (cf q) j) = cv (cf p) (cf q) from rfl]; grind
    rw [e2, worth_mul p q x n (by simp at h; omega), ← worth_wf q (n + 1) x (by simp at h; omega)]
    simp only [worth]; grind
theorem worth_pmul (p q : List Rat) (x : Rat) : worth (pmul p q) x = worth p x * worth q x := by
  have l : (pmul p q).length ≤ p.length + q.length := by
    unfold pmul
    rw [trim_len]
    exact Nat.le_trans (tlen_le _ _) (by simp)
  rw [worth_wf _ (p.length + q.length) x l, ← worth_mul p q x _ (Nat.le_refl _)]
  congr 1
  funext i
  exact cf_pmul p q i
end DL

end
section
set_option maxHeartbeats 1000000
set_option exponentiation.threshold 10000
/-! # DL: the text's functions of POLYs -/
namespace DL
open PySem (Str)
/-! ### bounds by a common lower number -/
def In (D B : Nat) (c : Rat) : Prop := ∃ m : Int, m.natAbs ≤ B ∧ c * (D : Rat) = (m : Rat)
theorem In.add {D B B' : Nat} {c c' : Rat} (h : In D B c) (h' : In D B' c') : In D (B + B') (c + c') := by
  obtain ⟨m, h1, h2⟩ := h
  obtain ⟨m', h1', h2'⟩ := h'
  refine ⟨m + m', by omega, ?_⟩
  rw [Rat.add_mul, h2, h2', Rat.intCast_add]
theorem In.mul {D B D' B' : Nat} {c c' : Rat} (h : In D B c) (h' : In D' B' c') : In (D * D') (B * B') (c * c') := by
  obtain ⟨m, h1, h2⟩ := h
  obtain ⟨m', h1', h2'⟩ := h'
  refine ⟨m * m', by rw [Int.natAbs_mul]; exact Nat.mul_le_mul h1 h1', ?_⟩
  rw [Rat.intCast_mul, ← h2, ← h2', Rat.natCast_mul]
  grind
theorem In.mono {D B B' : Nat} {c : Rat} (h : In D B c) (l : B ≤ B') : In D B' c := by
  obtain ⟨m, h1, h2⟩ := h
  exact ⟨m, by omega, h2⟩
theorem In.scale {D B : Nat} {c : Rat} (E : Nat) (h : In D B c) : In (D * E) (B * E) c := by
  have := In.mul h (show In E E 1 from ⟨(E : Int), by simp, by rw [Rat.one_mul]; exact (Rat.intCast_natCast E).symm⟩)
  rwa [Rat.mul_one] at this
theorem in_zero (D B : Nat) : In D B 0 := ⟨0, by simp, by simp⟩
theorem In.sz {D B n : Nat} {c : Rat} (h : In D B c) (h0 : 0 < D) (h1 : D < 2 ^ n) (h2 : B < 2 ^ n) : Sz n c := by
  obtain ⟨m, h3, h4⟩ := h
  have nz : D ≠ 0 := by omega
  have hD : (D : Rat) ≠ 0 := by
    intro e
    exact nz (by simpa using e)
  have e : c = Rat.normalize m D nz := by
    rw [Rat.normalize_eq_mkRat, Rat.mkRat_eq_div, ← h4]
    grind
  rw [e]
  exact sz_norm nz (by omega) h1
def Ok (c : Rat) : Prop := Sz 4400 c
theorem ok_zero : Ok 0 := sz_zero.mono (by decide)
theorem In.ok {D B : Nat} {c : Rat} (h : In D B c) (h0 : 0 < D) (h1 : D < 2 ^ 4400) (h2 : B < 2 ^ 4400) : Ok c := h.sz h0 h1 h2
def POk (p : List Rat) : Prop := ∀ i, Ok (cf p i)
def PIn (D B : Nat) (p : List Rat) : Prop := ∀ i, In D B (cf p i)
theorem PIn.ok {D B : Nat} {p : List Rat} (h : PIn D B p) (h0 : 0 < D) (h1 : D < 2 ^ 4400) (h2 : B < 2 ^ 4400) : POk p := fun i => (h i).ok h0 h1 h2
theorem PIn.trim {D B : Nat} {p : List Rat} (h : PIn D B p) : PIn D B (trim p) := fun i => by rw [cf_trim]; exact h i
section
variable {T : List Fn} {C : List D} {N k f : Nat} {S : Store}
@[simp] theorem partOk_nil : partOk [] S = .ok none S := rfl
@[simp] theorem partOk_int {i : Int} : partOk [.int i] S = .ok (some i) S := rfl
theorem cutD_to {xs : List D} {t : Nat} (h : t ≤ xs.length) : cutD xs none (some (t : Int)) = xs.take t := by
  unfold cutD HT.sIx
  simp only [List.drop_zero, Nat.sub_zero]
  congr 1
  split <;> omega
theorem slc_ref {n : Nat} {xs : List D} {l h : Option Int} (e : S[n]? = some xs) : slcR (.ref n) l h S = .ok (.ref S.length) (S ++ [cutD xs l h]) := by
  show (match S[n]? with | some xs => R.ok (D.ref S.length) (S ++ [cutD xs l h]) | none => .bad) = _
  rw [e]
theorem map_get {p : List Rat} {i : Nat} (h : i < p.length) : (p.map fr)[i]? = some (fr (cf p i)) := by
  rw [List.getElem?_map, List.getElem?_eq_getElem h, cf_lt h]; rfl
theorem closeds_fr (n : Nat) : ∀ p : List Rat, D.closeds n (p.map fr) = true
  | [] => rfl
  | q :: p => by show (true && D.closeds n (p.map fr)) = true; rw [closeds_fr n p]; rfl
theorem closed_pl (n : Nat) (p : List Rat) : (pl p).closed n = true := closeds_fr n p
def fnLessened (c : Nat) : Fn := ⟨1, 2, [(.asg (.name 1) (.bi .len [(.var 0)])), (.while_ (.and_ (.cmp .gt (.var 1) (.int 0)) (.cmp .eq (.idx (.var 0) (.bin .sub (.var 1) (.int 1))) (.cst c))) [(.asg (.name 1) (.bin .sub (.var 1) (.int 1)))]), (.ret (.bi .tuple [(.slc (.var 0) [] [(.var 1)])]))]⟩
theorem lessened_ref {c n : Nat} (h : T[f]? = some (fnLessened c)) (hc : C[c]? = some (fr 0)) (hk : 1 ≤ k) (p : List Rat) (hS : S[n]? = some (p.map fr)) (hN : p.length < N) : run T C N k f [.ref n] S = .ok (pl (trim p)) S := by
  rw [run_s h hk rfl]
  have hn : n < S.length := (List.getElem?_eq_some_iff.mp hS).1
  have loop : ∀ (s M : Nat), s ≤ p.length → s < M → whileLoop (test (run T C N (k - 1)) C (.and_ (.cmp .gt (.var 1) (.int 0)) (.cmp .eq (.idx (.var 0) (.bin .sub (.var 1) (.int 1))) (.cst c)))) (fun e S' => execs (run T C N (k - 1)) C N [(.asg (.name 1) (.bin .sub (.var 1) (.int 1)))] e S') M [some (.ref n), some (.int (s : Int))] S = .nx [some (.ref n), some (.int (tlen p s : Int))] S := by
    intro s
    induction s with
    | zero =>
      intro M h1 h2
      obtain ⟨M, rfl⟩ : ∃ j, M = j + 1 := ⟨M - 1, by omega⟩
      refine while_end ?_
      simp
    | succ s ih =>
      intro M h1 h2
      obtain ⟨M, rfl⟩ : ∃ j, M = j + 1 := ⟨M - 1, by omega⟩
      have ea : ((s : Int) + 1) - 1 = (s : Int) := by omega
      have ei : idxR (.ref n) (.int (s : Int)) S = .ok (fr (cf p s)) S := idx_ref hS (by rw [atI_nat]; exact map_get (by omega))
      have ee := cmp_eq (eqD_fr (S := S) (p := cf p s) (q := 0))
      have hp : (0 : Int) < (s : Int) + 1 := by omega
      by_cases hz : cf p s = 0
      · rw [hz] at ei ee
        rw [while_go (S1 := S) (env' := [some (.ref n), some (.int (s : Int))]) (S' := S) (by simp [hp, ea, ei, hc, ee]) (by simp [ea])]
        rw [ih M (by omega) (by omega)]
        simp only [tlen, hz, if_true]
      · rw [while_end (S1 := S) (by simp [hp, ea, ei, hc, ee, hz])]
        simp [tlen, hz]
  have hl : exec (run T C N (k - 1)) C N (.while_ (.and_ (.cmp .gt (.var 1) (.int 0)) (.cmp .eq (.idx (.var 0) (.bin .sub (.var 1) (.int 1))) (.cst c))) [(.asg (.name 1) (.bin .sub (.var 1) (.int 1)))]) [some (.ref n), some (.int (p.length : Int))] S = _ := loop p.length N (Nat.le_refl _) hN
  have eb := bi_len_ref hS
  rw [List.length_map] at eb
  have es := slc_ref (l := none) (h := some (tlen p p.length : Int)) hS
  have et : cutD (p.map fr) none (some (tlen p p.length : Int)) = (trim p).map fr := by
    rw [cutD_to (by simpa using tlen_le p p.length), ← List.map_take]; rfl
  rw [et] at es
  have e5 : biD .tuple [.ref S.length] (S ++ [(trim p).map fr]) = .ok (pl (trim p)) (S ++ [(trim p).map fr]) := bi_tuple_ref (by simp)
  simp [fnLessened, startD, eb, hl, es, e5]
  exact end_rt (by simp) (by simp) (closed_pl _ _)

def PlusS (T : List Fn) (C : List D) (N k P : Nat) : Prop := ∀ x y S, Ok x → Ok y → run T C N k P [fr x, fr y] S = .ok (fr (x + y)) S
def TimesS (T : List Fn) (C : List D) (N k P : Nat) : Prop := ∀ x y S, Ok x → Ok y → run T C N k P [fr x, fr y] S = .ok (fr (x * y)) S
theorem plus_s {g : Nat} (h : T[f]? = some (fnPlus g)) (hg : FracS T C N (k - 1) g) (hk : 1 ≤ k) : PlusS T C N k f := fun x y S hx hy => plus_fr h hg hk hx hy (by decide)
theorem times_s {g : Nat} (h : T[f]? = some (fnTimes g)) (hg : FracS T C N (k - 1) g) (hk : 1 ≤ k) : TimesS T C N k f := fun x y S hx hy => times_fr h hg hk hx hy (by decide)
theorem rep_one (n : Nat) (q : Rat) : rep [fr q] n = (List.replicate n q).map fr := by
  unfold rep
  induction n with
  | zero => rfl
  | succ n ih => rw [List.replicate_succ, List.flatten_cons, ih, List.replicate_succ]; rfl
theorem pad_eq {p : List Rat} {m : Nat} (h : p.length ≤ m) : p ++ List.replicate (m - p.length) 0 = (List.range m).map (cf p) := by
  refine List.ext_getElem (by simp; omega) fun i h1 h2 => ?_
  have e1 := cf_lt h1
  have e2 := cf_lt h2
  rw [← e1, ← e2, cf_append_zero, cf_map_range, if_pos (by simpa using h2)]
def fnPadded (c : Nat) : Fn := ⟨2, 2, [(.ret (.bin .add (.var 0) (.bin .mul (.tup [(.cst c)]) (.bin .sub (.var 1) (.bi .len [(.var 0)])))))]⟩
theorem padded_pl {c : Nat} (h : T[f]? = some (fnPadded c)) (hc : C[c]? = some (fr 0)) (hk : 1 ≤ k) (p : List Rat) (m : Nat) (hm : p.length ≤ m) (hm2 : m ≤ 1000) : run T C N k f [pl p, .int m] S = .ok (pl ((List.range m).map (cf p))) S := by
  rw [run_s h hk rfl]
  have e1 : opD .mul (.tup [fr 0]) (.int ((m : Int) - (p.length : Int))) S = .ok (.tup ((List.replicate (m - p.length) 0).map fr)) S := by
    show (if (-(2 ^ 63) ≤ ((m : Int) - (p.length : Int)) ∧ ((m : Int) - (p.length : Int)) ≤ 1000) ∧ [fr 0].length ≤ 1000 then R.ok (D.tup (rep [fr 0] ((m : Int) - (p.length : Int)).toNat)) S else .bad) = _
    rw [if_pos ⟨⟨by omega, by omega⟩, by simp⟩, rep_one, show ((m : Int) - (p.length : Int)).toNat = m - p.length by omega]
  have e2 : opD .add (pl p) (.tup ((List.replicate (m - p.length) 0).map fr)) S = .ok (pl ((List.range m).map (cf p))) S := by
    unfold pl
    rw [op_cat (small (by simp; omega)), ← pad_eq hm, List.map_append]
  simp only [pl] at *
  simp at e1 e2
  simp [fnPadded, startD, hc, e1, e2]
def fnScaled (l t : Nat) : Fn := ⟨2, 3, [(.ret (.call l [(.lc (.call t [(.var 1), (.var 2)]) (.name 2) (.seq (.var 0)) [] [2])]))]⟩
theorem scaled_pl {l t c : Nat} (h : T[f]? = some (fnScaled l t)) (hl : T[l]? = some (fnLessened c)) (hc : C[c]? = some (fr 0)) (ht : TimesS T C N (k - 1) t) (hk : 2 ≤ k) (p : List Rat) (x : Rat) (hp : POk p) (hx : Ok x) (hN : p.length < N) (hs : p.length ≤ 1000) :
    run T C N k f [pl p, fr x] S = .ok (pl (trim (p.map (x * ·)))) S := by
  rw [run_s h (by omega) rfl]
  have e1 : ev (run T C N (k - 1)) C (.lc (.call t [.var 1, .var 2]) (.name 2) (.seq (.var 0)) [] [2]) [some (.tup (p.map fr)), some (fr x), none] S = .ok (.ref S.length) (S ++ [p.map fun y => fr (x * y)]) :=
    ev_lcp fr (fun y => fr (x * y)) (by simp) (small (by omega)) fun y hy S' => ⟨_, rfl, fun S'' => by
      obtain ⟨i, _, rfl⟩ := mem_cf hy
      simp [ht _ _ S'' hx (hp i)]⟩
  have e2 : run T C N (k - 1) l [.ref S.length] (S ++ [p.map fun y => fr (x * y)]) = .ok (pl (trim (p.map (x * ·)))) (S ++ [p.map fun y => fr (x * y)]) :=
    lessened_ref hl hc (by omega) (p.map (x * ·)) (by simp [List.map_map, Function.comp_def]) (by simpa using hN)
  simp only [pl] at *
  simp [fnScaled, startD, e1, e2]
  exact end_rt (by simp) (by simp) (closed_pl _ _)
theorem zipL_map {α : Type} (f g : α → D) : ∀ l : List α, zipL (l.map f) (l.map g) = l.map fun a => .tup [f a, g a]
  | [] => rfl
  | a :: l => by
    have := zipL_map f g l
    unfold zipL at this ⊢
    rw [List.map_cons, List.map_cons, List.zip_cons_cons, List.map_cons, this]; rfl
def fnSumBy (l p d : Nat) : Fn := ⟨2, 5, [(.asg (.name 2) (.bi .max [(.bi .len [(.var 0)]), (.bi .len [(.var 1)])])), (.ret (.call l [(.lc (.call p [(.var 3), (.var 4)]) (.tup [(.name 3), (.name 4)]) (.zip (.call d [(.var 0), (.var 2)]) (.call d [(.var 1), (.var 2)])) [] [3, 4])]))]⟩
theorem max_int (a b : Nat) : (if (b : Int) > (a : Int) then (b : Int) else (a : Int)) = ((max a b : Nat) : Int) := by
  split <;> omega
theorem sumBy_pl {l pp d c : Nat} (h : T[f]? = some (fnSumBy l pp d)) (hl : T[l]? = some (fnLessened c)) (hd : T[d]? = some (fnPadded c)) (hc : C[c]? = some (fr 0)) (hP : PlusS T C N (k - 1) pp) (hk : 2 ≤ k) (p q : List Rat) (hp : POk p) (hq : POk q) (hN : max p.length q.length < N) (hs : max p.length q.length ≤ 1000) :
    run T C N k f [pl p, pl q] S = .ok (pl (lin p q 1)) S := by
  rw [run_s h (by omega) rfl]
  have d1 := padded_pl (N := N) (S := S) (k := k - 1) hd hc (by omega) p (max p.length q.length) (by omega) hs
  have d2 := padded_pl (N := N) (S := S) (k := k - 1) hd hc (by omega) q (max p.length q.length) (by omega) hs
  have e0 : evi (run T C N (k - 1)) C (.zip (.call d [(.var 0), (.var 2)]) (.call d [(.var 1), (.var 2)])) [some (pl p), some (pl q), some (.int (max p.length q.length : Nat)), none, none] S = .ok ⟨(List.range (max p.length q.length)).map fun i => .tup [fr (cf p i), fr (cf q i)], []⟩ S := by
    simp [d1, d2]
    simp [pl, zipOk, Function.comp_def, zipL_map]
  have e1 : ev (run T C N (k - 1)) C (.lc (.call pp [(.var 3), (.var 4)]) (.tup [(.name 3), (.name 4)]) (.zip (.call d [(.var 0), (.var 2)]) (.call d [(.var 1), (.var 2)])) [] [3, 4]) [some (pl p), some (pl q), some (.int (max p.length q.length : Nat)), none, none] S = .ok (.ref S.length) (S ++ [(List.range (max p.length q.length)).map fun i => fr (cf p i + cf q i)]) :=
    ev_lcp _ (fun i => fr (cf p i + cf q i)) e0 (small (by simp; omega)) fun i hi S' => ⟨_, rfl, fun S'' => by
      simp [hP _ _ S'' (hp i) (hq i)]⟩
  have e2 : run T C N (k - 1) l [.ref S.length] (S ++ [(List.range (max p.length q.length)).map fun i => fr (cf p i + cf q i)]) = .ok (pl (lin p q 1)) (S ++ [(List.range (max p.length q.length)).map fun i => fr (cf p i + cf q i)]) := by
    have e3 : lin p q 1 = trim ((List.range (max p.length q.length)).map fun i => cf p i + cf q i) := by
      unfold lin
      refine congrArg trim (List.map_congr_left fun i _ => ?_)
      grind
    rw [e3]
    exact lessened_ref hl hc (by omega) _ (by simp [List.map_map, Function.comp_def]) (by simpa using hN)
  have e4 := max_int p.length q.length
  simp only [pl] at *
  simp [fnSumBy, startD] at *
  rw [e4]
  simp [e1, e2]
  exact end_rt (by simp) (by simp) (closed_pl _ _)
def fnLessBy (sb sc w : Nat) : Fn := ⟨2, 2, [(.ret (.call sb [(.var 0), (.call sc [(.var 1), (.call w [(.neg (.int 1))])])]))]⟩
theorem lin_neg (p q : List Rat) : lin p (trim (q.map ((-1 : Rat) * ·))) 1 = lin p q (-1) := nm_ext (nm_lin _ _ _) (nm_lin _ _ _) fun i => by
  rw [cf_lin, cf_lin, cf_trim]
  have : cf (q.map ((-1 : Rat) * ·)) i = -1 * cf q i := by
    by_cases h : i < q.length
    · rw [cf_lt (by simpa using h), cf_lt h]; simp
    · rw [cf_ge (by simpa using h), cf_ge (by omega)]; simp
  rw [this]; grind

theorem ok_neg1 : Ok (-1) := (show Sz 1 (-1) from ⟨by decide, by decide⟩).mono (by decide)
theorem lessBy_pl {sb sc w : Nat} (h : T[f]? = some (fnLessBy sb sc w)) (hw : T[w]? = some fnWhole) (hk : 2 ≤ k) (p q : List Rat)
    (h1 : ∀ S, run T C N (k - 1) sc [pl q, fr (-1)] S = .ok (pl (trim (q.map ((-1 : Rat) * ·)))) S) (h2 : ∀ S, run T C N (k - 1) sb [pl p, pl (trim (q.map ((-1 : Rat) * ·)))] S = .ok (pl (lin p (trim (q.map ((-1 : Rat) * ·))) 1)) S) :
    run T C N k f [pl p, pl q] S = .ok (pl (lin p q (-1))) S := by
  rw [run_s h (by omega) rfl, ← lin_neg]
  have e := whole_int (C := C) (N := N) (S := S) (k := k - 1) hw (by omega) (-1)
  have e' : fr ((-1 : Int) : Rat) = fr (-1) := by rfl
  rw [e'] at e
  simp [fnLessBy, startD, e, h1, h2]
/-! ### products -/
def enumF : Nat → List Rat → List D
  | _, [] => []
  | o, a :: r => .tup [.int (o : Nat), fr a] :: enumF (o + 1) r
theorem enumF_eq : ∀ (p : List Rat) (o : Nat), (p.map fr).mapIdx (fun i d => D.tup [.int ((o + i : Nat) : Int), d]) = enumF o p
  | [], o => rfl
  | a :: p, o => by
    have := enumF_eq p (o + 1)
    rw [List.map_cons, List.mapIdx_cons, enumF]
    congr 1
    rw [← this]
    congr 1
    funext i d
    rw [show o + (i + 1) = o + 1 + i by omega]
theorem enumL_fr (p : List Rat) : enumL (p.map fr) = enumF 0 p := by
  rw [← enumF_eq p 0]
  unfold enumL
  congr 1
  funext i d
  rw [Nat.zero_add]
def addRow (a : Rat) : List Rat → Nat → List Rat → List Rat
  | acc, _, [] => acc
  | acc, o, b :: q => addRow a (acc.set o (cf acc o + a * b)) (o + 1) q
def addAll (q : List Rat) : List Rat → Nat → List Rat → List Rat
  | acc, _, [] => acc
  | acc, o, a :: p => addAll q (addRow a acc o q) (o + 1) p
theorem addRow_len (a : Rat) : ∀ (q acc : List Rat) (o : Nat), (addRow a acc o q).length = acc.length
  | [], acc, o => rfl
  | b :: q, acc, o => by rw [addRow, addRow_len a q]; simp
theorem addAll_len (q : List Rat) : ∀ (p acc : List Rat) (o : Nat), (addAll q acc o p).length = acc.length
  | [], acc, o => rfl
  | a :: p, acc, o => by rw [addAll, addAll_len q p, addRow_len]
theorem cf_addRow (a : Rat) : ∀ (q acc : List Rat) (o i : Nat), o + q.length ≤ acc.length → cf (addRow a acc o q) i = cf acc i + (if i < o then 0 else a * cf q (i - o))
  | [], acc, o, i, h => by
    rw [addRow, cf_nil]
    split <;> grind
  | b :: q, acc, o, i, h => by
    simp only [List.length_cons] at h
    rw [addRow, cf_addRow a q _ (o + 1) i (by simp; omega), cf_set (by omega)]
    by_cases e : i = o
    · subst e
      rw [if_pos rfl, if_pos (by omega), if_neg (by omega), Nat.sub_self, cf_cons_zero]; grind
    · rw [if_neg e]
      by_cases l : i < o
      · rw [if_pos (by omega), if_pos l]
      · rw [if_neg (by omega), if_neg l, show i - o = (i - (o + 1)) + 1 by omega, cf_cons_succ]
theorem cf_addAll (q : List Rat) : ∀ (p acc : List Rat) (o i : Nat), (p ≠ [] → o + p.length + q.length ≤ acc.length + 1) → cf (addAll q acc o p) i = cf acc i + (if i < o then 0 else cv (cf p) (cf q) (i - o))
  | [], acc, o, i, h => by
    rw [addAll, show cv (cf []) (cf q) = fun _ => 0 from funext fun k => by rw [show cf [] = fun _ => (0 : Rat) from funext fun _ => cf_nil, cv_zero_left]]
    split <;> grind
  | a :: p, acc, o, i, h => by
    have h := h (by simp)
    simp only [List.length_cons] at h
    rw [addAll, cf_addAll q p _ (o + 1) i (fun hne => by rw [addRow_len]; omega), cf_addRow a q acc o i (by omega)]
    by_cases l : i < o
    · rw [if_pos l, if_pos (by omega), if_pos l]; grind
    · rw [if_neg l, if_neg l]
      by_cases e : i = o
      · subst e
        rw [if_pos (by omega), Nat.sub_self]
        simp only [cv, cf_cons_zero]; grind
      · rw [if_neg (by omega), show i - o = (i - (o + 1)) + 1 by omega]
        simp only [cv, cf_cons_zero]
        rw [show sh (cf (a :: p)) = cf p from rfl]; grind
/-- the loops of a product, P and M the functions that add and multiply -/
def inB (P M : Nat) : List DL.St := [(.asg (.sub (.var 2) (.bin .add (.var 3) (.var 5))) (.call P [(.idx (.var 2) (.bin .add (.var 3) (.var 5))), (.call M [(.var 4), (.var 6)])]))]
def outB (P M : Nat) : List DL.St := [(.for_ (.tup [(.name 5), (.name 6)]) (.enum (.var 1)) (inB P M))]
theorem set_ref {n : Nat} {l : List D} {j : Nat} {x : D} {env : En} (e : S[n]? = some l) (h : j < l.length) : setR (.ref n) (.int (j : Int)) x env S = .nx env (setAt S n (l.set j x)) := by
  have : L2.ixN l.length (j : Int) = some j := by
    unfold L2.ixN
    rw [if_pos (by omega), if_pos (by omega)]; simp
  show (match S[n]? with
    | some l => (match L2.ixN l.length (j : Int) with
      | some p => RS.nx env (setAt S n (l.set p x))
      | none => .bad)
    | none => .bad) = _
  rw [e]
  show (match L2.ixN l.length (j : Int) with
      | some p => RS.nx env (setAt S n (l.set p x))
      | none => .bad) = _
  rw [this]
theorem set_map {acc : List Rat} {j : Nat} {x : Rat} : (acc.map fr).set j (fr x) = (acc.set j x).map fr := by rw [List.map_set]
/-- what the numbers found so far keep within -/
def Wi (D W j o : Nat) (acc : List Rat) : Prop := ∀ i, In D (if i < o then (j + 1) * W else j * W) (cf acc i)
theorem inner_loop {P M D E B B' n o0 j : Nat} (hP : PlusS T C N k P) (hM : TimesS T C N k M) (a : Rat) (ha : In D B a) (hD : 0 < D) (hE : 0 < E) (b1 : D * E < 2 ^ 4400) (b2 : (j + 1) * (B * B') < 2 ^ 4400) (b3 : D < 2 ^ 4400 ∧ B < 2 ^ 4400) (b4 : E < 2 ^ 4400 ∧ B' < 2 ^ 4400) (e0 e1 : Option DL.D) :
    ∀ (q acc : List Rat) (m : Nat) (S : Store) (e5 e6 : Option DL.D), S[n]? = some (acc.map fr) → (∀ b ∈ q, In E B' b) → o0 + m + q.length ≤ acc.length → Wi (D * E) (B * B') j (o0 + m) acc →
      ∃ e5' e6', forLoop [] (.tup [(.name 5), (.name 6)]) (fun e S' => execs (run T C N k) C N (inB P M) e S') (enumF m q) [e0, e1, some (.ref n), some (.int (o0 : Nat)), some (fr a), e5, e6] S =
        .nx [e0, e1, some (.ref n), some (.int (o0 : Nat)), some (fr a), e5', e6'] (S.set n ((addRow a acc (o0 + m) q).map fr)) ∧ Wi (D * E) (B * B') j (o0 + m + q.length) (addRow a acc (o0 + m) q)
  | [], acc, m, S, e5, e6, hS, hq, hl, hw => by
    refine ⟨e5, e6, ?_, hw⟩
    rw [enumF, for_nil rfl, addRow]
    obtain ⟨hn, e'⟩ := List.getElem?_eq_some_iff.mp hS
    rw [← e', List.set_getElem_self]
  | b :: q, acc, m, S, e5, e6, hS, hq, hl, hw => by
    simp only [List.length_cons] at hl
    have hn : n < S.length := (List.getElem?_eq_some_iff.mp hS).1
    have hb := hq b List.mem_cons_self
    have h0 := hw (o0 + m)
    rw [if_neg (by omega)] at h0
    have hDE : 0 < D * E := Nat.mul_pos hD hE
    have okb : Ok b := hb.ok hE b4.1 b4.2
    have oka : Ok a := ha.ok hD b3.1 b3.2
    have hle : j * (B * B') ≤ (j + 1) * (B * B') := Nat.mul_le_mul_right _ (by omega)
    have ok0 : Ok (cf acc (o0 + m)) := h0.ok hDE b1 (by omega)
    have hab : In (D * E) (B * B') (a * b) := ha.mul hb
    have hle2 : B * B' ≤ (j + 1) * (B * B') := by rw [Nat.succ_mul]; omega
    have okab : Ok (a * b) := hab.ok hDE b1 (by omega)
    have ea : ((o0 : Nat) : Int) + ((m : Nat) : Int) = ((o0 + m : Nat) : Int) := by omega
    have ei : idxR (.ref n) (.int ((o0 + m : Nat) : Int)) S = .ok (fr (cf acc (o0 + m))) S := idx_ref hS (by rw [atI_nat]; exact map_get (by omega))
    have es := fun env x => set_ref (S := S) (env := env) (j := o0 + m) (x := fr x) hS (by simp; omega)
    have step : execs (run T C N k) C N (inB P M) [e0, e1, some (.ref n), some (.int (o0 : Nat)), some (fr a), some (.int (m : Nat)), some (fr b)] S = .nx [e0, e1, some (.ref n), some (.int (o0 : Nat)), some (fr a), some (.int (m : Nat)), some (fr b)] (S.set n ((acc.set (o0 + m) (cf acc (o0 + m) + a * b)).map fr)) := by
      simp only [inB, exs_cons, exs_nil, ex_asg, ev_call', evs_cons, evs_nil, ev_idx, ev_var, ev_bin, List.getElem?_cons_zero, List.getElem?_cons_succ, R.bind_ok, op_add, ea, ei, hM _ _ S oka okb, hP _ _ S ok0 okab, R.thenS_ok, put_sub', es, RS.seq_nx, setAt, set_map]
    have w' : Wi (D * E) (B * B') j (o0 + (m + 1)) (acc.set (o0 + m) (cf acc (o0 + m) + a * b)) := fun i => by
      rw [cf_set (by omega)]
      by_cases e : i = o0 + m
      · rw [if_pos e, if_pos (by omega), Nat.succ_mul]
        exact h0.add hab
      · rw [if_neg e]
        have := hw i
        by_cases l : i < o0 + m
        · rw [if_pos l] at this
          rw [if_pos (by omega)]; exact this
        · rw [if_neg l] at this
          rw [if_neg (by omega)]; exact this
    obtain ⟨e5', e6', r1, r2⟩ := inner_loop (n := n) (o0 := o0) hP hM a ha hD hE b1 b2 b3 b4 e0 e1 q (acc.set (o0 + m) (cf acc (o0 + m) + a * b)) (m + 1) (S.set n ((acc.set (o0 + m) (cf acc (o0 + m) + a * b)).map fr)) (some (.int (m : Nat))) (some (fr b)) (by simp [hn]) (fun c hc => hq c (List.mem_cons_of_mem _ hc)) (by simp; omega) w'
    refine ⟨e5', e6', ?_, ?_⟩
    · rw [enumF, for_go rfl (by rfl) step, r1, addRow, List.set_set]; rfl
    · rw [addRow]
      have e : o0 + m + (b :: q).length = o0 + (m + 1) + q.length := by simp only [List.length_cons]; omega
      rw [e]; exact r2

theorem outer_loop {P M D E B B' n : Nat} (hP : PlusS T C N k P) (hM : TimesS T C N k M) (q : List Rat) (hq : ∀ b ∈ q, In E B' b) (hD : 0 < D) (hE : 0 < E) (b1 : D * E < 2 ^ 4400) (b3 : D < 2 ^ 4400 ∧ B < 2 ^ 4400) (b4 : E < 2 ^ 4400 ∧ B' < 2 ^ 4400) (e0 : Option DL.D) :
    ∀ (p acc : List Rat) (o : Nat) (S : Store) (e3 e4 e5 e6 : Option DL.D), S[n]? = some (acc.map fr) → (∀ a ∈ p, In D B a) → (p ≠ [] → o + p.length + q.length ≤ acc.length + 1) → (o + p.length) * (B * B') < 2 ^ 4400 → (∀ i, In (D * E) (o * (B * B')) (cf acc i)) →
      ∃ e3' e4' e5' e6', forLoop [] (.tup [(.name 3), (.name 4)]) (fun e S' => execs (run T C N k) C N (outB P M) e S') (enumF o p) [e0, some (pl q), some (.ref n), e3, e4, e5, e6] S =
        .nx [e0, some (pl q), some (.ref n), e3', e4', e5', e6'] (S.set n ((addAll q acc o p).map fr))
  | [], acc, o, S, e3, e4, e5, e6, hS, hp, hl, hb, hw => by
    refine ⟨e3, e4, e5, e6, ?_⟩
    rw [enumF, for_nil rfl, addAll]
    obtain ⟨hn, e'⟩ := List.getElem?_eq_some_iff.mp hS
    rw [← e', List.set_getElem_self]
  | a :: p, acc, o, S, e3, e4, e5, e6, hS, hp, hl, hb, hw => by
    have hl := hl (by simp)
    simp only [List.length_cons] at hl hb
    have hn : n < S.length := (List.getElem?_eq_some_iff.mp hS).1
    have b2 : (o + 1) * (B * B') < 2 ^ 4400 := Nat.lt_of_le_of_lt (Nat.mul_le_mul_right _ (by omega)) hb
    have w0 : Wi (D * E) (B * B') o (o + 0) acc := fun i => by
      split
      · exact (hw i).mono (Nat.mul_le_mul_right _ (by omega))
      · exact hw i
    obtain ⟨e5', e6', r1, r2⟩ := inner_loop (o0 := o) hP hM a (hp a List.mem_cons_self) hD hE b1 b2 b3 b4 e0 (some (pl q)) q acc 0 S e5 e6 hS hq (by omega) w0
    have step : execs (run T C N k) C N (outB P M) [e0, some (pl q), some (.ref n), some (.int (o : Nat)), some (fr a), e5, e6] S = .nx [e0, some (pl q), some (.ref n), some (.int (o : Nat)), some (fr a), e5', e6'] (S.set n ((addRow a acc o q).map fr)) := by
      have e : exec (run T C N k) C N (.for_ (.tup [(.name 5), (.name 6)]) (.enum (.var 1)) (inB P M)) [e0, some (pl q), some (.ref n), some (.int (o : Nat)), some (fr a), e5, e6] S = .nx [e0, some (pl q), some (.ref n), some (.int (o : Nat)), some (fr a), e5', e6'] (S.set n ((addRow a acc (o + 0) q).map fr)) := by
        rw [ex_for]
        simp only [evi_enum, ev_var, List.getElem?_cons_zero, List.getElem?_cons_succ, R.bind_ok, pl, items_tup, dep_tup, R.thenS_ok, enumL_fr]
        exact r1
      simp only [outB, exs_cons, exs_nil, e, RS.seq_nx]; rfl
    have hle : ∀ i, In (D * E) ((o + 1) * (B * B')) (cf (addRow a acc o q) i) := fun i => by
      have := r2 i
      split at this
      · exact this
      · exact this.mono (Nat.mul_le_mul_right _ (by omega))
    obtain ⟨e3', e4', e5'', e6'', r3⟩ := outer_loop (n := n) hP hM q hq hD hE b1 b3 b4 e0 p (addRow a acc o q) (o + 1) (S.set n ((addRow a acc o q).map fr)) (some (.int (o : Nat))) (some (fr a)) e5' e6' (by simp [hn]) (fun c hc => hp c (List.mem_cons_of_mem _ hc)) (fun hne => by rw [addRow_len]; omega) (by rw [show o + 1 + p.length = o + (p.length + 1) by omega]; exact hb) hle
    refine ⟨e3', e4', e5'', e6'', ?_⟩
    rw [enumF, for_go rfl (by rfl) step, r3, addAll, List.set_set]
/-- the product found in a list of noughts -/
theorem addAll_pmul {p q : List Rat} {L : Nat} (h : p ≠ [] → p.length + q.length ≤ L + 1) : trim (addAll q (List.replicate L 0) 0 p) = pmul p q := trim_eq (nm_pmul p q) fun i => by
  rw [cf_addAll q p _ 0 i (fun hne => by simpa using h hne), cf_rep, cf_pmul, if_neg (Nat.not_lt_zero _), Nat.sub_zero]; grind
/-- bounds that a product asks -/
structure MulB (p q : List Rat) (D E B B' : Nat) : Prop where
  ip : ∀ a ∈ p, In D B a
  iq : ∀ b ∈ q, In E B' b
  hD : 0 < D
  hE : 0 < E
  b1 : D * E < 2 ^ 4400
  b2 : p.length * (B * B') < 2 ^ 4400
  b3 : D < 2 ^ 4400 ∧ B < 2 ^ 4400
  b4 : E < 2 ^ 4400 ∧ B' < 2 ^ 4400
theorem prod_for {P M D E B B' n : Nat} (hP : PlusS T C N k P) (hM : TimesS T C N k M) {p q : List Rat} (b : MulB p q D E B B') {L : Nat} (hL : p ≠ [] → p.length + q.length ≤ L + 1) (hS : S[n]? = some ((List.replicate L 0).map fr)) (e3 e4 e5 e6 : Option DL.D) :
    ∃ e3' e4' e5' e6', exec (run T C N k) C N (.for_ (.tup [(.name 3), (.name 4)]) (.enum (.var 0)) (outB P M)) [some (pl p), some (pl q), some (.ref n), e3, e4, e5, e6] S =
      .nx [some (pl p), some (pl q), some (.ref n), e3', e4', e5', e6'] (S.set n ((addAll q (List.replicate L 0) 0 p).map fr)) := by
  obtain ⟨e3', e4', e5', e6', r⟩ := outer_loop (n := n) hP hM q b.iq b.hD b.hE b.b1 b.b3 b.b4 (some (pl p)) p (List.replicate L 0) 0 S e3 e4 e5 e6 hS b.ip (fun h => by simpa using hL h) (by simpa using b.b2) (fun i => by rw [cf_rep]; exact in_zero _ _)
  refine ⟨e3', e4', e5', e6', ?_⟩
  rw [ex_for]
  simp only [evi_enum, ev_var, List.getElem?_cons_zero, R.bind_ok, pl, items_tup, dep_tup, R.thenS_ok, enumL_fr]
  exact r
def fnProductBy (c P M l : Nat) : Fn := ⟨2, 7, [(.asg (.name 2) (.bin .mul (.lst [(.cst c)]) (.bi .max [(.bin .sub (.bin .add (.bi .len [(.var 0)]) (.bi .len [(.var 1)])) (.int 1)), (.int 0)]))), (.for_ (.tup [(.name 3), (.name 4)]) (.enum (.var 0)) (outB P M)), (.ret (.call l [(.var 2)]))]⟩
theorem productBy_pl {c P M l D E B B' : Nat} (h : T[f]? = some (fnProductBy c P M l)) (hc : C[c]? = some (fr 0)) (hl : T[l]? = some (fnLessened c)) (hP : PlusS T C N (k - 1) P) (hM : TimesS T C N (k - 1) M) (hk : 2 ≤ k) {p q : List Rat} (b : MulB p q D E B B') (hN : p.length + q.length < N) (hs : p.length + q.length ≤ 1000) :
    run T C N k f [pl p, pl q] S = .ok (pl (pmul p q)) S := by
  rw [run_s h (by omega) rfl]
  have e1 : opD .mul (.ref S.length) (.int ((p.length + q.length - 1 : Nat) : Int)) (S ++ [[fr 0]]) = .ok (.ref (S.length + 1)) (S ++ [[fr 0]] ++ [(List.replicate (p.length + q.length - 1) 0).map fr]) := by
    show (match (S ++ [[fr 0]])[S.length]? with
      | some l => if (-(2 ^ 63) ≤ ((p.length + q.length - 1 : Nat) : Int) ∧ ((p.length + q.length - 1 : Nat) : Int) < 2 ^ 63) ∧ l.length * ((p.length + q.length - 1 : Nat) : Int).toNat ≤ PySem.sizeLine then R.ok (DL.D.ref (S ++ [[fr 0]]).length) (S ++ [[fr 0]] ++ [rep l ((p.length + q.length - 1 : Nat) : Int).toNat]) else .bad
      | none => .bad) = _
    have : (S ++ [[fr 0]])[S.length]? = some [fr 0] := by simp
    rw [this]
    simp only [List.length_cons, List.length_nil, Int.toNat_natCast]
    rw [if_pos ⟨⟨by omega, by omega⟩, small (by omega)⟩, rep_one]
    simp
  obtain ⟨e3', e4', e5', e6', r⟩ := prod_for (S := S ++ [[fr 0]] ++ [(List.replicate (p.length + q.length - 1) 0).map fr]) (n := S.length + 1) hP hM b (L := p.length + q.length - 1) (fun h => by omega) (by simp) none none none none
  have e2 : run T C N (k - 1) l [.ref (S.length + 1)] ((S ++ [[fr 0]] ++ [(List.replicate (p.length + q.length - 1) 0).map fr]).set (S.length + 1) ((addAll q (List.replicate (p.length + q.length - 1) 0) 0 p).map fr)) = .ok (pl (pmul p q)) ((S ++ [[fr 0]] ++ [(List.replicate (p.length + q.length - 1) 0).map fr]).set (S.length + 1) ((addAll q (List.replicate (p.length + q.length - 1) 0) 0 p).map fr)) := by
    rw [← addAll_pmul (L := p.length + q.length - 1) (fun h => by omega)]
    exact lessened_ref hl hc (by omega) _ (by simp) (by rw [addAll_len]; simp; omega)
  have e0 : (if (0 : Int) > ((p.length : Int) + (q.length : Int) - 1) then (0 : Int) else ((p.length : Int) + (q.length : Int) - 1)) = ((p.length + q.length - 1 : Nat) : Int) := by split <;> omega
  have x1 : exec (run T C N (k - 1)) C N (.asg (.name 2) (.bin .mul (.lst [(.cst c)]) (.bi .max [(.bin .sub (.bin .add (.bi .len [(.var 0)]) (.bi .len [(.var 1)])) (.int 1)), (.int 0)]))) [some (pl p), some (pl q), none, none, none, none, none] S = .nx [some (pl p), some (pl q), some (.ref (S.length + 1)), none, none, none, none] (S ++ [[fr 0]] ++ [(List.replicate (p.length + q.length - 1) 0).map fr]) := by
    simp only [ex_asg, ev_bin, ev_lst, evs_cons, evs_nil, ev_cst, hc, R.bind_ok, newL_1, ev_bi', ev_var, List.getElem?_cons_zero, List.getElem?_cons_succ, pl, bi_len_tup, List.length_map, op_add, op_sub, ev_int, bi_max_int, e0, e1, R.thenS_ok, put_name', List.set_cons_succ, List.set_cons_zero]
  simp only [fnProductBy, startD, List.map_cons, List.map_nil, List.length_cons, List.length_nil, List.cons_append, List.nil_append, List.replicate, exs_cons, exs_nil, x1, RS.seq_nx, r, ex_ret, ev_call', evs_cons, evs_nil, ev_var, List.getElem?_cons_zero, List.getElem?_cons_succ, R.bind_ok, e2, R.thenS_ok, seq_rt]
  exact end_rt (by simp) (by simp) (closed_pl _ _)
end
end DL

end
section
set_option maxHeartbeats 1000000
/-! # DL: POLYs divided, no program in sight -/
namespace DL
theorem cv_delta : ∀ (i t : Nat) (c : Rat) (g : Nat → Rat), cv (fun j => if j = t then c else 0) g i = if i < t then 0 else c * g (i - t)
  | 0, 0, c, g => by simp [cv]
  | 0, t + 1, c, g => by simp [cv]
  | i + 1, 0, c, g => by
    have e : sh (fun j => if j = 0 then c else 0) = fun _ => 0 := funext fun j => by simp [sh]
    rw [cv, e, cv_zero_left, if_pos rfl, if_neg (by omega)]
    show c * g (i + 1) + 0 = c * g (i + 1 - 0)
    rw [Nat.sub_zero]; grind
  | i + 1, t + 1, c, g => by
    have e : sh (fun j => if j = t + 1 then c else 0) = fun j => if j = t then c else 0 := funext fun j => by simp [sh]
    rw [cv, e, cv_delta i t c g]
    have e0 : (if (0 : Nat) = t + 1 then c else 0) = 0 := if_neg (by omega)
    rw [e0, Rat.zero_mul, Rat.zero_add, show i + 1 - (t + 1) = i - t by omega]
    by_cases h : i < t
    · rw [if_pos h, if_pos (by omega)]
    · rw [if_neg h, if_neg (by omega)]
theorem cf_set_delta {p : List Rat} {t : Nat} {c : Rat} (h : t < p.length) (h0 : cf p t = 0) : cf (p.set t c) = fun j => cf p j + (if j = t then c else 0) := funext fun j => by
  rw [cf_set h]
  by_cases e : j = t
  · subst e; rw [if_pos rfl, if_pos rfl, h0]; grind
  · rw [if_neg e, if_neg e]; grind
/-- turns of a division: what is found, what is left -/
def dvGo (b : List Rat) : Nat → List Rat → List Rat → List Rat × List Rat
  | 0, wh, left => (wh, left)
  | t + 1, wh, left => dvGo b t (wh.set t (cf left (t + b.length - 1) / cf b (b.length - 1))) (addRow (-(cf left (t + b.length - 1) / cf b (b.length - 1))) left t b)
theorem dvGo_spec {b : List Rat} (hb : b ≠ []) (hl : cf b (b.length - 1) ≠ 0) : ∀ (t : Nat) (wh left : List Rat), t ≤ wh.length → (∀ i, i < t → cf wh i = 0) → (t ≠ 0 → t + b.length ≤ left.length + 1) → (∀ i, t + b.length - 1 ≤ i → cf left i = 0) →
    (dvGo b t wh left).1.length = wh.length ∧ (dvGo b t wh left).2.length = left.length ∧ (∀ i, cv (cf (dvGo b t wh left).1) (cf b) i + cf (dvGo b t wh left).2 i = cv (cf wh) (cf b) i + cf left i) ∧ ∀ i, b.length - 1 ≤ i → cf (dvGo b t wh left).2 i = 0
  | 0, wh, left, _, _, _, h4 => ⟨rfl, rfl, fun _ => rfl, fun i hi => h4 i (by omega)⟩
  | t + 1, wh, left, h1, h2, h3, h4 => by
    have h3 := h3 (by omega)
    have hbl : 0 < b.length := List.length_pos_iff.mpr hb
    rw [dvGo]
    obtain ⟨c, hc⟩ : ∃ c, c = cf left (t + b.length - 1) / cf b (b.length - 1) := ⟨_, rfl⟩
    rw [← hc]
    have hcm : c * cf b (b.length - 1) = cf left (t + b.length - 1) := by rw [hc]; exact Rat.div_mul_cancel hl
    have hr := fun i => cf_addRow (-c) b left t i (by omega)
    obtain ⟨r1, r2, r3, r4⟩ := dvGo_spec hb hl t (wh.set t c) (addRow (-c) left t b) (by rw [List.length_set]; omega) (fun i hi => by
        rw [cf_set (by omega), if_neg (by omega)]
        exact h2 i (by omega)) (fun _ => by rw [addRow_len]; omega) (fun i hi => by
        rw [hr]
        rw [if_neg (by omega)]
        by_cases e : i = t + b.length - 1
        · subst e
          rw [show t + b.length - 1 - t = b.length - 1 by omega, ← hcm]; grind
        · rw [h4 i (by omega), cf_ge (p := b) (by omega)]; grind)
    refine ⟨by rw [r1, List.length_set], by rw [r2, addRow_len], fun i => ?_, r4⟩
    rw [r3, cf_set_delta (by omega) (h2 t (by omega)), cv_add_left, cv_delta, hr]
    by_cases e : i < t
    · rw [if_pos e, if_pos e]; grind
    · rw [if_neg e, if_neg e]; grind
def pdiv (a b : List Rat) : List Rat × List Rat :=
  (trim (dvGo b (a.length + 1 - b.length) (List.replicate (a.length + 1 - b.length) 0) a).1, trim (dvGo b (a.length + 1 - b.length) (List.replicate (a.length + 1 - b.length) 0) a).2)
theorem pdiv_go {a b : List Rat} (hb : b ≠ []) (hn : Nm b) : (dvGo b (a.length + 1 - b.length) (List.replicate (a.length + 1 - b.length) 0) a).1.length = a.length + 1 - b.length ∧
    (dvGo b (a.length + 1 - b.length) (List.replicate (a.length + 1 - b.length) 0) a).2.length = a.length ∧ (∀ i, cv (cf (dvGo b (a.length + 1 - b.length) (List.replicate (a.length + 1 - b.length) 0) a).1) (cf b) i + cf (dvGo b (a.length + 1 - b.length) (List.replicate (a.length + 1 - b.length) 0) a).2 i = cf a i) ∧
    ∀ i, b.length - 1 ≤ i → cf (dvGo b (a.length + 1 - b.length) (List.replicate (a.length + 1 - b.length) 0) a).2 i = 0 := by
  have hbl : 0 < b.length := List.length_pos_iff.mpr hb
  obtain ⟨r1, r2, r3, r4⟩ := dvGo_spec hb (hn.resolve_left hb) (a.length + 1 - b.length) (List.replicate (a.length + 1 - b.length) 0) a (by simp) (fun i _ => cf_rep) (fun h => by omega) (fun i hi => cf_ge (by omega))
  refine ⟨by rw [r1]; simp, r2, fun i => ?_, r4⟩
  rw [r3, show cf (List.replicate (a.length + 1 - b.length) (0 : Rat)) = fun _ => 0 from funext fun _ => cf_rep, cv_zero_left]; grind
theorem pdiv1 (a b : List Rat) (i : Nat) : cf (pdiv a b).1 i = cf (dvGo b (a.length + 1 - b.length) (List.replicate (a.length + 1 - b.length) 0) a).1 i := cf_trim _ _
theorem pdiv2 (a b : List Rat) (i : Nat) : cf (pdiv a b).2 i = cf (dvGo b (a.length + 1 - b.length) (List.replicate (a.length + 1 - b.length) 0) a).2 i := cf_trim _ _
theorem pdiv_cf {a b : List Rat} (hb : b ≠ []) (hn : Nm b) (i : Nat) : cv (cf (pdiv a b).1) (cf b) i + cf (pdiv a b).2 i = cf a i := by
  have h := (pdiv_go (a := a) hb hn).2.2.1 i
  rw [pdiv2, cv_cong (pdiv1 a b) (fun _ => rfl)]
  exact h
theorem pdiv_nm (a b : List Rat) : Nm (pdiv a b).1 ∧ Nm (pdiv a b).2 := ⟨nm_trim _, nm_trim _⟩
theorem pdiv_rlen {a b : List Rat} (hb : b ≠ []) (hn : Nm b) : (pdiv a b).2.length + 1 ≤ b.length := by
  have hbl : 0 < b.length := List.length_pos_iff.mpr hb
  have := len_le_of_cf (n := b.length - 1) (pdiv_nm a b).2 fun i hi => by
    unfold pdiv
    rw [cf_trim]
    exact (pdiv_go hb hn).2.2.2 i hi
  omega
theorem pdiv_qlen {a b : List Rat} (hb : b ≠ []) (hn : Nm b) : (pdiv a b).1.length ≤ a.length + 1 - b.length := by
  have h := trim_len (dvGo b (a.length + 1 - b.length) (List.replicate (a.length + 1 - b.length) 0) a).1
  have h2 := tlen_le (dvGo b (a.length + 1 - b.length) (List.replicate (a.length + 1 - b.length) 0) a).1 (dvGo b (a.length + 1 - b.length) (List.replicate (a.length + 1 - b.length) 0) a).1.length
  rw [(pdiv_go hb hn).1] at h2 h
  show (trim _).length ≤ _
  omega
theorem pdiv_lin {a b : List Rat} (ha : Nm a) (hb : b ≠ []) (hn : Nm b) : lin (pmul (pdiv a b).1 b) (pdiv a b).2 1 = a := nm_ext (nm_lin _ _ _) ha fun i => by
  have e := pdiv_cf (a := a) hb hn i
  rw [cf_lin, cf_pmul]; grind
/-- there is but one such pair -/
theorem pdiv_one {a b q r : List Rat} (hb : b ≠ []) (hn : Nm b) (hq : Nm q) (hr : Nm r) (hl : r.length + 1 ≤ b.length) (h : ∀ i, cv (cf q) (cf b) i + cf r i = cf a i) : pdiv a b = (q, r) := by
  have hbl : 0 < b.length := List.length_pos_iff.mpr hb
  have hb0 := hn.resolve_left hb
  obtain ⟨nq, nr⟩ := pdiv_nm a b
  have key : pmul (lin (pdiv a b).1 q (-1)) b = lin r (pdiv a b).2 (-1) := nm_ext (nm_pmul _ _) (nm_lin _ _ _) fun i => by
    rw [cf_pmul, cf_lin, show cf (lin (pdiv a b).1 q (-1)) = fun i => cf (pdiv a b).1 i + (-1) * cf q i from funext fun i => cf_lin _ _ _ _, cv_add_left, cv_smul_left]
    have e1 := h i
    have e2 := pdiv_cf (a := a) hb hn i
    grind
  have z : lin (pdiv a b).1 q (-1) = [] := by
    by_cases c : lin (pdiv a b).1 q (-1) = []
    · exact c
    · exfalso
      have hlen := pmul_len (nm_lin _ _ _) hn c hb
      rw [key] at hlen
      have h1 : (lin r (pdiv a b).2 (-1)).length ≤ b.length - 1 := len_le_of_cf (nm_lin _ _ _) fun i hi => by
        rw [cf_lin, cf_ge (p := r) (by omega), cf_ge (p := (pdiv a b).2) (by have := pdiv_rlen (a := a) hb hn; omega)]; grind
      have h2 : 0 < (lin (pdiv a b).1 q (-1)).length := List.length_pos_iff.mpr c
      omega
  have e1 : (pdiv a b).1 = q := nm_ext nq hq fun i => by
    have := cf_lin (pdiv a b).1 q (-1) i
    rw [z, cf_nil] at this
    grind
  have e2 : (pdiv a b).2 = r := nm_ext nr hr fun i => by
    have a1 := h i
    have a2 := pdiv_cf (a := a) hb hn i
    rw [e1] at a2
    grind
  exact Prod.ext e1 e2
/-! ### how great the numbers get -/
/-- a FRACTION over the last number -/
theorem in_over {D M E : Nat} {x y : Rat} {l : Int} (hx : In D M x) (hy : y * (E : Rat) = (l : Rat)) (hl : l ≠ 0) : In (D * l.natAbs) (M * E) (x / y) := by
  obtain ⟨m, h1, h2⟩ := hx
  have hy0 : y ≠ 0 := fun z => by
    rw [z, Rat.zero_mul] at hy
    exact hl (Rat.intCast_inj.mp (by rw [← hy]; rfl))
  have hz : x / y * y = x := Rat.div_mul_cancel hy0
  have hM : m.natAbs * E ≤ M * E := Nat.mul_le_mul_right _ h1
  rcases Int.natAbs_eq l with e | e
  · refine ⟨m * (E : Int), by rw [Int.natAbs_mul]; exact hM, ?_⟩
    have c1 : ((l.natAbs : Nat) : Rat) = (l : Rat) := by
      have : ((l.natAbs : Int) : Rat) = (l : Rat) := by rw [← e]
      exact this
    rw [Rat.natCast_mul, c1, ← hy, Rat.intCast_mul, ← h2]
    have c2 : (((E : Int)) : Rat) = (E : Rat) := rfl
    rw [c2]
    grind
  · refine ⟨-(m * (E : Int)), by rw [Int.natAbs_neg, Int.natAbs_mul]; exact hM, ?_⟩
    have c1 : ((l.natAbs : Nat) : Rat) = -(l : Rat) := by
      have h3 : ((l.natAbs : Int)) = -l := by omega
      have : ((l.natAbs : Int) : Rat) = ((-l : Int) : Rat) := by rw [h3]
      rw [Rat.intCast_neg] at this
      exact this
    rw [Rat.natCast_mul, c1, ← hy, Rat.intCast_neg, Rat.intCast_mul, ← h2]
    have c2 : (((E : Int)) : Rat) = (E : Rat) := rfl
    rw [c2]
    grind
/-- a number less so many times another one -/
theorem in_less {D M E B' : Nat} {x z y b : Rat} {l : Int} (hx : In D M x) (hz : In D M z) (hb : In E B' b) (hy : y * (E : Rat) = (l : Rat)) (hl : l ≠ 0) (hE : 0 < E) (hlB : l.natAbs ≤ B') : In (D * l.natAbs) (2 * (M * B')) (x + -(z / y) * b) := by
  obtain ⟨m, h1, h2⟩ := hx
  obtain ⟨k, h3, h4⟩ := hz
  obtain ⟨n, h5, h6⟩ := hb
  have hy0 : y ≠ 0 := fun e => by
    rw [e, Rat.zero_mul] at hy
    exact hl (Rat.intCast_inj.mp (by rw [← hy]; rfl))
  have hE0 : (E : Rat) ≠ 0 := fun h => by have : E = 0 := by simpa using h
                                          omega
  have hq : z / y * y = z := Rat.div_mul_cancel hy0
  have a1 : m.natAbs * l.natAbs ≤ M * B' := Nat.mul_le_mul h1 hlB
  have a2 : k.natAbs * n.natAbs ≤ M * B' := Nat.mul_le_mul h3 h5
  have key : z / y * b * (D : Rat) * (l : Rat) = (k : Rat) * (n : Rat) := by
    have e1 : z / y * b * (D : Rat) * (l : Rat) * (E : Rat) = (k : Rat) * (n : Rat) * (E : Rat) := by
      rw [← hy, ← h4, ← h6, ← hq]
      have : z / y * y / y = z / y := by rw [hq]
      rw [this]
      grind
    have := congrArg (fun t => t / (E : Rat)) e1
    simpa [Rat.mul_div_cancel hE0] using this
  rcases Int.natAbs_eq l with e | e
  · refine ⟨m * l - k * n, ?_, ?_⟩
    · have := Int.natAbs_mul m l
      have := Int.natAbs_mul k n
      omega
    · have c1 : ((l.natAbs : Nat) : Rat) = (l : Rat) := by
        have : ((l.natAbs : Int) : Rat) = (l : Rat) := by rw [← e]
        exact this
      rw [Rat.natCast_mul, c1, Rat.intCast_sub, Rat.intCast_mul, Rat.intCast_mul, ← key, ← h2]
      grind
  · refine ⟨-(m * l - k * n), ?_, ?_⟩
    · have := Int.natAbs_mul m l
      have := Int.natAbs_mul k n
      omega
    · have c1 : ((l.natAbs : Nat) : Rat) = -(l : Rat) := by
        have h3 : ((l.natAbs : Int)) = -l := by omega
        have : ((l.natAbs : Int) : Rat) = ((-l : Int) : Rat) := by rw [h3]
        rw [Rat.intCast_neg] at this
        exact this
      rw [Rat.natCast_mul, c1, Rat.intCast_neg, Rat.intCast_sub, Rat.intCast_mul, Rat.intCast_mul, ← key, ← h2]
      grind
end DL

end
section
set_option maxHeartbeats 1000000
set_option exponentiation.threshold 10000
/-! # DL: worths, checks, the outer functions of POLYs -/
namespace DL
open PySem (Str)
/-- what a worth's way asks -/
def WOk (p : List Rat) (x : Rat) : Prop := Ok x ∧ ∀ pre suf, pre ++ suf = p → Ok (worth suf x) ∧ Ok (worth suf x * x)
theorem worth_in {D B E B' M : Nat} {x : Rat} (hx : In E B' x) (hM : E ≤ M) (hM2 : B' ≤ M) (h1 : 1 ≤ M) : ∀ {p : List Rat}, (∀ c ∈ p, In D B c) → In (D * E ^ p.length) (p.length * (B * M ^ p.length)) (worth p x)
  | [], _ => by simp only [worth]; exact in_zero _ _
  | a :: p, h => by
    have ih := worth_in (D := D) (B := B) hx hM hM2 h1 (p := p) fun c hc => h c (List.mem_cons_of_mem _ hc)
    have e1 := (h a List.mem_cons_self).scale (E ^ (p.length + 1))
    have e2 := hx.mul ih
    have ed : E * (D * E ^ p.length) = D * E ^ (p.length + 1) := by
      rw [Nat.pow_succ, Nat.mul_left_comm, Nat.mul_comm E]
    rw [ed] at e2
    refine (e1.add e2).mono ?_
    simp only [List.length_cons]
    have p1 : E ^ (p.length + 1) ≤ M ^ (p.length + 1) := Nat.pow_le_pow_left hM _
    have a1 : B * E ^ (p.length + 1) ≤ B * M ^ (p.length + 1) := Nat.mul_le_mul_left _ p1
    have a2 : B' * (p.length * (B * M ^ p.length)) ≤ M * (p.length * (B * M ^ p.length)) := Nat.mul_le_mul_right _ hM2
    have a3 : M * (p.length * (B * M ^ p.length)) = p.length * (B * M ^ (p.length + 1)) := by
      rw [Nat.pow_succ, Nat.mul_left_comm]
      congr 1
      rw [Nat.mul_left_comm, Nat.mul_comm M]
    rw [Nat.succ_mul]
    omega
theorem wok_of {D B E B' M n : Nat} {p : List Rat} {x : Rat} (hD : 0 < D) (hE : 0 < E) (hp : ∀ c ∈ p, In D B c) (hx : In E B' x) (hM : E ≤ M) (hM2 : B' ≤ M) (hn : p.length ≤ n) (b1 : D * M ^ (n + 1) < 2 ^ 4400) (b2 : n * (B * M ^ (n + 1)) < 2 ^ 4400) (b3 : M < 2 ^ 4400) : WOk p x := by
  have h1 : 1 ≤ M := by omega
  refine ⟨hx.ok hE (by omega) (by omega), fun pre suf e => ?_⟩
  have hs : ∀ c ∈ suf, In D B c := fun c hc => hp c (by rw [← e]; exact List.mem_append_right _ hc)
  have hl : suf.length ≤ n := by
    have := congrArg List.length e
    simp at this
    omega
  have w := worth_in hx hM hM2 h1 hs
  have hE1 : 0 < E ^ suf.length := Nat.pow_pos hE
  have pe : E ^ suf.length ≤ M ^ n := Nat.le_trans (Nat.pow_le_pow_left hM _) (Nat.pow_le_pow_right h1 hl)
  have pm : M ^ suf.length ≤ M ^ n := Nat.pow_le_pow_right h1 hl
  have em : M ^ (n + 1) = M ^ n * M := by rw [Nat.pow_succ]
  have lm : M ^ n ≤ M ^ n * M := Nat.le_mul_of_pos_right _ h1
  constructor
  · refine w.ok (Nat.mul_pos hD hE1) (Nat.lt_of_le_of_lt (Nat.mul_le_mul_left _ (Nat.le_trans pe ?_)) b1) (Nat.lt_of_le_of_lt (Nat.mul_le_mul hl (Nat.mul_le_mul_left _ (Nat.le_trans pm ?_))) b2)
    · rw [em]; exact lm
    · rw [em]; exact lm
  · have wx := w.mul hx
    refine wx.ok (Nat.mul_pos (Nat.mul_pos hD hE1) hE) (Nat.lt_of_le_of_lt ?_ b1) (Nat.lt_of_le_of_lt ?_ b2)
    · rw [em, Nat.mul_assoc]
      exact Nat.mul_le_mul_left _ (Nat.mul_le_mul pe hM)
    · rw [em, Nat.mul_assoc, Nat.mul_assoc]
      exact Nat.mul_le_mul hl (Nat.mul_le_mul_left _ (Nat.mul_le_mul pm hM2))
section
variable {T : List Fn} {C : List D} {N k f : Nat} {S : Store}
def woB (P M : Nat) : List DL.St := [(.asg (.name 2) (.call P [(.call M [(.var 2), (.var 1)]), (.var 3)]))]
theorem worth_loop {P M : Nat} (hP : PlusS T C N k P) (hM : TimesS T C N k M) {p : List Rat} {x : Rat} (hw : WOk p x) (hp : POk p) (e0 : Option D) : ∀ (r suf : List Rat) (e3 : Option D), r.reverse ++ suf = p →
    ∃ e3', forLoop [] (.name 3) (fun e S' => execs (run T C N k) C N (woB P M) e S') (r.map fr) [e0, some (fr x), some (fr (worth suf x)), e3] S = .nx [e0, some (fr x), some (fr (worth p x)), e3'] S
  | [], suf, e3, e => by
    have : suf = p := by simpa using e
    subst this
    exact ⟨e3, for_nil rfl⟩
  | c :: r, suf, e3, e => by
    have e' : r.reverse ++ (c :: suf) = p := by rw [← e]; simp
    obtain ⟨o1, o2⟩ := hw.2 (r.reverse ++ [c]) suf (by rw [← e]; simp)
    have oc : Ok c := by
      have : c ∈ p := by rw [← e']; simp
      obtain ⟨i, _, rfl⟩ := mem_cf this
      exact hp i
    have ew : worth suf x * x + c = worth (c :: suf) x := by simp only [worth]; grind
    obtain ⟨e3', ih⟩ := worth_loop hP hM hw hp e0 r (c :: suf) (some (fr c)) e'
    refine ⟨e3', ?_⟩
    rw [List.map_cons, for_go (env2 := [e0, some (fr x), some (fr (worth (c :: suf) x)), some (fr c)]) (S2 := S) rfl rfl ?_, ih]
    simp [woB, hM _ _ S o1 hw.1, hP _ _ S o2 oc, ew]
theorem worth_for {P M : Nat} (hP : PlusS T C N k P) (hM : TimesS T C N k M) {p : List Rat} {x : Rat} (hw : WOk p x) (hp : POk p) (e3 : Option D) :
    ∃ e3', exec (run T C N k) C N (.for_ (.name 3) (.seq (.rev (.var 0))) (woB P M)) [some (pl p), some (fr x), some (fr 0), e3] S = .nx [some (pl p), some (fr x), some (fr (worth p x)), e3'] S := by
  obtain ⟨e3', r⟩ := worth_loop (S := S) hP hM hw hp (some (pl p)) p.reverse [] e3 (by simp)
  refine ⟨e3', ?_⟩
  rw [ex_for]
  have e : revR (pl p) S = .ok (pl p.reverse) S := by
    show R.ok (D.tup (p.map fr).reverse) S = _
    rw [← List.map_reverse]; rfl
  simp only [evi_seq, ev_rev, ev_var, List.getElem?_cons_zero, R.bind_ok, e]
  simp only [pl, items_tup, dep_tup, R.bind_ok, R.thenS_ok] at *
  exact r
def fnWorthOf (c P M : Nat) : Fn := ⟨2, 4, [(.asg (.name 2) (.cst c)), (.for_ (.name 3) (.seq (.rev (.var 0))) (woB P M)), (.ret (.var 2))]⟩
theorem worthOf_pl {c P M : Nat} (h : T[f]? = some (fnWorthOf c P M)) (hc : C[c]? = some (fr 0)) (hP : PlusS T C N (k - 1) P) (hM : TimesS T C N (k - 1) M) (hk : 1 ≤ k) {p : List Rat} {x : Rat} (hw : WOk p x) (hp : POk p) : run T C N k f [pl p, fr x] S = .ok (fr (worth p x)) S := by
  rw [run_s h hk rfl]
  obtain ⟨e3', r⟩ := worth_for (S := S) hP hM hw hp none
  simp [fnWorthOf, startD, hc, r]
/-! ### checks -/
theorem num_pl (n : Nat) (p : List Rat) : num (n + 2) (pl p) = true := nums_fr n p
theorem beq_pl_nil (p : List Rat) : D.beq (pl p) (.tup []) = decide (p = []) := by
  cases p with
  | nil => rfl
  | cons a p => rfl
theorem eq_nil {p : List Rat} : cmpR .eq (pl p) (.tup []) S = .ok (.bl (decide (p = []))) S := cmp_eq (by rw [eqD_num (num_pl 10 p) rfl, beq_pl_nil])
theorem ne_nil {p : List Rat} : cmpR .ne (pl p) (.tup []) S = .ok (.bl !(decide (p = []))) S := cmp_ne (by rw [eqD_num (num_pl 10 p) rfl, beq_pl_nil])
theorem idx_last {p : List Rat} (h : p ≠ []) : idxR (pl p) (.int (-1)) S = .ok (fr (cf p (p.length - 1))) S := by
  have hl : p.length ≠ 0 := fun e => h (List.length_eq_zero_iff.mp e)
  refine idx_tup ?_
  unfold L2.atI L2.ixN
  rw [if_neg (by omega), if_pos (by simp; omega)]
  show (p.map fr)[(-1 + ((p.map fr).length : Int)).toNat]? = _
  rw [show (-1 + ((p.map fr).length : Int)).toNat = p.length - 1 by simp; omega]
  exact map_get (by omega)
/-- a POLY that the text takes -/
def Poly (p : List Rat) : Prop := Nm p ∧ p.length ≤ 13
def fnIsPolyBy (a m c : Nat) : Fn := ⟨1, 1, [(.ret (.and_ (.call a [(.var 0), (.int 0), (.cst m)]) (.or_ (.cmp .eq (.var 0) (.tup [])) (.cmp .ne (.idx (.var 0) (.neg (.int 1))) (.cst c)))))]⟩
theorem isPolyBy_pl {a m c t i w : Nat} (h : T[f]? = some (fnIsPolyBy a m c)) (hm : C[m]? = some (.int 13)) (hc : C[c]? = some (fr 0)) (ha : T[a]? = some (fnAreFractions t i)) (ht : T[t]? = some fnIsTupleOf) (hi : T[i]? = some (fnIsFraction w t)) (hw : T[w]? = some fnIsWhole) (hk : 4 ≤ k) {p : List Rat} (hp : Poly p) :
    run T C N k f [pl p] S = .ok (.bl true) S := by
  rw [run_s h (by omega) rfl]
  have e1 := areFractions_pl (C := C) (N := N) (S := S) (k := k - 1) ha ht hi hw (by omega) p 0 13 (by omega) (by have := hp.2; omega) (small (by have := hp.2; omega))
  by_cases e : p = []
  · have e2 := eq_nil (S := S) (p := p)
    rw [decide_eq_true e] at e2
    simp [fnIsPolyBy, startD, hm, e1, e2]
  · have e2 := eq_nil (S := S) (p := p)
    rw [decide_eq_false e] at e2
    have e3 := idx_last (S := S) e
    have e4 := cmp_ne (eqD_fr (S := S) (p := cf p (p.length - 1)) (q := 0))
    rw [decide_eq_false (hp.1.resolve_left e)] at e4
    simp [fnIsPolyBy, startD, hm, hc, e1, e2, e3, e4]
def fnCheck (i : Nat) : Fn := ⟨1, 1, [(.ite (.nt (.call i [(.var 0)])) [.no] [])]⟩
theorem check_ok {i : Nat} (h : T[f]? = some (fnCheck i)) (hk : 1 ≤ k) {d : D} (hi : ∀ S, run T C N (k - 1) i [d] S = .ok (.bl true) S) : run T C N k f [d] S = .ok .non S := by
  rw [run_s h hk rfl]
  simp [fnCheck, startD, hi]
def fnCheck2 (a b : Nat) : Fn := ⟨2, 2, [(.expr (.call a [(.var 0)])), (.expr (.call b [(.var 1)]))]⟩
theorem check2_ok {a b : Nat} (h : T[f]? = some (fnCheck2 a b)) (hk : 1 ≤ k) {d e : D} (ha : ∀ S, run T C N (k - 1) a [d] S = .ok .non S) (hb : ∀ S, run T C N (k - 1) b [e] S = .ok .non S) : run T C N k f [d, e] S = .ok .non S := by
  rw [run_s h hk rfl]
  simp [fnCheck2, startD, ha, hb]
/-- f(x): g(x) -/
def fnVia1 (g : Nat) : Fn := ⟨1, 1, [(.ret (.call g [(.var 0)]))]⟩
theorem via1_ok {g : Nat} (h : T[f]? = some (fnVia1 g)) (hk : 1 ≤ k) {d r : D} (hg : ∀ S, run T C N (k - 1) g [d] S = .ok r S) : run T C N k f [d] S = .ok r S := by
  rw [run_s h hk rfl]
  simp [fnVia1, startD, hg]
/-- f(x): a(x), then g(x) -/
def fnSeq1 (a g : Nat) : Fn := ⟨1, 1, [(.expr (.call a [(.var 0)])), (.ret (.call g [(.var 0)]))]⟩
theorem seq1_ok {a g : Nat} (h : T[f]? = some (fnSeq1 a g)) (hk : 1 ≤ k) {d r x : D} (ha : ∀ S, run T C N (k - 1) a [d] S = .ok x S) (hg : ∀ S, run T C N (k - 1) g [d] S = .ok r S) : run T C N k f [d] S = .ok r S := by
  rw [run_s h hk rfl]
  simp [fnSeq1, startD, ha, hg]
/-- f(x, y): a(x, y), then g(x, y) -/
def fnSeq2 (a g : Nat) : Fn := ⟨2, 2, [(.expr (.call a [(.var 0), (.var 1)])), (.ret (.call g [(.var 0), (.var 1)]))]⟩
theorem seq2_ok {a g : Nat} (h : T[f]? = some (fnSeq2 a g)) (hk : 1 ≤ k) {d e r x : D} (ha : ∀ S, run T C N (k - 1) a [d, e] S = .ok x S) (hg : ∀ S, run T C N (k - 1) g [d, e] S = .ok r S) : run T C N k f [d, e] S = .ok r S := by
  rw [run_s h hk rfl]
  simp [fnSeq2, startD, ha, hg]
/-- f(x, y): a(x), b(y), then g(x, y) -/
def fnSeq3 (a b g : Nat) : Fn := ⟨2, 2, [(.expr (.call a [(.var 0)])), (.expr (.call b [(.var 1)])), (.ret (.call g [(.var 0), (.var 1)]))]⟩
theorem seq3_ok {a b g : Nat} (h : T[f]? = some (fnSeq3 a b g)) (hk : 1 ≤ k) {d e r x y : D} (ha : ∀ S, run T C N (k - 1) a [d] S = .ok x S) (hb : ∀ S, run T C N (k - 1) b [e] S = .ok y S) (hg : ∀ S, run T C N (k - 1) g [d, e] S = .ok r S) : run T C N k f [d, e] S = .ok r S := by
  rw [run_s h hk rfl]
  simp [fnSeq3, startD, ha, hb, hg]
def fnDegreeOf : Fn := ⟨1, 1, [(.ret (.bin .sub (.bi .len [(.var 0)]) (.int 1)))]⟩
theorem degreeOf_pl (h : T[f]? = some fnDegreeOf) (hk : 1 ≤ k) (p : List Rat) : run T C N k f [pl p] S = .ok (.int ((p.length : Int) - 1)) S := by
  rw [run_s h hk rfl]
  simp [fnDegreeOf, startD, pl]
def fnPolyTimes (a g m : Nat) : Fn := ⟨2, 3, [(.expr (.call a [(.var 0), (.var 1)])), (.asg (.name 2) (.call g [(.var 0), (.var 1)])), (.ite (.cmp .gt (.bi .len [(.var 2)]) (.cst m)) [.no] []), (.ret (.var 2))]⟩
theorem polyTimes_ok {a g m : Nat} (h : T[f]? = some (fnPolyTimes a g m)) (hm : C[m]? = some (.int 13)) (hk : 1 ≤ k) {d e x : D} {p : List Rat} (hl : p.length ≤ 13) (ha : ∀ S, run T C N (k - 1) a [d, e] S = .ok x S) (hg : ∀ S, run T C N (k - 1) g [d, e] S = .ok (pl p) S) : run T C N k f [d, e] S = .ok (pl p) S := by
  rw [run_s h hk rfl]
  have e1 : decide ((13 : Int) < ((p.map fr).length : Int)) = false := decide_eq_false (by simp; omega)
  simp only [pl] at *
  simp only [List.length_map] at e1
  simp [fnPolyTimes, startD, hm, ha, hg]
  rw [if_neg (by omega)]
  simp
end
end DL

end
section
set_option maxHeartbeats 1000000
/-! # DL: the laws' own helpers -/
namespace DL
open PySem (Str)
/-! ### Euclid -/
def es : Int × Int → Int × Int := fun p => if 0 < p.2 then (p.2, p.1.fmod p.2) else (p.1, 0)
def esN : Nat → Int × Int → Int × Int
  | 0, p => p
  | n + 1, p => esN n (es p)
theorem esN_zero : ∀ (n : Nat) (x : Int), esN n (x, 0) = (x, 0)
  | 0, x => rfl
  | n + 1, x => by rw [esN]; simp only [es]; exact esN_zero n x
theorem es_nat {x y : Nat} (h : 0 < y) : es ((x : Int), (y : Int)) = ((y : Int), ((x % y : Nat) : Int)) := by
  unfold es
  simp only
  rw [if_pos (by omega), Int.fmod_eq_emod_of_nonneg _ (by omega)]; rfl
theorem esN_run : ∀ (m x y : Nat), y ≤ x → x * y < 2 ^ m → esN m ((x : Int), (y : Int)) = (((Nat.gcd x y : Nat) : Int), (0 : Int))
  | 0, x, y, h1, h2 => by
    have : y = 0 := by
      rcases Nat.eq_zero_or_pos y with h | h
      · exact h
      · have := Nat.mul_pos (show 0 < x by omega) h
        simp at h2
        omega
    subst this
    simp [esN]
  | m + 1, x, y, h1, h2 => by
    rcases Nat.eq_zero_or_pos y with h | h
    · subst h
      have := esN_zero (m + 1) (x : Int)
      simpa using this
    · rw [esN, es_nat h]
      have hm := Nat.mod_lt x h
      have hx := Nat.div_add_mod x y
      have hq : 1 ≤ x / y := (Nat.le_div_iff_mul_le h).mpr (by omega)
      have h3 : y ≤ y * (x / y) := Nat.le_mul_of_pos_right y hq
      have h4 : 2 * (x % y) ≤ x := by omega
      have h5 : y * (2 * (x % y)) ≤ y * x := Nat.mul_le_mul_left _ h4
      have e5 : y * (2 * (x % y)) = 2 * (y * (x % y)) := by rw [Nat.mul_left_comm]
      rw [Nat.pow_succ] at h2
      have e6 : y * x = x * y := Nat.mul_comm _ _
      rw [esN_run m y (x % y) (by omega) (by omega), Nat.gcd_comm x y, Nat.gcd_rec y x, Nat.gcd_comm]
theorem esN_gcd {m x y : Nat} (h : x * y < 2 ^ m) : esN (m + 1) ((x : Int), (y : Int)) = (((Nat.gcd x y : Nat) : Int), (0 : Int)) := by
  rcases Nat.eq_zero_or_pos y with h0 | h0
  · subst h0
    have := esN_zero (m + 1) (x : Int)
    simpa using this
  · rw [esN, es_nat h0]
    have hm := Nat.mod_lt x h0
    have h5 : y * (x % y) ≤ x * y := by
      rw [Nat.mul_comm x y]
      exact Nat.mul_le_mul_left _ (Nat.mod_le _ _)
    rw [esN_run m y (x % y) (by omega) (by omega), Nat.gcd_comm x y, Nat.gcd_rec y x, Nat.gcd_comm]
theorem esN_more {m n : Nat} {x y g : Nat} (h : esN m ((x : Int), (y : Int)) = ((g : Int), 0)) (l : m ≤ n) : esN n ((x : Int), (y : Int)) = ((g : Int), 0) := by
  obtain ⟨d, rfl⟩ := Nat.exists_eq_add_of_le l
  have e : ∀ (m : Nat) (p : Int × Int), esN (m + d) p = esN d (esN m p) := by
    intro m
    induction m with
    | zero => intro p; rw [Nat.zero_add]; rfl
    | succ m ih => intro p; rw [Nat.succ_add, esN, ih]; rfl
  rw [e, h, esN_zero]
theorem lt_bits (i : Int) : i.natAbs < 2 ^ PySem.Builtin.Int.intBits i := by
  unfold PySem.Builtin.Int.intBits
  split
  · rename_i h
    have : i = 0 := by simpa using h
    subst this; decide
  · exact Nat.lt_log2_self
section
variable {T : List Fn} {C : List D} {N k f : Nat} {S : Store}
def coB : List DL.St := [(.asg (.tup [(.name 0), (.name 1)]) (.ife (.cmp .gt (.var 1) (.int 0)) (.tup [(.var 1), (.bin .mod (.bi .int [(.var 0)]) (.var 1))]) (.tup [(.var 0), (.int 0)])))]
def fnCommon : Fn := ⟨2, 3, [(.asg (.tup [(.name 0), (.name 1)]) (.tup [(.bi .abs [(.var 0)]), (.bi .abs [(.var 1)])])), (.for_ (.name 2) (.range [(.bin .add (.bin .mul (.int 2) (.bin .add (.meth .bits (.var 0) []) (.meth .bits (.var 1) []))) (.int 2))]) coB), (.ret (.var 0))]⟩
theorem common_loop {F : Nat → List D → Store → R D} : ∀ (l : List D) (x y : Int) (e2 : Option D), ∃ e2', forLoop [] (.name 2) (fun e S' => execs F C N coB e S') l [some (.int x), some (.int y), e2] S = .nx [some (.int (esN l.length (x, y)).1), some (.int (esN l.length (x, y)).2), e2'] S
  | [], x, y, e2 => ⟨e2, for_nil rfl⟩
  | d :: l, x, y, e2 => by
    obtain ⟨e2', ih⟩ := common_loop (F := F) l (es (x, y)).1 (es (x, y)).2 (some d)
    refine ⟨e2', ?_⟩
    have step : execs F C N coB [some (.int x), some (.int y), some d] S = .nx [some (.int (es (x, y)).1), some (.int (es (x, y)).2), some d] S := by
      by_cases h : 0 < y
      · have e1 := op_mod (S := S) (i := x) (j := y) (by omega)
        simp [coB, h, e1, es]
      · simp [coB, h, es]
    rw [for_go rfl rfl step, ih]
    rfl
theorem mtd_bits {i : Int} : mtD .bits (.int i) [] S = .ok (.int (PySem.Builtin.Int.intBits i : Nat)) S := rfl
theorem common_ok (h : T[f]? = some fnCommon) (hk : 1 ≤ k) (a b : Int) (ha : a.natAbs < 2 ^ 9001) (hb : b.natAbs < 2 ^ 9001) : run T C N k f [.int a, .int b] S = .ok (.int (Nat.gcd a.natAbs b.natAbs : Nat)) S := by
  rw [run_s h hk rfl]
  have aa : ∀ i : Int, (if i < 0 then -i else i) = ((i.natAbs : Nat) : Int) := fun i => by split <;> omega
  have l1 : PySem.Builtin.Int.intBits ((a.natAbs : Nat) : Int) ≤ 9001 := bits_le (by rw [Int.natAbs_natCast]; exact ha)
  have l2 : PySem.Builtin.Int.intBits ((b.natAbs : Nat) : Int) ≤ 9001 := bits_le (by rw [Int.natAbs_natCast]; exact hb)
  generalize hA : PySem.Builtin.Int.intBits ((a.natAbs : Nat) : Int) = A at l1
  generalize hB : PySem.Builtin.Int.intBits ((b.natAbs : Nat) : Int) = B at l2
  have q1 := lt_bits ((a.natAbs : Nat) : Int)
  have q2 := lt_bits ((b.natAbs : Nat) : Int)
  rw [hA] at q1
  rw [hB] at q2
  simp only [Int.natAbs_natCast] at q1 q2
  have hm : mulOk 2 ((A : Int) + (B : Int)) = true := mulOk_of (a := 2) (b := 20) (by decide) (by omega) (by decide)
  have hbd : boundOk (2 * ((A : Int) + (B : Int)) + 2) = true := by
    rw [boundOk_eq]
    simp only [Bool.and_eq_true, decide_eq_true_eq]
    omega
  have hlen : (rangeL 0 (2 * ((A : Int) + (B : Int)) + 2).toNat).length = 2 * (A + B) + 2 := by
    unfold rangeL
    simp; omega
  obtain ⟨e2', r⟩ := common_loop (C := C) (N := N) (S := S) (F := run T C N (k - 1)) (rangeL 0 (2 * ((A : Int) + (B : Int)) + 2).toNat) (a.natAbs : Nat) (b.natAbs : Nat) none
  rw [hlen, esN_more (esN_gcd (lt_mul q1 q2)) (by omega)] at r
  have rb1 : recvOk .bits (.int ((a.natAbs : Nat) : Int)) S = true := rfl
  have rb2 : recvOk .bits (.int ((b.natAbs : Nat) : Int)) S = true := rfl
  have x2 : exec (run T C N (k - 1)) C N (.for_ (.name 2) (.range [(.bin .add (.bin .mul (.int 2) (.bin .add (.meth .bits (.var 0) []) (.meth .bits (.var 1) []))) (.int 2))]) coB) [some (.int ((a.natAbs : Nat) : Int)), some (.int ((b.natAbs : Nat) : Int)), none] S = .nx [some (.int ((Nat.gcd a.natAbs b.natAbs : Nat) : Int)), some (.int 0), e2'] S := by
    have ea : evs (run T C N (k - 1)) C [(.bin .add (.bin .mul (.int 2) (.bin .add (.meth .bits (.var 0) []) (.meth .bits (.var 1) []))) (.int 2))] [some (.int ((a.natAbs : Nat) : Int)), some (.int ((b.natAbs : Nat) : Int)), none] S = .ok [.int (2 * ((A : Int) + (B : Int)) + 2)] S := by
      simp only [evs_cons, evs_nil, ev_bin, ev_int, ev_meth, ev_var, List.getElem?_cons_zero, List.getElem?_cons_succ, R.bind_ok, rb1, rb2, if_true, mtd_bits, hA, hB, op_add, op_mul hm]
    rw [ex_for, evi_range1 ea hbd]
    exact r
  have x1 : exec (run T C N (k - 1)) C N (.asg (.tup [(.name 0), (.name 1)]) (.tup [(.bi .abs [(.var 0)]), (.bi .abs [(.var 1)])])) [some (.int a), some (.int b), none] S = .nx [some (.int ((a.natAbs : Nat) : Int)), some (.int ((b.natAbs : Nat) : Int)), none] S := by
    simp [aa]
  simp only [fnCommon, startD, List.map_cons, List.map_nil, List.length_cons, List.length_nil, List.cons_append, List.nil_append, List.replicate, exs_cons, exs_nil, x1, RS.seq_nx]
  simp only [x2, RS.seq_nx, ex_ret, ev_var, List.getElem?_cons_zero, R.thenS_ok, seq_rt, end_rt_same]
def fnShare (c : Nat) : Fn := ⟨2, 3, [(.asg (.name 2) (.ife (.cmp .gt (.var 1) (.int 0)) (.call c [(.var 0), (.var 1)]) (.bin .sub (.int 0) (.call c [(.var 0), (.var 1)])))), (.ret (.tup [(.bin .fdiv (.var 0) (.var 2)), (.bin .fdiv (.var 1) (.var 2))]))]⟩
theorem share_frac {c : Nat} (h : T[f]? = some (fnShare c)) (hc : T[c]? = some fnCommon) (hk : 2 ≤ k) : FracS T C N k f := fun a d nz S ha hd => by
  rw [run_s h (by omega) rfl]
  have hg := gcd_pos (a := a) nz
  have hle : Nat.gcd a.natAbs d ≤ d := Nat.le_of_dvd (by omega) (Nat.gcd_dvd_right _ _)
  have hdk : ∀ i : Int, divOk i ((Nat.gcd a.natAbs d : Nat) : Int) = true := fun i => divOk_of (by rw [Int.natAbs_natCast]; exact Nat.lt_of_le_of_lt hle hd)
  have hz : ((Nat.gcd a.natAbs d : Nat) : Int) ≠ 0 := by omega
  have hp : 0 < d := by omega
  have e : ∀ i : Int, opD .fdiv (.int i) (.int ((Nat.gcd a.natAbs d : Nat) : Int)) S = .ok (.int (i / ((Nat.gcd a.natAbs d : Nat) : Int))) S := fun i => by
    rw [op_div hz (hdk i), Int.fdiv_eq_ediv_of_nonneg _ (by omega)]
  have ec := common_ok (C := C) (N := N) (S := S) (k := k - 1) hc (by omega) a d ha (by rw [Int.natAbs_natCast]; exact Nat.lt_of_lt_of_le hd (Nat.pow_le_pow_right (by omega) (by omega)))
  simp only [Int.natAbs_natCast] at ec
  simp [fnShare, startD, hp, ec, e, fr, Rat.normalize_eq]
/-! ### rows of numbers -/
theorem cut_last {m : List D} {x : D} : cutD (m ++ [x]) (some (-1)) none = [x] := by
  unfold cutD HT.sIx
  simp only
  rw [if_pos (by decide), show ((-1 : Int) + ((m ++ [x]).length : Int)).toNat = m.length by simp; omega]
  simp
theorem cut_last0 : cutD [] (some (-1)) none = [] := rfl
/-- one lap of the cutting -/
def ct1 (p : List Rat) (t : Nat) : Nat := if t = 0 then 0 else if cf p (t - 1) = 0 then t - 1 else t
def ctN (p : List Rat) : Nat → Nat → Nat
  | 0, t => t
  | m + 1, t => ctN p m (ct1 p t)
theorem ctN_fix {p : List Rat} {t : Nat} (h : ct1 p t = t) : ∀ m, ctN p m t = t
  | 0 => rfl
  | m + 1 => by rw [ctN, h]; exact ctN_fix h m
theorem ctN_tlen (p : List Rat) : ∀ m t, t ≤ m → ctN p m t = tlen p t
  | 0, t, h => by
    have : t = 0 := by omega
    subst this; rfl
  | m + 1, 0, h => by rw [ctN_fix (by rfl)]; rfl
  | m + 1, s + 1, h => by
    unfold tlen
    rw [ctN]
    by_cases hz : cf p s = 0
    · have e : ct1 p (s + 1) = s := by simp [ct1, hz]
      rw [e, if_pos hz]
      exact ctN_tlen p m s (by omega)
    · have e : ct1 p (s + 1) = s + 1 := by simp [ct1, hz]
      rw [e, if_neg hz]
      exact ctN_fix e m
def cuB : List DL.St := [(.ite (.cmp .eq (.slc (.var 1) [(.neg (.int 1))] []) (.lst [(.tup [(.int 0), (.int 1)])])) [(.expr (.meth .pop (.var 1) []))] [])]
theorem fr0 : D.tup [.int 0, .int 1] = fr 0 := rfl
theorem take_last {p : List Rat} {t : Nat} (h : t + 1 ≤ p.length) : (p.take (t + 1)).map fr = (p.take t).map fr ++ [fr (cf p t)] := by
  rw [List.take_succ, List.getElem?_eq_getElem (by omega), cf_lt (by omega)]
  simp only [Option.toList_some, List.map_append, List.map_cons, List.map_nil]
theorem cut_step {F : Nat → List D → Store → R D} {p : List Rat} {t n : Nat} {e0 e2 : Option D} (hS : S[n]? = some ((p.take t).map fr)) (ht : t ≤ p.length) :
    ∃ S', execs F C N cuB [e0, some (.ref n), e2] S = .nx [e0, some (.ref n), e2] S' ∧ S'[n]? = some ((p.take (ct1 p t)).map fr) ∧ S.length ≤ S'.length ∧ ∀ i, i < S.length → i ≠ n → S'[i]? = S[i]? := by
  have hn : n < S.length := (List.getElem?_eq_some_iff.mp hS).1
  have hsl := slc_ref (S := S) (l := some (-1)) (h := none) hS
  cases t with
  | zero =>
    have e1 : cutD ((p.take 0).map fr) (some (-1)) none = [] := rfl
    rw [e1] at hsl
    have e2 : cmpR .eq (.ref S.length) (.ref (S.length + 1)) (S ++ [[]] ++ [[fr 0]]) = .ok (.bl false) (S ++ [[]] ++ [[fr 0]]) := cmp_eq (by
      rw [eqD_list (l := []) (k := [fr 0]) (by simp) (by simp) rfl (nums_fr 10 [0])]; rfl)
    refine ⟨S ++ [[]] ++ [[fr 0]], ?_, ?_, by simp, fun i hi hne => ?_⟩
    · simp [cuB, hsl, fr0]
      simp at e2
      simp [e2]
    · rw [List.append_assoc, List.getElem?_append_left hn]; exact hS
    · rw [List.append_assoc, List.getElem?_append_left hi]
  | succ t =>
    have hq := take_last ht
    have e1 : cutD ((p.take (t + 1)).map fr) (some (-1)) none = [fr (cf p t)] := by
      rw [hq, cut_last]
    rw [e1] at hsl
    have e2 : cmpR .eq (.ref S.length) (.ref (S.length + 1)) (S ++ [[fr (cf p t)]] ++ [[fr 0]]) = .ok (.bl (decide (cf p t = 0))) (S ++ [[fr (cf p t)]] ++ [[fr 0]]) := cmp_eq (by
      rw [eqD_list (l := [fr (cf p t)]) (k := [fr 0]) (by simp) (by simp) (nums_fr 10 [cf p t]) (nums_fr 10 [0])]
      simp [D.beqs, beq_fr])
    have e3 : (S ++ [[fr (cf p t)]] ++ [[fr 0]])[n]? = some ((p.take t).map fr ++ [fr (cf p t)]) := by
      rw [List.append_assoc, List.getElem?_append_left hn, hS, hq]
    by_cases hz : cf p t = 0
    · have e4 : mtD .pop (.ref n) [] (S ++ [[fr (cf p t)]] ++ [[fr 0]]) = .ok (fr (cf p t)) ((S ++ [[fr (cf p t)]] ++ [[fr 0]]).set n ((p.take t).map fr)) := by
        show (match (S ++ [[fr (cf p t)]] ++ [[fr 0]])[n]? with
          | some l => (match l.getLast? with
            | some d => R.ok d (setAt (S ++ [[fr (cf p t)]] ++ [[fr 0]]) n l.dropLast)
            | none => .bad)
          | none => .bad) = _
        rw [e3]
        simp [setAt]
      have e5 : recvOk .pop (.ref n) (S ++ [[fr (cf p t)]] ++ [[fr 0]]) = true := by
        show decide (n < (S ++ [[fr (cf p t)]] ++ [[fr 0]]).length) = true
        simp; omega
      refine ⟨(S ++ [[fr (cf p t)]] ++ [[fr 0]]).set n ((p.take t).map fr), ?_, ?_, by simp, fun i hi hne => ?_⟩
      · rw [hz] at hsl e2 e4 e5 ⊢
        rw [decide_eq_true rfl] at e2
        simp only [cuB, exs_cons, exs_nil, ex_ite, test_eq, ev_cmp, ev_slc, ev_var, List.getElem?_cons_zero, List.getElem?_cons_succ, R.bind_ok, evs_cons, evs_nil, ev_neg, ev_int, partOk_int, partOk_nil, hsl, ev_lst, ev_tup, newT_2, fr0, newL_1, List.length_append, List.length_cons, List.length_nil, Nat.zero_add, e2, truth_bl, R.thenS_ok, if_true, ex_expr, ev_meth, e5, e4, RS.seq_nx]
      · rw [show ct1 p (t + 1) = t by simp [ct1, hz], List.getElem?_set_self (by simp; omega)]
      · rw [List.getElem?_set_ne (Ne.symm hne), List.append_assoc, List.getElem?_append_left hi]
    · refine ⟨S ++ [[fr (cf p t)]] ++ [[fr 0]], ?_, ?_, by simp, fun i hi hne => ?_⟩
      · rw [decide_eq_false hz] at e2
        simp only [cuB, exs_cons, exs_nil, ex_ite, test_eq, ev_cmp, ev_slc, ev_var, List.getElem?_cons_zero, List.getElem?_cons_succ, R.bind_ok, evs_cons, evs_nil, ev_neg, ev_int, partOk_int, partOk_nil, hsl, ev_lst, ev_tup, newT_2, fr0, newL_1, List.length_append, List.length_cons, List.length_nil, Nat.zero_add, e2, truth_bl, R.thenS_ok, RS.seq_nx]
        simp
      · rw [show ct1 p (t + 1) = t + 1 by simp [ct1, hz], e3, hq]
      · rw [List.append_assoc, List.getElem?_append_left hi]
end
end DL

end
section
set_option maxHeartbeats 1000000
/-! # DL: the laws' own helpers, 2 -/
namespace DL
open PySem (Str)
section
variable {T : List Fn} {C : List D} {N k f : Nat} {S : Store}
theorem cut_loop {F : Nat → List D → Store → R D} {p : List Rat} {n : Nat} {e0 : Option D} : ∀ (l : List D) (t : Nat) (S : Store) (e2 : Option D), S[n]? = some ((p.take t).map fr) → t ≤ p.length →
    ∃ S' e2', forLoop [] (.name 2) (fun e S' => execs F C N cuB e S') l [e0, some (.ref n), e2] S = .nx [e0, some (.ref n), e2'] S' ∧ S'[n]? = some ((p.take (ctN p l.length t)).map fr) ∧ S.length ≤ S'.length ∧ ∀ i, i < S.length → i ≠ n → S'[i]? = S[i]?
  | [], t, S, e2, hS, ht => ⟨S, e2, for_nil rfl, hS, Nat.le_refl _, fun _ _ _ => rfl⟩
  | d :: l, t, S, e2, hS, ht => by
    obtain ⟨S1, a1, a2, a3, a4⟩ := cut_step (F := F) (C := C) (N := N) (e0 := e0) (e2 := some d) hS ht
    have ht1 : ct1 p t ≤ p.length := by
      unfold ct1
      split
      · omega
      · split <;> omega
    obtain ⟨S2, e2', b1, b2, b3, b4⟩ := cut_loop (F := F) (e0 := e0) l (ct1 p t) S1 (some d) a2 ht1
    refine ⟨S2, e2', ?_, b2, by omega, fun i hi hne => ?_⟩
    · rw [for_go rfl rfl a1, b1]
    · rw [b4 i (by omega) hne, a4 i hi hne]
def fnCut : Fn := ⟨1, 3, [(.asg (.name 1) (.bi .list [(.var 0)])), (.for_ (.name 2) (.range [(.bi .len [(.var 1)])]) cuB), (.ret (.bi .tuple [(.var 1)]))]⟩
theorem bi_list_ref {n : Nat} {l : List D} (h : S[n]? = some l) : biD .list [.ref n] S = .ok (.ref S.length) (S ++ [l]) := by
  show (match S[n]? with | some l => R.ok (D.ref S.length) (S ++ [l]) | none => .bad) = _
  rw [h]
theorem boundOk_nat {n : Nat} (h : n ≤ 1000000) : boundOk (n : Int) = true := by
  rw [boundOk_eq]
  simp only [Bool.and_eq_true, decide_eq_true_eq]
  omega
theorem rangeL_len {n : Nat} {lo : Int} : (rangeL lo n).length = n := by simp [rangeL]
theorem cut_ok (h : T[f]? = some fnCut) (hk : 1 ≤ k) {n : Nat} {p : List Rat} (hS : S[n]? = some (p.map fr)) (hl : p.length ≤ 1000000) : run T C N k f [.ref n] S = .ok (pl (trim p)) S := by
  rw [run_s h hk rfl]
  have e1 := bi_list_ref hS
  obtain ⟨S', e2', r1, r2, r3, r4⟩ := cut_loop (F := run T C N (k - 1)) (C := C) (N := N) (p := p) (n := S.length) (e0 := some (.ref n)) (rangeL 0 ((p.length : Int)).toNat) p.length (S ++ [p.map fr]) none (by simp) (Nat.le_refl _)
  rw [rangeL_len, Int.toNat_natCast, ctN_tlen p _ _ (Nat.le_refl _)] at r2
  have el : biD .len [.ref S.length] (S ++ [p.map fr]) = .ok (.int (p.length : Nat)) (S ++ [p.map fr]) := by
    have := bi_len_ref (S := S ++ [p.map fr]) (n := S.length) (l := p.map fr) (by simp)
    rwa [List.length_map] at this
  have x2 : exec (run T C N (k - 1)) C N (.for_ (.name 2) (.range [(.bi .len [(.var 1)])]) cuB) [some (.ref n), some (.ref S.length), none] (S ++ [p.map fr]) = .nx [some (.ref n), some (.ref S.length), e2'] S' := by
    have ea : evs (run T C N (k - 1)) C [(.bi .len [(.var 1)])] [some (.ref n), some (.ref S.length), none] (S ++ [p.map fr]) = .ok [.int (p.length : Nat)] (S ++ [p.map fr]) := by
      simp [el]
    rw [ex_for, evi_range1 ea (boundOk_nat hl)]
    exact r1
  have e3 : biD .tuple [.ref S.length] S' = .ok (pl (trim p)) S' := bi_tuple_ref (by rw [r2]; rfl)
  simp only [List.length_append, List.length_cons, List.length_nil] at r3 r4
  have ht : S'.take S.length = S := by
    refine List.ext_getElem? fun i => ?_
    by_cases hi : i < S.length
    · rw [List.getElem?_take, if_pos hi, r4 i (by omega) (by omega), List.getElem?_append_left hi]
    · rw [List.getElem?_take, if_neg hi, List.getElem?_eq_none (by omega)]
  simp only [fnCut, startD, List.map_cons, List.map_nil, List.length_cons, List.length_nil, List.cons_append, List.nil_append, List.replicate, exs_cons, exs_nil, ex_asg, ev_bi', evs_cons, evs_nil, ev_var, List.getElem?_cons_zero, List.getElem?_cons_succ, R.bind_ok, e1, R.thenS_ok, put_name', List.set_cons_succ, List.set_cons_zero, RS.seq_nx]
  simp only [x2, RS.seq_nx, ex_ret, ev_bi', evs_cons, evs_nil, ev_var, List.getElem?_cons_zero, List.getElem?_cons_succ, R.bind_ok, e3, R.thenS_ok, seq_rt]
  exact end_rt ht (by omega) (closed_pl _ _)
def fnNumber : Fn := ⟨2, 2, [(.ret (.ife (.cmp2 .lt .lt (.neg (.int 1)) (.var 1) (.bi .len [(.var 0)])) (.idx (.var 0) (.var 1)) (.tup [(.int 0), (.int 1)])))]⟩
theorem number_ok (h : T[f]? = some fnNumber) (hk : 1 ≤ k) (p : List Rat) (i : Nat) : run T C N k f [pl p, .int (i : Nat)] S = .ok (fr (cf p i)) S := by
  rw [run_s h hk rfl]
  have h1 : (-1 : Int) < (i : Int) := by omega
  by_cases hi : i < p.length
  · have e : idxR (pl p) (.int (i : Int)) S = .ok (fr (cf p i)) S := idx_tup (by rw [atI_nat]; exact map_get hi)
    simp only [pl] at *
    simp [fnNumber, startD, h1, hi, e]
  · rw [cf_ge (by omega)]
    simp only [pl] at *
    simp [fnNumber, startD, h1, hi, fr0]
def fnMixed (cu P M nu : Nat) : Fn := ⟨3, 4, [(.ret (.call cu [(.lc (.call P [(.call nu [(.var 0), (.var 3)]), (.call M [(.var 2), (.call nu [(.var 1), (.var 3)])])]) (.name 3) (.range [(.bi .max [(.bi .len [(.var 0)]), (.bi .len [(.var 1)])])]) [] [3])]))]⟩
theorem mixed_ok {cu P M nu : Nat} (h : T[f]? = some (fnMixed cu P M nu)) (hcu : T[cu]? = some fnCut) (hP : PlusS T C N (k - 1) P) (hM : TimesS T C N (k - 1) M) (hnu : T[nu]? = some fnNumber) (hk : 2 ≤ k) {p q : List Rat} {c : Rat} (hp : POk p) (hq : POk q) (hc : Ok c) (hcq : ∀ i, Ok (c * cf q i)) (hs : max p.length q.length ≤ 1000) :
    run T C N k f [pl p, pl q, fr c] S = .ok (pl (lin p q c)) S := by
  rw [run_s h (by omega) rfl]
  have en := fun p i S => number_ok (C := C) (N := N) (S := S) (k := k - 1) hnu (by omega) p i
  have ea : evs (run T C N (k - 1)) C [(.bi .max [(.bi .len [(.var 0)]), (.bi .len [(.var 1)])])] [some (pl p), some (pl q), some (fr c), none] S = .ok [.int (max p.length q.length : Nat)] S := by
    have := max_int p.length q.length
    simp only [evs_cons, evs_nil, ev_bi', ev_var, List.getElem?_cons_zero, List.getElem?_cons_succ, R.bind_ok, pl, bi_len_tup, bi_max_int, List.length_map, this]
  have ei : evi (run T C N (k - 1)) C (.range [(.bi .max [(.bi .len [(.var 0)]), (.bi .len [(.var 1)])])]) [some (pl p), some (pl q), some (fr c), none] S = .ok ⟨(List.range (max p.length q.length)).map fun i => .int (0 + (i : Nat)), []⟩ S := by
    rw [evi_range1 ea (boundOk_nat (by omega)), Int.toNat_natCast]; rfl
  have e1 : ev (run T C N (k - 1)) C (.lc (.call P [(.call nu [(.var 0), (.var 3)]), (.call M [(.var 2), (.call nu [(.var 1), (.var 3)])])]) (.name 3) (.range [(.bi .max [(.bi .len [(.var 0)]), (.bi .len [(.var 1)])])]) [] [3]) [some (pl p), some (pl q), some (fr c), none] S = .ok (.ref S.length) (S ++ [(List.range (max p.length q.length)).map fun i => fr (cf p i + c * cf q i)]) :=
    ev_lcp _ (fun i => fr (cf p i + c * cf q i)) ei (small (by simp; omega)) fun i hi S' => ⟨_, rfl, fun S'' => by
      simp [en, hM _ _ S'' hc (hq i), hP _ _ S'' (hp i) (hcq i)]⟩
  have e2 : run T C N (k - 1) cu [.ref S.length] (S ++ [(List.range (max p.length q.length)).map fun i => fr (cf p i + c * cf q i)]) = .ok (pl (lin p q c)) (S ++ [(List.range (max p.length q.length)).map fun i => fr (cf p i + c * cf q i)]) := by
    unfold lin
    exact cut_ok hcu (by omega) (by simp [List.map_map, Function.comp_def]) (by simp; omega)
  simp only [fnMixed, startD, List.map_cons, List.map_nil, List.length_cons, List.length_nil, List.cons_append, List.nil_append, List.replicate, exs_cons, exs_nil, ex_ret, ev_call', evs_cons, evs_nil, e1, R.bind_ok, e2, R.thenS_ok, seq_rt]
  exact end_rt (by simp) (by simp) (closed_pl _ _)
def fnLProduct (P M cu : Nat) : Fn := ⟨2, 7, [(.asg (.name 2) (.bin .mul (.lst [(.tup [(.int 0), (.int 1)])]) (.bin .add (.bi .len [(.var 0)]) (.bi .len [(.var 1)])))), (.for_ (.tup [(.name 3), (.name 4)]) (.enum (.var 0)) (outB P M)), (.ret (.call cu [(.var 2)]))]⟩
theorem lproduct_ok {P M cu D E B B' : Nat} (h : T[f]? = some (fnLProduct P M cu)) (hcu : T[cu]? = some fnCut) (hP : PlusS T C N (k - 1) P) (hM : TimesS T C N (k - 1) M) (hk : 2 ≤ k) {p q : List Rat} (b : MulB p q D E B B') (hs : p.length + q.length ≤ 1000) :
    run T C N k f [pl p, pl q] S = .ok (pl (pmul p q)) S := by
  rw [run_s h (by omega) rfl]
  have e1 : opD .mul (.ref S.length) (.int ((p.length + q.length : Nat) : Int)) (S ++ [[fr 0]]) = .ok (.ref (S.length + 1)) (S ++ [[fr 0]] ++ [(List.replicate (p.length + q.length) 0).map fr]) := by
    show (match (S ++ [[fr 0]])[S.length]? with
      | some l => if (-(2 ^ 63) ≤ ((p.length + q.length : Nat) : Int) ∧ ((p.length + q.length : Nat) : Int) < 2 ^ 63) ∧ l.length * ((p.length + q.length : Nat) : Int).toNat ≤ PySem.sizeLine then R.ok (DL.D.ref (S ++ [[fr 0]]).length) (S ++ [[fr 0]] ++ [rep l ((p.length + q.length : Nat) : Int).toNat]) else .bad
      | none => .bad) = _
    have : (S ++ [[fr 0]])[S.length]? = some [fr 0] := by simp
    rw [this]
    simp only [List.length_cons, List.length_nil, Int.toNat_natCast]
    rw [if_pos ⟨⟨by omega, by omega⟩, small (by omega)⟩, rep_one]
    simp
  obtain ⟨e3', e4', e5', e6', r⟩ := prod_for (S := S ++ [[fr 0]] ++ [(List.replicate (p.length + q.length) 0).map fr]) (n := S.length + 1) hP hM b (L := p.length + q.length) (fun h => by omega) (by simp) none none none none
  have e2 : run T C N (k - 1) cu [.ref (S.length + 1)] ((S ++ [[fr 0]] ++ [(List.replicate (p.length + q.length) 0).map fr]).set (S.length + 1) ((addAll q (List.replicate (p.length + q.length) 0) 0 p).map fr)) = .ok (pl (pmul p q)) ((S ++ [[fr 0]] ++ [(List.replicate (p.length + q.length) 0).map fr]).set (S.length + 1) ((addAll q (List.replicate (p.length + q.length) 0) 0 p).map fr)) := by
    rw [← addAll_pmul (L := p.length + q.length) (fun h => by omega)]
    exact cut_ok hcu (by omega) (by simp) (by rw [addAll_len]; simp; omega)
  have e0 : ((p.length : Int) + (q.length : Int)) = ((p.length + q.length : Nat) : Int) := by omega
  have x1 : exec (run T C N (k - 1)) C N (.asg (.name 2) (.bin .mul (.lst [(.tup [(.int 0), (.int 1)])]) (.bin .add (.bi .len [(.var 0)]) (.bi .len [(.var 1)])))) [some (pl p), some (pl q), none, none, none, none, none] S = .nx [some (pl p), some (pl q), some (.ref (S.length + 1)), none, none, none, none] (S ++ [[fr 0]] ++ [(List.replicate (p.length + q.length) 0).map fr]) := by
    simp only [ex_asg, ev_bin, ev_lst, ev_tup, evs_cons, evs_nil, newT_2, fr0, R.bind_ok, newL_1, ev_bi', ev_var, List.getElem?_cons_zero, List.getElem?_cons_succ, pl, bi_len_tup, List.length_map, op_add, ev_int, e0, e1, R.thenS_ok, put_name', List.set_cons_succ, List.set_cons_zero]
  simp only [fnLProduct, startD, List.map_cons, List.map_nil, List.length_cons, List.length_nil, List.cons_append, List.nil_append, List.replicate, exs_cons, exs_nil, x1, RS.seq_nx, r, ex_ret, ev_call', evs_cons, evs_nil, ev_var, List.getElem?_cons_zero, List.getElem?_cons_succ, R.bind_ok, e2, R.thenS_ok, seq_rt]
  exact end_rt (by simp) (by simp) (closed_pl _ _)
def fnLWorth (P M : Nat) : Fn := ⟨2, 4, [(.asg (.name 2) (.tup [(.int 0), (.int 1)])), (.for_ (.name 3) (.seq (.rev (.var 0))) (woB P M)), (.ret (.var 2))]⟩
theorem lworth_ok {P M : Nat} (h : T[f]? = some (fnLWorth P M)) (hP : PlusS T C N (k - 1) P) (hM : TimesS T C N (k - 1) M) (hk : 1 ≤ k) {p : List Rat} {x : Rat} (hw : WOk p x) (hp : POk p) : run T C N k f [pl p, fr x] S = .ok (fr (worth p x)) S := by
  rw [run_s h hk rfl]
  obtain ⟨e3', r⟩ := worth_for (S := S) hP hM hw hp none
  simp [fnLWorth, startD, fr0, r]
/-! ### the same? -/
def fnTwin (t : Nat) : Fn := ⟨2, 4, [(.ite (.isi (.var 1) [.tuple]) [(.ret (.and_ (.isi (.var 0) [.tuple]) (.and_ (.cmp .eq (.bi .len [(.var 0)]) (.bi .len [(.var 1)])) (.cmp .nin (.bl false) (.lc (.call t [(.var 2), (.var 3)]) (.tup [(.name 2), (.name 3)]) (.zip (.var 0) (.var 1)) [] [2, 3])))))] []), (.ite (.or_ (.cmp .is_ (.var 1) .non) (.isi (.var 1) [.bool])) [(.ret (.ife (.cmp .is_ (.var 1) .non) (.cmp .is_ (.var 0) .non) (.and_ (.isi (.var 0) [.bool]) (.cmp .eq (.var 0) (.var 1)))))] []), (.ite (.isi (.var 1) [.int]) [(.ret (.and_ (.isi (.var 0) [.int]) (.and_ (.nt (.isi (.var 0) [.bool])) (.cmp .eq (.var 0) (.var 1)))))] []), (.ret (.and_ (.isi (.var 0) [.str]) (.and_ (.isi (.var 1) [.str]) (.cmp .eq (.var 0) (.var 1)))))]⟩
mutual
/-- of small width -/
def D.thin : D → Bool
  | .tup l => decide (l.length ≤ 1000) && D.thins l
  | _ => true
def D.thins : List D → Bool
  | [] => true
  | d :: l => D.thin d && D.thins l
end
theorem thins_mem : ∀ {l : List D} {d : D}, D.thins l = true → d ∈ l → D.thin d = true
  | a :: l, d, h, hd => by
    have h : (D.thin a && D.thins l) = true := h
    rw [Bool.and_eq_true] at h
    rcases List.mem_cons.mp hd with rfl | hd
    · exact h.1
    · exact thins_mem h.2 hd
theorem nums_mem : ∀ {n : Nat} {l : List D} {d : D}, nums n l = true → d ∈ l → num n d = true
  | n, a :: l, d, h, hd => by
    have h : (num n a && nums n l) = true := h
    rw [Bool.and_eq_true] at h
    rcases List.mem_cons.mp hd with rfl | hd
    · exact h.1
    · exact nums_mem h.2 hd
theorem cmp_is_non {d : D} : cmpR .is_ d .non S = .ok (.bl (isNon d)) S := rfl
theorem twin_same (h : T[f]? = some (fnTwin f)) : ∀ (n k : Nat) (d : D) (S : Store), n + 1 ≤ k → num n d = true → D.thin d = true → run T C N k f [d, d] S = .ok (.bl true) S
  | n, k, .int i, S, hk, hd, ht => by
    rw [run_s h (by omega) rfl]
    simp [fnTwin, startD, isTy, cmp_is_non, isNon]
  | n + 1, k, .tup l, S, hk, hd, ht => by
    rw [run_s h (by omega) rfl]
    have hd : nums n l = true := hd
    have ht : (decide (l.length ≤ 1000) && D.thins l) = true := ht
    rw [Bool.and_eq_true, decide_eq_true_eq] at ht
    have ei : evi (run T C N (k - 1)) C (.zip (.var 0) (.var 1)) [some (.tup l), some (.tup l), none, none] S = .ok ⟨l.map fun d => .tup [d, d], []⟩ S := by
      have := zipL_map (fun d : D => d) (fun d => d) l
      simp only [List.map_id'] at this
      simp [zipOk, this]
    have e1 : ev (run T C N (k - 1)) C (.lc (.call f [(.var 2), (.var 3)]) (.tup [(.name 2), (.name 3)]) (.zip (.var 0) (.var 1)) [] [2, 3]) [some (.tup l), some (.tup l), none, none] S = .ok (.ref S.length) (S ++ [l.map fun _ => .bl true]) :=
      ev_lcp _ (fun _ => .bl true) ei (small (by omega)) fun d hm S' => ⟨_, rfl, fun S'' => by
        have := twin_same h n (k - 1) d S'' (by omega) (nums_mem hd hm) (thins_mem ht.2 hm)
        simp [this]⟩
    have e2 : inD (.bl false) (.ref S.length) (S ++ [l.map fun _ => D.bl true]) = some false := by
      have := in_bls (S := S ++ [l.map fun _ => D.bl true]) (n := S.length) (bs := l.map fun _ => true) (by simp [List.map_map, Function.comp_def]) false
      rw [this]
      simp
    have e3 : cmpR .nin (.bl false) (.ref S.length) (S ++ [l.map fun _ => D.bl true]) = .ok (.bl true) (S ++ [l.map fun _ => D.bl true]) := by
      show (match (inD (.bl false) (.ref S.length) (S ++ [l.map fun _ => D.bl true])).map (!·) with | some k => R.ok (D.bl k) (S ++ [l.map fun _ => D.bl true]) | none => .bad) = _
      rw [e2]; rfl
    simp [fnTwin, startD, isTy, e1, e3]
    exact end_rt (by simp) (by simp) rfl
  | 0, k, .tup l, S, hk, hd, ht => by cases hd
  | n, k, .non, S, hk, hd, ht => by cases n <;> cases hd
  | n, k, .bl _, S, hk, hd, ht => by cases n <;> cases hd
  | n, k, .str _, S, hk, hd, ht => by cases n <;> cases hd
  | n, k, .fz _, S, hk, hd, ht => by cases n <;> cases hd
  | n, k, .ref _, S, hk, hd, ht => by cases n <;> cases hd
end
end DL

end
section
set_option maxHeartbeats 1000000
/-! # DL: what a law draws -/
namespace DL
open PySem (Str)
/-- the well: two ints within their bounds -/
def Wl (S : Store) (n : Nat) : Prop := ∃ a b : Int, S[n]? = some [.int a, .int b] ∧ 0 ≤ a ∧ a < 10 ^ 50 ∧ 0 ≤ b ∧ b < 4611686018427387847
/-- the well alone changes, lists come behind -/
def Ch (n : Nat) (S S' : Store) : Prop := S.length ≤ S'.length ∧ (∀ i, i < S.length → i ≠ n → S'[i]? = S[i]?) ∧ Wl S' n
theorem Wl.lt {S : Store} {n : Nat} (h : Wl S n) : n < S.length := by
  obtain ⟨a, b, e, _⟩ := h
  exact (List.getElem?_eq_some_iff.mp e).1
theorem Ch.refl {n : Nat} {S : Store} (h : Wl S n) : Ch n S S := ⟨Nat.le_refl _, fun _ _ _ => rfl, h⟩
theorem Ch.trans {n : Nat} {S S1 S2 : Store} (a : Ch n S S1) (b : Ch n S1 S2) : Ch n S S2 :=
  ⟨Nat.le_trans a.1 b.1, fun i hi hne => (b.2.1 i (Nat.lt_of_lt_of_le hi a.1) hne).trans (a.2.1 i hi hne), b.2.2⟩
theorem Ch.app {n : Nat} {S S1 : Store} (a : Ch n S S1) (l : List (List D)) : Ch n S (S1 ++ l) := by
  refine ⟨by have := a.1; simp; omega, fun i hi hne => ?_, ?_⟩
  · rw [List.getElem?_append_left (Nat.lt_of_lt_of_le hi a.1)]; exact a.2.1 i hi hne
  · have hn := a.2.2.lt
    obtain ⟨x, y, e, r⟩ := a.2.2
    exact ⟨x, y, by rw [List.getElem?_append_left hn]; exact e, r⟩
theorem Wl.app {S : Store} {n : Nat} (h : Wl S n) (l : List (List D)) : Wl (S ++ l) n := ((Ch.refl h).app l).2.2
/-- not a list -/
def plain : D → Bool
  | .ref _ => false
  | _ => true
section
variable {T : List Fn} {C : List D} {N k f : Nat} {S : Store}
theorem leave_len {d : D} {S' : Store} (h : S'.length = S.length) : leave S d S' = .ok d S' := if_pos h
theorem ch_cut {n : Nat} {S' : Store} (hn : n < S.length) (c : Ch n S S') : Ch n S (S'.take S.length) := by
  refine ⟨by have := c.1; simp; omega, fun i hi hne => ?_, ?_⟩
  · rw [List.getElem?_take, if_pos hi]; exact c.2.1 i hi hne
  · obtain ⟨x, y, e, r⟩ := c.2.2
    exact ⟨x, y, by rw [List.getElem?_take, if_pos hn]; exact e, r⟩
theorem end_ch {n : Nat} {d : D} {S' : Store} (hd : plain d = true) (hn : n < S.length) (c : Ch n S S') : ∃ S'', endR S (.rt d S') = .ok d S'' ∧ Ch n S S'' := by
  show ∃ S'', leave S d S' = .ok d S'' ∧ Ch n S S''
  unfold leave
  split
  · exact ⟨S', rfl, c⟩
  · split
    · exact ⟨_, rfl, ch_cut hn c⟩
    · cases d <;> first | exact ⟨S', rfl, c⟩ | cases hd
def fnHaulG (c1 c2 c3 c4 : Int) : Fn := ⟨2, 3, [(.ite (.cmp .gt (.idx (.var 0) (.int 0)) (.int 0)) [(.asg (.tup [(.sub (.var 0) (.int 0)), (.name 2)]) (.bi .divmod [(.idx (.var 0) (.int 0)), (.var 1)])), (.ret (.var 2))] []), (.asg (.sub (.var 0) (.int 1)) (.bin .mod (.bi .int [(.bin .add (.bin .mul (.idx (.var 0) (.int 1)) (.int c1)) (.int c2))]) (.int c3))), (.ret (.bin .mod (.bi .int [(.bin .fdiv (.idx (.var 0) (.int 1)) (.int c4))]) (.var 1)))]⟩
def fnHaul : Fn := fnHaulG 6364136223846793005 1442695040888963407 4611686018427387847 2097152
theorem ch_set {n : Nat} (hn : n < S.length) {a b : Int} (h : 0 ≤ a ∧ a < 10 ^ 50 ∧ 0 ≤ b ∧ b < 4611686018427387847) : Ch n S (S.set n [.int a, .int b]) :=
  ⟨by simp, fun i hi hne => by rw [List.getElem?_set_ne (Ne.symm hne)], a, b, by rw [List.getElem?_set_self hn], h⟩
theorem haulG_ok {n : Nat} {c1 c2 c3 c4 : Int} (h : T[f]? = some (fnHaulG c1 c2 c3 c4)) (hk : 1 ≤ k) (hw : Wl S n) (m : Int) (h1 : 0 < m) (hdiv : ∀ a, divOk a m = true)
    (g1 : ∀ b, 0 ≤ b → b < 4611686018427387847 → mulOk b c1 = true) (g3 : 0 < c3) (g3' : c3 ≤ 4611686018427387847) (g4 : c4 ≠ 0) (g4' : ∀ b, divOk b c4 = true) : ∃ r S', run T C N k f [.ref n, .int m] S = .ok (.int r) S' ∧ 0 ≤ r ∧ r < m ∧ Ch n S S' ∧ S'.length = S.length := by
  have hn := hw.lt
  obtain ⟨a, b, e, a0, a1, b0, b1⟩ := hw
  have i0 : ∀ {S : Store} {a b : Int}, S[n]? = some [.int a, .int b] → idxR (.ref n) (.int 0) S = .ok (.int a) S := fun e => idx_ref e (atI_nat (k := 0))
  have i1 : ∀ {S : Store} {a b : Int}, S[n]? = some [.int a, .int b] → idxR (.ref n) (.int 1) S = .ok (.int b) S := fun e => idx_ref e (atI_nat (k := 1))
  rw [run_s h hk rfl]
  by_cases c : 0 < a
  · have ed : biD .divmod [.int a, .int m] S = .ok (.tup [.int (a / m), .int (a % m)]) S := by
      show (if 0 < m then (if divOk a m then R.ok (D.tup [.int (a / m), .int (a % m)]) S else .bad) else .bad) = _
      rw [if_pos h1, if_pos (hdiv a)]
    have es := fun env x => set_ref (S := S) (env := env) (j := 0) (x := x) e (by simp)
    simp only [Int.natCast_zero] at es
    have hq0 : 0 ≤ a / m := Int.ediv_nonneg a0 (by omega)
    have hq1 : a / m ≤ a := Int.ediv_le_self _ a0
    refine ⟨a % m, S.set n [.int (a / m), .int b], ?_, Int.emod_nonneg _ (by omega), Int.emod_lt_of_pos _ h1, ch_set hn ⟨hq0, Int.lt_of_le_of_lt hq1 a1, b0, b1⟩, by simp⟩
    have es' : ∀ env : En, setR (.ref n) (.int 0) (.int (a / m)) env S = .nx env (S.set n [.int (a / m), .int b]) := fun env => by rw [es]; rfl
    simp [fnHaulG, startD, i0 e, c, ed, es']
    exact leave_len (by simp)
  · have hm1 : mulOk b c1 = true := g1 b b0 b1
    have em : ∀ S : Store, opD .mod (.int (b * c1 + c2)) (.int c3) S = .ok (.int ((b * c1 + c2) % c3)) S := fun S => by
      rw [op_mod (by omega), Int.fmod_eq_emod_of_nonneg _ (by omega)]
    generalize hb' : (b * c1 + c2) % c3 = b' at em
    have d0 : 0 ≤ b' := by rw [← hb']; exact Int.emod_nonneg _ (by omega)
    have d1 : b' < c3 := by rw [← hb']; exact Int.emod_lt_of_pos _ g3
    have es := fun env => set_ref (S := S) (env := env) (j := 1) (x := .int b') e (by simp)
    have es' : ∀ env : En, setR (.ref n) (.int 1) (.int b') env S = .nx env (S.set n [.int a, .int b']) := fun env => by
      have := es env
      simpa [setAt] using this
    have e' : (S.set n [D.int a, .int b'])[n]? = some [.int a, .int b'] := by rw [List.getElem?_set_self hn]
    have ef := op_div (S := S.set n [D.int a, .int b']) (i := b') (j := c4) g4 (g4' b')
    have eg := op_mod (S := S.set n [D.int a, .int b']) (i := b'.fdiv c4) (j := m) (by omega)
    rw [Int.fmod_eq_emod_of_nonneg _ (by omega)] at eg
    refine ⟨(b'.fdiv c4) % m, S.set n [.int a, .int b'], ?_, Int.emod_nonneg _ (by omega), Int.emod_lt_of_pos _ h1, ch_set hn ⟨a0, a1, d0, Int.lt_of_lt_of_le d1 g3'⟩, by simp⟩
    simp [fnHaulG, startD, i0 e, i1 e, c, op_mul hm1, em, es', i1 e', ef, eg]
    exact leave_len (by simp)
theorem div_small {a m : Int} (h : m.natAbs < 2 ^ 62) : divOk a m = true := divOk_of (Nat.lt_of_lt_of_le h (Nat.pow_le_pow_right (by omega) (by omega)))
theorem haul_ok {n : Nat} (h : T[f]? = some fnHaul) (hk : 1 ≤ k) (hw : Wl S n) (m : Int) (h1 : 0 < m) (h2 : m < 2 ^ 62) : ∃ r S', run T C N k f [.ref n, .int m] S = .ok (.int r) S' ∧ 0 ≤ r ∧ r < m ∧ Ch n S S' ∧ S'.length = S.length :=
  haulG_ok h hk hw m h1 (fun a => div_small (by omega)) (fun b b0 b1 => mulOk_of (a := 64) (b := 64) (by omega) (by decide) (by decide)) (by decide) (by decide) (by decide) fun b => div_small (by decide)
def fnOf (ha : Nat) : Fn := ⟨2, 2, [(.ret (.idx (.var 1) (.call ha [(.var 0), (.bi .len [(.var 1)])])))]⟩
theorem of_ok {n ha : Nat} (h : T[f]? = some (fnOf ha)) (hh : T[ha]? = some fnHaul) (hk : 2 ≤ k) (hw : Wl S n) (l : List D) (h1 : l ≠ []) (h2 : l.length ≤ 1000) : ∃ d S', d ∈ l ∧ run T C N k f [.ref n, .tup l] S = .ok d S' ∧ Ch n S S' ∧ S'.length = S.length := by
  rw [run_s h (by omega) rfl]
  have hl : l.length ≠ 0 := fun e => h1 (List.length_eq_zero_iff.mp e)
  obtain ⟨r, S', e, r0, r1, c, ls⟩ := haul_ok (C := C) (N := N) (k := k - 1) hh (by omega) hw (l.length : Nat) (by omega) (by omega)
  obtain ⟨j, rfl⟩ := Int.eq_ofNat_of_zero_le r0
  have hj : j < l.length := by omega
  have ei : idxR (.tup l) (.int (j : Int)) S' = .ok l[j] S' := idx_tup (by rw [atI_nat, List.getElem?_eq_getElem hj])
  refine ⟨l[j], S', List.getElem_mem hj, ?_, c, ls⟩
  simp [fnOf, startD, e, ei]
  exact leave_len ls
/-! ### FRACTIONs drawn -/
theorem in_norm {a : Int} {d : Nat} (e : Nat) (nz : d ≠ 0) : In (d * e) (a.natAbs * e) (Rat.normalize a d nz) := by
  refine ⟨a * e, by rw [Int.natAbs_mul, Int.natAbs_natCast]; exact Nat.le_refl _, ?_⟩
  have hd : (d : Rat) ≠ 0 := fun h => nz (by simpa using h)
  rw [Rat.normalize_eq_mkRat, Rat.mkRat_eq_div, Rat.natCast_mul, Rat.intCast_mul, Rat.intCast_natCast]
  grind
def fnDrawnShare (sh ha of : Nat) : Fn := ⟨1, 1, [(.ret (.call sh [(.bin .sub (.call ha [(.var 0), (.int 13)]) (.int 6)), (.call of [(.var 0), (.tup [(.int 1), (.int 1), (.int 1), (.int 2), (.int 3), (.int 4)])])]))]⟩
theorem drawnShare_ok {n sh ha of : Nat} (h : T[f]? = some (fnDrawnShare sh ha of)) (hs : FracS T C N (k - 1) sh) (hh : T[ha]? = some fnHaul) (ho : T[of]? = some (fnOf ha)) (hk : 3 ≤ k) (hw : Wl S n) : ∃ q S', In 12 72 q ∧ run T C N k f [.ref n] S = .ok (fr q) S' ∧ Ch n S S' ∧ S'.length = S.length := by
  rw [run_s h (by omega) rfl]
  obtain ⟨r, S1, e1, r0, r1, c1, l1⟩ := haul_ok (C := C) (N := N) (k := k - 1) hh (by omega) hw 13 (by omega) (by omega)
  obtain ⟨d, S2, hd, e2, c2, l2⟩ := of_ok (C := C) (N := N) (k := k - 1) ho hh (by omega) c1.2.2 [.int 1, .int 1, .int 1, .int 2, .int 3, .int 4] (by simp) (by simp)
  have hd2 : ∃ m e : Nat, d = .int m ∧ m ≠ 0 ∧ m ≤ 4 ∧ m * e = 12 ∧ e ≤ 12 := by
    simp at hd
    rcases hd with rfl | rfl | rfl | rfl
    · exact ⟨1, 12, rfl, by decide, by decide, by decide, by decide⟩
    · exact ⟨2, 6, rfl, by decide, by decide, by decide, by decide⟩
    · exact ⟨3, 4, rfl, by decide, by decide, by decide, by decide⟩
    · exact ⟨4, 3, rfl, by decide, by decide, by decide, by decide⟩
  obtain ⟨m, e, rfl, nz, hm, he, he2⟩ := hd2
  have big : ∀ {x y : Nat}, x < 2 ^ 8 → 8 ≤ y → x < 2 ^ y := fun h l => Nat.lt_of_lt_of_le h (Nat.pow_le_pow_right (by omega) l)
  have es := hs (r - 6) m nz S2 (big (show (r - 6).natAbs < 2 ^ 8 by omega) (by omega)) (big (show m < 2 ^ 8 by omega) (by omega))
  refine ⟨Rat.normalize (r - 6) m nz, S2, ?_, ?_, c1.trans c2, l2.trans l1⟩
  · have := in_norm (a := r - 6) e nz
    rw [he] at this
    exact this.mono (by
      have h6 : (r - 6).natAbs ≤ 6 := by omega
      calc (r - 6).natAbs * e ≤ 6 * 12 := Nat.mul_le_mul h6 he2
        _ = 72 := rfl)
  · have h6 : newT [D.int 1, .int 1, .int 1, .int 2, .int 3, .int 4] S1 = .ok (.tup [.int 1, .int 1, .int 1, .int 2, .int 3, .int 4]) S1 := newT_6
    simp [fnDrawnShare, startD, e1, e2, es]
    exact leave_len (l2.trans l1)
end
end DL

end
section
set_option maxHeartbeats 1000000
/-! # DL: what a law draws, 2 -/
namespace DL
open PySem (Str)
section
variable {T : List Fn} {C : List D} {N k f : Nat} {S : Store}
/-- a comprehension whose items are drawn -/
theorem lc_ch {α : Type} {n m : Nat} {el : En → Store → R D} {tt : En → Store → R Bool} {tg : Tg} {env : En} (fi : α → D) (Pd : D → Prop) : ∀ (xs : List α) (acc : List D) (S : Store), S[m]? = some acc → m ≠ n → Wl S n → acc.length + xs.length ≤ PySem.sizeLine → (∀ d ∈ acc, Pd d) →
    (∀ x ∈ xs, ∀ S', Wl S' n → m < S'.length → ∃ env', Tg.put S' tg (fi x) env = some env' ∧ (∀ S'', tt env' S'' = .ok true S'') ∧ ∃ y S'', el env' S' = .ok y S'' ∧ Pd y ∧ Ch n S' S'') →
    ∃ ys S', lcLoop m [] el tt tg env (xs.map fi) S = .ok (.ref m) S' ∧ S'[m]? = some ys ∧ (∀ d ∈ ys, Pd d) ∧ ys.length = acc.length + xs.length ∧ Wl S' n ∧ S.length ≤ S'.length ∧ ∀ i, i < S.length → i ≠ n → i ≠ m → S'[i]? = S[i]?
  | [], acc, S, e, hne, hw, hl, ha, h => ⟨acc, S, rfl, e, ha, rfl, hw, Nat.le_refl _, fun _ _ _ _ => rfl⟩
  | x :: xs, acc, S, e, hne, hw, hl, ha, h => by
    have hm : m < S.length := (List.getElem?_eq_some_iff.mp e).1
    obtain ⟨env', e1, e2, y, S2, e3, py, c⟩ := h x List.mem_cons_self S hw hm
    have em : S2[m]? = some acc := (c.2.1 m hm hne).trans e
    have hm2 : m < S2.length := Nat.lt_of_lt_of_le hm c.1
    have hw3 : Wl (S2.set m (acc ++ [y])) n := by
      obtain ⟨a, b, e4, r⟩ := c.2.2
      exact ⟨a, b, by rw [List.getElem?_set_ne hne]; exact e4, r⟩
    simp only [List.length_cons] at hl
    obtain ⟨ys, S', r1, r2, r3, r4, r5, r6, r7⟩ := lc_ch (n := n) (m := m) (el := el) (tt := tt) (tg := tg) (env := env) fi Pd xs (acc ++ [y]) (S2.set m (acc ++ [y])) (by rw [List.getElem?_set_self hm2]) hne hw3 (by simp; omega)
      (fun d hd => by
        rcases List.mem_append.mp hd with hd | hd
        · exact ha d hd
        · have : d = y := by simpa using hd
          rw [this]; exact py) fun x' hx' => h x' (List.mem_cons_of_mem _ hx')
    refine ⟨ys, S', ?_, r2, r3, by rw [r4]; simp; omega, r5, by have := c.1; simp at r6; omega, fun i hi hn hm' => ?_⟩
    · have hl2 : acc.length < PySem.sizeLine := by omega
      show (if It.still S [] then (match Tg.put S tg (fi x) env with
        | some env' => (match tt env' S with
          | .ok true S1 => (match el env' S1 with
            | .ok y S2 => (match S2[m]? with
              | some acc => if acc.length < PySem.sizeLine then lcLoop m [] el tt tg env (xs.map fi) (setAt S2 m (acc ++ [y])) else .bad
              | _ => .bad)
            | _ => .bad)
          | .ok false S1 => lcLoop m [] el tt tg env (xs.map fi) S1
          | _ => .bad)
        | none => .bad) else .bad) = _
      rw [e1]
      simp only [still_nil, if_true, e2, e3, em, hl2, setAt]
      exact r1
    · rw [r7 i (by have := c.1; simp; omega) hn hm', List.getElem?_set_ne (Ne.symm hm')]
      exact c.2.1 i hi hn
theorem ev_lch {α : Type} {n : Nat} {F : Nat → List D → Store → R D} {el : Ex} {tg : Tg} {it : Ex} {own : List Nat} {env : En} {S1 : Store} {xs : List α} (fi : α → D) (Pd : D → Prop) (hi : evi F C it env S = .ok ⟨xs.map fi, []⟩ S1) (hw : Wl S1 n) (hl : xs.length ≤ PySem.sizeLine)
    (h : ∀ x ∈ xs, ∀ S', Wl S' n → ∃ env', Tg.put S' tg (fi x) (wipeD env own) = some env' ∧ ∃ y S'', ev F C el env' S' = .ok y S'' ∧ Pd y ∧ Ch n S' S'') :
    ∃ ys S', ev F C (.lc el tg it [] own) env S = .ok (.ref S1.length) S' ∧ S'[S1.length]? = some ys ∧ (∀ d ∈ ys, Pd d) ∧ ys.length = xs.length ∧ Ch n S1 S' := by
  have hn := hw.lt
  obtain ⟨ys, S', r1, r2, r3, r4, r5, r6, r7⟩ := lc_ch (n := n) (m := S1.length) (el := fun env' S' => ev F C el env' S') (tt := fun env' S' => evt F C [] env' S') (tg := tg) (env := wipeD env own) fi Pd xs [] (S1 ++ [[]]) (by simp) (by omega) (hw.app _) (by simpa using hl) (fun d hd => by cases hd) fun x hx S' hw' _ => by
    obtain ⟨env', e1, y, S'', e2, p, c⟩ := h x hx S' hw'
    exact ⟨env', e1, fun _ => rfl, y, S'', e2, p, c⟩
  refine ⟨ys, S', ?_, r2, r3, by simpa using r4, by simp at r6; omega, fun i hi hne => ?_, r5⟩
  · rw [ev_lc, hi]; exact r1
  · rw [r7 i (by simp; omega) hne (by omega), List.getElem?_append_left hi]
theorem all_fr {Q : Rat → Prop} : ∀ {ys : List D}, (∀ d ∈ ys, ∃ q, d = fr q ∧ Q q) → ∃ p : List Rat, ys = p.map fr ∧ ∀ c ∈ p, Q c
  | [], _ => ⟨[], rfl, fun c hc => by cases hc⟩
  | d :: ys, h => by
    obtain ⟨q, rfl, hq⟩ := h d List.mem_cons_self
    obtain ⟨p, rfl, hp⟩ := all_fr fun e he => h e (List.mem_cons_of_mem _ he)
    exact ⟨q :: p, rfl, fun c hc => by
      rcases List.mem_cons.mp hc with rfl | hc
      · exact hq
      · exact hp c hc⟩
theorem pin_of {D B : Nat} {p : List Rat} (h : ∀ c ∈ p, In D B c) : PIn D B p := fun i => by
  by_cases hi : i < p.length
  · rw [cf_lt hi]; exact h _ (List.getElem_mem hi)
  · rw [cf_ge (by omega)]; exact in_zero _ _
theorem PIn.mem {D B : Nat} {p : List Rat} (h : PIn D B p) : ∀ c ∈ p, In D B c := fun c hc => by
  obtain ⟨i, _, rfl⟩ := mem_cf hc
  exact h i
theorem evi_rangeN {es : List Ex} {env : En} {F : Nat → List D → Store → R D} {S1 : Store} {m : Nat} (h : evs F C es env S = .ok [.int (m : Int)] S1) (hm : m ≤ 1000000) : evi F C (.range es) env S = .ok ⟨(List.range m).map fun i => .int (0 + (i : Nat)), []⟩ S1 := by
  rw [evi_range1 h (boundOk_nat hm), Int.toNat_natCast]; rfl
def fnDrawnPoly (ha cu of ds : Nat) : Fn := ⟨2, 4, [(.asg (.name 2) (.call ha [(.var 0), (.int 9)])), (.ite (.cmp .eq (.var 2) (.int 0)) [(.ret (.tup []))] []), (.ret (.call cu [(.lc (.call of [(.var 0), (.tup [(.call ds [(.var 0)]), (.tup [(.int 0), (.int 1)]), (.tup [(.int 1), (.int 1)])])]) (.name 3) (.range [(.bin .add (.int 1) (.call ha [(.var 0), (.bin .add (.var 1) (.int 1))]))]) [] [3])]))]⟩
theorem fr1 : D.tup [.int 1, .int 1] = fr 1 := rfl
theorem in_one : In 12 72 1 := ⟨12, by decide, by rw [Rat.one_mul]; rfl⟩
theorem drawnPoly_ok {n ha cu of ds sh : Nat} (h : T[f]? = some (fnDrawnPoly ha cu of ds)) (hh : T[ha]? = some fnHaul) (hcu : T[cu]? = some fnCut) (ho : T[of]? = some (fnOf ha)) (hds : T[ds]? = some (fnDrawnShare sh ha of)) (hs : FracS T C N (k - 2) sh) (hk : 4 ≤ k) (hw : Wl S n) (most : Nat) (hm : most ≤ 100) :
    ∃ p S', run T C N k f [.ref n, .int (most : Nat)] S = .ok (pl p) S' ∧ Nm p ∧ p.length ≤ most + 1 ∧ PIn 12 72 p ∧ Ch n S S' := by
  have hn := hw.lt
  rw [run_s h (by omega) rfl]
  obtain ⟨r, S1, e1, r0, r1, c1, l1⟩ := haul_ok (C := C) (N := N) (k := k - 1) hh (by omega) hw 9 (by omega) (by omega)
  by_cases hr : r = 0
  · subst hr
    refine ⟨[], S1, ?_, nm_nil, by simp, fun i => by rw [cf_nil]; exact in_zero _ _, c1⟩
    simp [fnDrawnPoly, startD, e1]
    exact leave_len l1
  · obtain ⟨r2, S2, e2, s0, s1, c2, l2⟩ := haul_ok (C := C) (N := N) (k := k - 1) hh (by omega) c1.2.2 ((most : Int) + 1) (by omega) (by omega)
    obtain ⟨j, rfl⟩ := Int.eq_ofNat_of_zero_le s0
    have ea : evs (run T C N (k - 1)) C [(.bin .add (.int 1) (.call ha [(.var 0), (.bin .add (.var 1) (.int 1))]))] [some (.ref n), some (.int (most : Nat)), some (.int r), none] S1 = .ok [.int ((1 + j : Nat) : Int)] S2 := by
      simp [e2]
    obtain ⟨ys, S3, e3, y1, y2, y3, c3⟩ := ev_lch (n := n) (C := C) (S := S1) (F := run T C N (k - 1)) (el := .call of [(.var 0), (.tup [(.call ds [(.var 0)]), (.tup [(.int 0), (.int 1)]), (.tup [(.int 1), (.int 1)])])]) (tg := .name 3) (own := [3]) (env := [some (.ref n), some (.int (most : Nat)), some (.int r), none]) (fun i : Nat => .int (0 + (i : Nat))) (fun d => ∃ q, d = fr q ∧ In 12 72 q) (evi_rangeN ea (by omega)) c2.2.2 (small (by simp; omega)) fun i _ S' hw' => by
      obtain ⟨q, S4, iq, e4, c4, l4⟩ := drawnShare_ok (C := C) (N := N) (k := k - 1) hds hs hh ho (by omega) hw'
      obtain ⟨d, S5, hd, e5, c5, l5⟩ := of_ok (C := C) (N := N) (k := k - 1) ho hh (by omega) c4.2.2 [fr q, fr 0, fr 1] (by simp) (by simp)
      refine ⟨_, rfl, d, S5, ?_, ?_, c4.trans c5⟩
      · simp [e4, fr0, fr1, e5]
      · simp at hd
        rcases hd with rfl | rfl | rfl
        · exact ⟨_, rfl, iq⟩
        · exact ⟨_, rfl, in_zero _ _⟩
        · exact ⟨_, rfl, in_one⟩
    obtain ⟨p, rfl, ip⟩ := all_fr y2
    simp only [List.length_map, List.length_range] at y3
    have e6 : run T C N (k - 1) cu [.ref S2.length] S3 = .ok (pl (trim p)) S3 := cut_ok hcu (by omega) y1 (by omega)
    obtain ⟨S4, e7, c4⟩ := end_ch (S := S) (d := pl (trim p)) rfl hn (c1.trans (c2.trans c3))
    refine ⟨trim p, S4, ?_, nm_trim p, by rw [trim_len]; have := tlen_le p p.length; omega, (pin_of ip).trim, c4⟩
    have x3 : execs (run T C N (k - 1)) C N (fnDrawnPoly ha cu of ds).body (startD (fnDrawnPoly ha cu of ds).nn [.ref n, .int (most : Nat)]) S = .rt (pl (trim p)) S3 := by
      simp [fnDrawnPoly, startD, e1, hr, e3, e6]
    rw [x3]; exact e7
end
end DL

end
section
set_option maxHeartbeats 1000000
/-! # DL: the well made of a script -/
namespace DL
open PySem (Str)
section
variable {T : List Fn} {C : List D} {N k f : Nat} {S : Store}
def weB (K1 K2 M : Int) : List DL.St := [(.asg (.name 3) (.bin .mod (.bi .int [(.bin .add (.bin .add (.bin .mul (.var 3) (.int K1)) (.bin .mul (.bin .mod (.bi .int [(.var 5)]) (.int K2)) (.bin .add (.bin .mul (.int 3) (.var 4)) (.int 4)))) (.int 9))]) (.int M)))]
def fnWellG (A B D0 D1 K1 K2 M x18 x50 : Int) : Fn := ⟨2, 6, [(.asg (.name 2) (.ife (.cmp .lt (.var 1) (.bi .len [(.var 0)])) (.bi .int [(.idx (.var 0) (.var 1))]) (.bin .add (.int A) (.bin .mul (.int B) (.var 1))))), (.asg (.name 3) (.bin .add (.int D0) (.bin .mul (.int D1) (.var 1)))), (.for_ (.tup [(.name 4), (.name 5)]) (.enum (.slc (.var 0) [] [(.int 34)])) (weB K1 K2 M)), (.asg (.name 3) (.bin .mod (.bi .int [(.bin .add (.bin .add (.bin .mul (.var 3) (.int K1)) (.bin .mod (.var 2) (.int K2))) (.int 5))]) (.int M))), (.ret (.lst [(.ife (.or_ (.cmp .lt (.var 2) (.int 0)) (.cmp .ge (.var 2) (.bin .pow (.int 10) (.int x18)))) (.bin .mod (.bi .int [(.bi .abs [(.var 2)])]) (.bin .pow (.int 10) (.int x50))) (.int 0)), (.var 3)]))]⟩
def fnWell (A D0 : Int) : Fn := fnWellG A 31 D0 17 1442695040888963407 1000000033 4611686018427387847 18 50
/-- what the constants are like -/
structure WellC (K1 K2 M : Int) : Prop where
  hM0 : 0 < M
  hM1 : M ≤ 4611686018427387847
  hK2 : 0 < K2
  m1 : ∀ v, 0 ≤ v → v < M → mulOk v K1 = true
  m2 : ∀ v : Int, ∀ i : Nat, 0 ≤ v → v < K2 → i ≤ 1000 → mulOk v (3 * (i : Int) + 4) = true
def enumI : Nat → List Int → List D
  | _, [] => []
  | o, a :: r => .tup [.int (o : Nat), .int a] :: enumI (o + 1) r
theorem enumI_eq : ∀ (p : List Int) (o : Nat), (p.map D.int).mapIdx (fun i d => D.tup [.int ((o + i : Nat) : Int), d]) = enumI o p
  | [], o => rfl
  | a :: p, o => by
    have := enumI_eq p (o + 1)
    rw [List.map_cons, List.mapIdx_cons, enumI]
    congr 1
    rw [← this]
    congr 1
    funext i d
    rw [show o + (i + 1) = o + 1 + i by omega]
theorem enumL_int (p : List Int) : enumL (p.map .int) = enumI 0 p := by
  rw [← enumI_eq p 0]
  unfold enumL
  congr 1
  funext i d
  rw [Nat.zero_add]
theorem well_loop {K1 K2 M : Int} (g : WellC K1 K2 M) {F : Nat → List D → Store → R D} {dep : List (Nat × List D)} (hd : It.still S dep = true) (e0 e1 e2 : Option D) : ∀ (l : List Int) (o : Nat) (v : Int) (e4 e5 : Option D), 0 ≤ v → v < M → o + l.length ≤ 1000 →
    ∃ v' e4' e5', forLoop dep (.tup [(.name 4), (.name 5)]) (fun e S' => execs F C N (weB K1 K2 M) e S') (enumI o l) [e0, e1, e2, some (.int v), e4, e5] S = .nx [e0, e1, e2, some (.int v'), e4', e5'] S ∧ 0 ≤ v' ∧ v' < M
  | [], o, v, e4, e5, h0, h1, hl => ⟨v, e4, e5, for_nil hd, h0, h1⟩
  | a :: l, o, v, e4, e5, h0, h1, hl => by
    simp only [List.length_cons] at hl
    have a1 := op_mod (S := S) (i := a) (j := K2) (by have := g.hK2; omega)
    rw [Int.fmod_eq_emod_of_nonneg _ (by have := g.hK2; omega)] at a1
    have b0 : 0 ≤ a % K2 := Int.emod_nonneg _ (by have := g.hK2; omega)
    have b1 : a % K2 < K2 := Int.emod_lt_of_pos _ g.hK2
    have m3 : mulOk 3 (o : Int) = true := mulOk_of (a := 8) (b := 20) (by decide) (by omega) (by decide)
    have m2 := g.m2 (a % K2) o b0 b1 (by omega)
    generalize a % K2 = w at a1 m2
    have em : ∀ x : Int, opD .mod (.int x) (.int M) S = .ok (.int (x % M)) S := fun x => by
      rw [op_mod (by have := g.hM0; omega), Int.fmod_eq_emod_of_nonneg _ (by have := g.hM0; omega)]
    obtain ⟨v', e4', e5', r, c0, c1⟩ := well_loop g hd e0 e1 e2 l (o + 1) ((v * K1 + w * (3 * (o : Int) + 4) + 9) % M) (some (.int (o : Nat))) (some (.int a)) (Int.emod_nonneg _ (by have := g.hM0; omega)) (Int.emod_lt_of_pos _ g.hM0) (by omega)
    refine ⟨v', e4', e5', ?_, c0, c1⟩
    rw [enumI, for_go (env2 := [e0, e1, e2, some (.int ((v * K1 + w * (3 * (o : Int) + 4) + 9) % M)), some (.int (o : Nat)), some (.int a)]) (S2 := S) hd (by rfl) ?_, r]
    simp [weB, op_mul (g.m1 v h0 h1), a1, op_mul m3, op_mul m2, em]
theorem leave_new {l : List D} {x : List D} (h : D.closeds S.length l = true) : leave S (.ref (S.length + 1)) (S ++ [x] ++ [l]) = .ok (.ref S.length) (S ++ [l]) := by
  unfold leave
  rw [if_neg (by simp), if_neg]
  · simp only
    rw [if_pos (by omega)]
    have e1 : (S ++ [x] ++ [l])[S.length + 1]? = some l := by simp
    rw [e1]
    simp only
    have e2 : (S ++ [x] ++ [l]).take S.length = S := by simp
    rw [if_pos, e2]
    simp only [Bool.and_eq_true, decide_eq_true_eq]
    refine ⟨by simp, h, ?_⟩
    unfold cleanS
    rw [e2, sbeq_refl]; rfl
  · simp only [D.closed, Bool.and_eq_true, decide_eq_true_eq]
    omega
theorem cut34 {l : List D} : cutD l none (some 34) = l.take 34 := by
  unfold cutD HT.sIx
  simp only [List.drop_zero, Nat.sub_zero]
  rw [if_neg (by decide)]
  show l.take (min 34 l.length) = l.take 34
  rw [List.take_eq_take_iff]; omega
theorem slc_fz {xs : List D} {l h : Option Int} : slcR (.fz xs) l h S = .ok (.ref S.length) (S ++ [cutD xs l h]) := rfl
theorem wellG_ok {A B D0 D1 K1 K2 M x18 x50 p18 p50 : Int} (h : T[f]? = some (fnWellG A B D0 D1 K1 K2 M x18 x50)) (hk : 1 ≤ k) (g : WellC K1 K2 M) (h18 : ∀ S, opD .pow (.int 10) (.int x18) S = .ok (.int p18) S) (h50 : ∀ S, opD .pow (.int 10) (.int x50) S = .ok (.int p50) S) (hp : 0 < p50) (hp2 : p50 ≤ 10 ^ 50)
    (ns : List Int) (lap : Nat) (mB : mulOk B (lap : Int) = true) (mD : mulOk D1 (lap : Int) = true) (d0 : 0 ≤ D0 + D1 * (lap : Int)) (d1 : D0 + D1 * (lap : Int) < M) :
    ∃ a b, run T C N k f [.fz (ns.map .int), .int (lap : Nat)] S = .ok (.ref S.length) (S ++ [[.int a, .int b]]) ∧ 0 ≤ a ∧ a < 10 ^ 50 ∧ 0 ≤ b ∧ b < 4611686018427387847 := by
  rw [run_s h hk rfl]
  obtain ⟨own, x1⟩ : ∃ own : Int, exec (run T C N (k - 1)) C N (.asg (.name 2) (.ife (.cmp .lt (.var 1) (.bi .len [(.var 0)])) (.bi .int [(.idx (.var 0) (.var 1))]) (.bin .add (.int A) (.bin .mul (.int B) (.var 1))))) [some (.fz (ns.map .int)), some (.int (lap : Nat)), none, none, none, none] S = .nx [some (.fz (ns.map .int)), some (.int (lap : Nat)), some (.int own), none, none, none] S := by
    by_cases c : lap < ns.length
    · have ei : idxR (.fz (ns.map .int)) (.int (lap : Int)) S = .ok (.int ns[lap]) S := idx_fz (by rw [atI_nat, List.getElem?_map, List.getElem?_eq_getElem c]; rfl)
      exact ⟨ns[lap], by simp [c, ei]⟩
    · exact ⟨A + B * (lap : Int), by simp [c, op_mul mB]⟩
  have x2 : exec (run T C N (k - 1)) C N (.asg (.name 3) (.bin .add (.int D0) (.bin .mul (.int D1) (.var 1)))) [some (.fz (ns.map .int)), some (.int (lap : Nat)), some (.int own), none, none, none] S = .nx [some (.fz (ns.map .int)), some (.int (lap : Nat)), some (.int own), some (.int (D0 + D1 * (lap : Int))), none, none] S := by
    simp [op_mul mD]
  have es : (S ++ [(ns.take 34).map D.int])[S.length]? = some ((ns.take 34).map D.int) := by simp
  have hst : It.still (S ++ [(ns.take 34).map D.int]) [(S.length, (ns.take 34).map D.int)] = true := by
    simp [It.still, D.beqs_refl]
  obtain ⟨v, e4, e5, r, v0, v1⟩ := well_loop (C := C) (N := N) g (F := run T C N (k - 1)) hst (some (.fz (ns.map .int))) (some (.int (lap : Nat))) (some (.int own)) (ns.take 34) 0 (D0 + D1 * (lap : Int)) none none d0 d1 (by simp; omega)
  have x3 : exec (run T C N (k - 1)) C N (.for_ (.tup [(.name 4), (.name 5)]) (.enum (.slc (.var 0) [] [(.int 34)])) (weB K1 K2 M)) [some (.fz (ns.map .int)), some (.int (lap : Nat)), some (.int own), some (.int (D0 + D1 * (lap : Int))), none, none] S = .nx [some (.fz (ns.map .int)), some (.int (lap : Nat)), some (.int own), some (.int v), e4, e5] (S ++ [(ns.take 34).map D.int]) := by
    have ed : depOf (S ++ [(ns.take 34).map D.int]) (.ref S.length) = [(S.length, (ns.take 34).map D.int)] := by
      show (match (S ++ [(ns.take 34).map D.int])[S.length]? with | some l => [(S.length, l)] | none => []) = _
      rw [es]
    have ei : evi (run T C N (k - 1)) C (.enum (.slc (.var 0) [] [(.int 34)])) [some (.fz (ns.map .int)), some (.int (lap : Nat)), some (.int own), some (.int (D0 + D1 * (lap : Int))), none, none] S = .ok ⟨enumI 0 (ns.take 34), [(S.length, (ns.take 34).map D.int)]⟩ (S ++ [(ns.take 34).map D.int]) := by
      simp only [evi_enum, ev_slc, ev_var, ev_int, evs_cons, evs_nil, List.getElem?_cons_zero, R.bind_ok, partOk_nil, partOk_int, slc_fz, cut34, ← List.map_take, items_ref, es, ed, enumL_int]
    rw [ex_for, ei]
    exact r
  have em : ∀ (x : Int) (S : Store), opD .mod (.int x) (.int M) S = .ok (.int (x % M)) S := fun x S => by
    rw [op_mod (by have := g.hM0; omega), Int.fmod_eq_emod_of_nonneg _ (by have := g.hM0; omega)]
  have ek : ∀ S : Store, opD .mod (.int own) (.int K2) S = .ok (.int (own % K2)) S := fun S => by
    rw [op_mod (by have := g.hK2; omega), Int.fmod_eq_emod_of_nonneg _ (by have := g.hK2; omega)]
  have x4 : exec (run T C N (k - 1)) C N (.asg (.name 3) (.bin .mod (.bi .int [(.bin .add (.bin .add (.bin .mul (.var 3) (.int K1)) (.bin .mod (.var 2) (.int K2))) (.int 5))]) (.int M))) [some (.fz (ns.map .int)), some (.int (lap : Nat)), some (.int own), some (.int v), e4, e5] (S ++ [(ns.take 34).map D.int]) = .nx [some (.fz (ns.map .int)), some (.int (lap : Nat)), some (.int own), some (.int ((v * K1 + own % K2 + 5) % M)), e4, e5] (S ++ [(ns.take 34).map D.int]) := by
    simp [op_mul (g.m1 v v0 v1), ek, em]
  have q0 : 0 ≤ (v * K1 + own % K2 + 5) % M := Int.emod_nonneg _ (by have := g.hM0; omega)
  have q1 : (v * K1 + own % K2 + 5) % M < M := Int.emod_lt_of_pos _ g.hM0
  generalize (v * K1 + own % K2 + 5) % M = b at x4 q0 q1
  have ep : ∀ (x : Int) (S : Store), opD .mod (.int x) (.int p50) S = .ok (.int (x % p50)) S := fun x S => by
    rw [op_mod (by omega), Int.fmod_eq_emod_of_nonneg _ (by omega)]
  obtain ⟨a, x5, a0, a1⟩ : ∃ a : Int, ev (run T C N (k - 1)) C (.ife (.or_ (.cmp .lt (.var 2) (.int 0)) (.cmp .ge (.var 2) (.bin .pow (.int 10) (.int x18)))) (.bin .mod (.bi .int [(.bi .abs [(.var 2)])]) (.bin .pow (.int 10) (.int x50))) (.int 0)) [some (.fz (ns.map .int)), some (.int (lap : Nat)), some (.int own), some (.int b), e4, e5] (S ++ [(ns.take 34).map D.int]) = .ok (.int a) (S ++ [(ns.take 34).map D.int]) ∧ 0 ≤ a ∧ a < 10 ^ 50 := by
    have n0 : ∀ x : Int, 0 ≤ x % p50 ∧ x % p50 < 10 ^ 50 := fun x => ⟨Int.emod_nonneg _ (by omega), Int.lt_of_lt_of_le (Int.emod_lt_of_pos _ hp) hp2⟩
    by_cases c1 : own < 0
    · exact ⟨(-own) % p50, by simp [c1, h50, ep], (n0 _).1, (n0 _).2⟩
    · by_cases c2 : p18 ≤ own
      · exact ⟨own % p50, by simp [c1, c2, h18, h50, ep], (n0 _).1, (n0 _).2⟩
      · exact ⟨0, by simp [c1, c2, h18], by decide, by decide⟩
  refine ⟨a, b, ?_, a0, a1, q0, Int.lt_of_lt_of_le q1 g.hM1⟩
  have x6 : execs (run T C N (k - 1)) C N (fnWellG A B D0 D1 K1 K2 M x18 x50).body (startD (fnWellG A B D0 D1 K1 K2 M x18 x50).nn [.fz (ns.map .int), .int (lap : Nat)]) S = .rt (.ref (S.length + 1)) (S ++ [(ns.take 34).map D.int] ++ [[.int a, .int b]]) := by
    simp only [fnWellG, startD, List.map_cons, List.map_nil, List.length_cons, List.length_nil, List.cons_append, List.nil_append, List.replicate, exs_cons, exs_nil, x1, x2, x3, x4, RS.seq_nx, ex_ret, ev_lst, evs_cons, evs_nil, x5, ev_var, List.getElem?_cons_zero, List.getElem?_cons_succ, R.bind_ok, newL_2, List.length_append, Nat.zero_add, R.thenS_ok, seq_rt]
  rw [x6]
  exact leave_new rfl
theorem op_pow {i j : Int} (h : powOk i j = true) : opD .pow (.int i) (.int j) S = .ok (.int (i ^ j.toNat)) S := if_pos h
theorem well_ok {A D0 : Int} (h : T[f]? = some (fnWell A D0)) (hk : 1 ≤ k) (ns : List Int) (lap : Nat) (hl : lap ≤ 100) (h0 : 0 ≤ D0) (h1 : D0 ≤ 1000000) :
    ∃ a b, run T C N k f [.fz (ns.map .int), .int (lap : Nat)] S = .ok (.ref S.length) (S ++ [[.int a, .int b]]) ∧ 0 ≤ a ∧ a < 10 ^ 50 ∧ 0 ≤ b ∧ b < 4611686018427387847 :=
  wellG_ok h hk ⟨by decide, by decide, by decide, fun v h0 h1 => mulOk_of (a := 64) (b := 64) (by omega) (by decide) (by decide), fun v i h0 h1 hi => mulOk_of (a := 64) (b := 64) (by omega) (by omega) (by decide)⟩
    (fun S => op_pow (by decide)) (fun S => op_pow (by decide)) (by decide) (by decide) ns lap (mulOk_of (a := 8) (b := 20) (by decide) (by omega) (by decide)) (mulOk_of (a := 8) (b := 20) (by decide) (by omega) (by decide)) (by omega) (by omega)
end
end DL

end
section
set_option maxHeartbeats 1000000
/-! # DL: bounds of POLYs by bits -/
namespace DL
theorem cv_in {D B E B' : Nat} : ∀ (m k : Nat) (f g : Nat → Rat), (∀ i, m ≤ i → f i = 0) → (∀ i, In D B (f i)) → (∀ i, In E B' (g i)) → In (D * E) (m * (B * B')) (cv f g k)
  | 0, k, f, g, h0, hf, hg => by
    rw [show f = fun _ => 0 from funext fun i => h0 i (Nat.zero_le _), cv_zero_left]
    exact in_zero _ _
  | m + 1, 0, f, g, h0, hf, hg => by
    have := (hf 0).mul (hg 0)
    exact this.mono (Nat.le_mul_of_pos_left _ (by omega))
  | m + 1, k + 1, f, g, h0, hf, hg => by
    have ih := cv_in m k (sh f) g (fun i hi => h0 (i + 1) (by omega)) (fun i => hf (i + 1)) hg
    have := ((hf 0).mul (hg (k + 1))).add ih
    exact this.mono (by rw [Nat.succ_mul]; omega)
/-- bits of the lower number, of the upper ones -/
def GC (d b : Nat) (c : Rat) : Prop := ∃ D B, 0 < D ∧ D < 2 ^ d ∧ B < 2 ^ b ∧ In D B c
def GB (d b : Nat) (p : List Rat) : Prop := ∃ D B, 0 < D ∧ D < 2 ^ d ∧ B < 2 ^ b ∧ PIn D B p
theorem pow_lt {a b x : Nat} (h : x < 2 ^ a) (l : a ≤ b) : x < 2 ^ b := Nat.lt_of_lt_of_le h (Nat.pow_le_pow_right (by omega) l)
theorem GB.mono {d b d' b' : Nat} {p : List Rat} (h : GB d b p) (h1 : d ≤ d') (h2 : b ≤ b') : GB d' b' p := by
  obtain ⟨D, B, q1, q2, q3, q4⟩ := h
  exact ⟨D, B, q1, pow_lt q2 h1, pow_lt q3 h2, q4⟩
theorem GB.ok {d b : Nat} {p : List Rat} (h : GB d b p) (h1 : d ≤ 4400) (h2 : b ≤ 4400) : POk p := by
  obtain ⟨D, B, q1, q2, q3, q4⟩ := h
  exact q4.ok q1 (pow_lt q2 h1) (pow_lt q3 h2)
theorem GC.ok {d b : Nat} {c : Rat} (h : GC d b c) (h1 : d ≤ 4400) (h2 : b ≤ 4400) : Ok c := by
  obtain ⟨D, B, q1, q2, q3, q4⟩ := h
  exact q4.ok q1 (pow_lt q2 h1) (pow_lt q3 h2)
theorem GB.cf {d b : Nat} {p : List Rat} (h : GB d b p) (i : Nat) : GC d b (cf p i) := by
  obtain ⟨D, B, q1, q2, q3, q4⟩ := h
  exact ⟨D, B, q1, q2, q3, q4 i⟩
theorem GC.mul {d b e b' : Nat} {x y : Rat} (h : GC d b x) (h' : GC e b' y) : GC (d + e) (b + b') (x * y) := by
  obtain ⟨D, B, q1, q2, q3, q4⟩ := h
  obtain ⟨E, B', r1, r2, r3, r4⟩ := h'
  exact ⟨D * E, B * B', Nat.mul_pos q1 r1, lt_mul q2 r2, lt_mul q3 r3, q4.mul r4⟩
theorem two_lt {x y n : Nat} (h1 : x < 2 ^ n) (h2 : y < 2 ^ n) : x + y < 2 ^ (n + 1) := by rw [Nat.pow_succ]; omega
theorem GC.add {d b e b' : Nat} {x y : Rat} (h : GC d b x) (h' : GC e b' y) : GC (d + e) (max (b + e) (b' + d) + 1) (x + y) := by
  obtain ⟨D, B, q1, q2, q3, q4⟩ := h
  obtain ⟨E, B', r1, r2, r3, r4⟩ := h'
  have s1 := q4.scale E
  have s2 := r4.scale D
  rw [Nat.mul_comm E D] at s2
  exact ⟨D * E, B * E + B' * D, Nat.mul_pos q1 r1, lt_mul q2 r2, two_lt (pow_lt (lt_mul q3 r2) (by omega)) (pow_lt (lt_mul r3 q2) (by omega)), s1.add s2⟩
theorem GB.lin {d b e b' : Nat} {p q : List Rat} (h : GB d b p) (h' : GB e b' q) {c : Rat} (hc : c = 1 ∨ c = -1) : GB (d + e) (max (b + e) (b' + d) + 1) (lin p q c) := by
  obtain ⟨D, B, q1, q2, q3, q4⟩ := h
  obtain ⟨E, B', r1, r2, r3, r4⟩ := h'
  refine ⟨D * E, B * E + B' * D, Nat.mul_pos q1 r1, lt_mul q2 r2, two_lt (pow_lt (lt_mul q3 r2) (by omega)) (pow_lt (lt_mul r3 q2) (by omega)), fun i => ?_⟩
  have s1 := (q4 i).scale E
  have i1 : In 1 1 c := by
    rcases hc with rfl | rfl
    · exact ⟨1, by decide, by decide +kernel⟩
    · exact ⟨-1, by decide, by decide +kernel⟩
  have s2 := (i1.mul (r4 i)).scale D
  rw [Nat.one_mul, Nat.one_mul, Nat.mul_comm E D] at s2
  rw [cf_lin]
  exact s1.add s2
theorem GB.mul {d b e b' m : Nat} {p q : List Rat} (h : GB d b p) (h' : GB e b' q) (hl : p.length < 2 ^ m) : GB (d + e) (m + (b + b')) (pmul p q) := by
  obtain ⟨D, B, q1, q2, q3, q4⟩ := h
  obtain ⟨E, B', r1, r2, r3, r4⟩ := h'
  refine ⟨D * E, p.length * (B * B'), Nat.mul_pos q1 r1, lt_mul q2 r2, lt_mul hl (lt_mul q3 r3), fun i => ?_⟩
  rw [cf_pmul]
  exact cv_in p.length i _ _ (fun i hi => cf_ge hi) q4 r4
theorem GB.mulB {d b e b' m : Nat} {p q : List Rat} (h : GB d b p) (h' : GB e b' q) (hl : p.length < 2 ^ m) (h1 : d + e ≤ 4400) (h2 : m + (b + b') ≤ 4400) : ∃ D E B B', MulB p q D E B B' := by
  obtain ⟨D, B, q1, q2, q3, q4⟩ := h
  obtain ⟨E, B', r1, r2, r3, r4⟩ := h'
  exact ⟨D, E, B, B', q4.mem, r4.mem, q1, r1, pow_lt (lt_mul q2 r2) h1, pow_lt (lt_mul hl (lt_mul q3 r3)) h2, ⟨pow_lt q2 (by omega), pow_lt q3 (by omega)⟩, ⟨pow_lt r2 (by omega), pow_lt r3 (by omega)⟩⟩
theorem GB.wok {d b m n : Nat} {p : List Rat} {x : Rat} (h : GB d b p) (hx : GC m m x) (hl : p.length ≤ n) (hn : n < 2 ^ 6) (hm : 1 ≤ m) (h1 : d + m * (n + 1) ≤ 4400) (h2 : 6 + (b + m * (n + 1)) ≤ 4400) : WOk p x := by
  obtain ⟨D, B, q1, q2, q3, q4⟩ := h
  obtain ⟨E, B', r1, r2, r3, r4⟩ := hx
  have hM : (2 ^ m) ^ (n + 1) = 2 ^ (m * (n + 1)) := (Nat.pow_mul 2 m (n + 1)).symm
  have hmm : m ≤ m * (n + 1) := Nat.le_mul_of_pos_right _ (by omega)
  refine wok_of (M := 2 ^ m) (n := n) q1 r1 q4.mem r4 (Nat.le_of_lt r2) (Nat.le_of_lt r3) hl ?_ ?_ (Nat.pow_lt_pow_right (by omega) (by omega))
  · rw [hM]
    refine Nat.lt_of_lt_of_le (Nat.mul_lt_mul_of_pos_right q2 (Nat.pow_pos (by omega))) ?_
    rw [← Nat.pow_add]
    exact Nat.pow_le_pow_right (by omega) h1
  · rw [hM]
    have a1 : B * 2 ^ (m * (n + 1)) < 2 ^ (b + m * (n + 1)) := by
      rw [Nat.pow_add]
      exact Nat.mul_lt_mul_of_pos_right q3 (Nat.pow_pos (by omega))
    exact pow_lt (lt_mul hn a1) h2
end DL

end
section
set_option maxHeartbeats 1000000
/-! # DL: what is to be shown of a piece of code, from left to right -/
namespace DL
open PySem (Str)
section
variable {α β : Type}
/-- it ends with what K asks, or is raised as E asks -/
def R.wp (r : R α) (K : α → Store → Prop) (E : Nat → List D → Store → Prop) : Prop := match r with
  | .ok a S => K a S
  | .ex c as S => E c as S
  | .bad => False
def RS.wp (r : RS) (Q : RS → Prop) : Prop := match r with
  | .bad => False
  | o => Q o
/-- what is asked behind a statement, others behind it -/
def RS.ctn (f : En → Store → RS) (Q : RS → Prop) : RS → Prop := fun o => match o with
  | .nx env S => RS.wp (f env S) Q
  | o => Q o
@[simp] theorem wp_ok {a : α} {S : Store} {K : α → Store → Prop} {E : Nat → List D → Store → Prop} : R.wp (.ok a S) K E = K a S := rfl
@[simp] theorem wp_ex {c : Nat} {as : List D} {S : Store} {K : α → Store → Prop} {E : Nat → List D → Store → Prop} : R.wp (.ex c as S : R α) K E = E c as S := rfl
@[simp] theorem wp_bind {r : R α} {f : α → Store → R β} {K : β → Store → Prop} {E : Nat → List D → Store → Prop} : R.wp (r.bind f) K E = R.wp r (fun a S => R.wp (f a S) K E) E := by cases r <;> rfl
@[simp] theorem wps_then {r : R α} {env : En} {f : α → Store → RS} {Q : RS → Prop} : RS.wp (r.thenS env f) Q = R.wp r (fun a S => RS.wp (f a S) Q) (fun c as S => Q (.ex c as env S)) := by cases r <;> rfl
@[simp] theorem wps_seq {r : RS} {f : En → Store → RS} {Q : RS → Prop} : RS.wp (r.seq f) Q = RS.wp r (RS.ctn f Q) := by cases r <;> rfl
@[simp] theorem wps_nx {env : En} {S : Store} {f : En → Store → RS} {Q : RS → Prop} : RS.wp (.nx env S) (RS.ctn f Q) = RS.wp (f env S) Q := rfl
@[simp] theorem wps_rt {d : D} {S : Store} {f : En → Store → RS} {Q : RS → Prop} : RS.wp (.rt d S) (RS.ctn f Q) = RS.wp (.rt d S) Q := rfl
@[simp] theorem wps_bk {env : En} {S : Store} {f : En → Store → RS} {Q : RS → Prop} : RS.wp (.bk env S) (RS.ctn f Q) = RS.wp (.bk env S) Q := rfl
@[simp] theorem wps_ct {env : En} {S : Store} {f : En → Store → RS} {Q : RS → Prop} : RS.wp (.ct env S) (RS.ctn f Q) = RS.wp (.ct env S) Q := rfl
end
section
variable {F : Nat → List D → Store → R D} {C : List D} {N : Nat} {env : En} {S : Store} {Q : RS → Prop}
/-- what is asked behind a statement, those behind it by their text -/
def RS.cts (F : Nat → List D → Store → R D) (C : List D) (N : Nat) (rest : List DL.St) (Q : RS → Prop) : RS → Prop := fun o => match o with
  | .nx env S => RS.wp (execs F C N rest env S) Q
  | o => Q o
theorem wps_cons {s : DL.St} {rest : List DL.St} (h : RS.wp (exec F C N s env S) (RS.cts F C N rest Q)) : RS.wp (execs F C N (s :: rest) env S) Q := by
  rw [exs_cons]
  revert h
  cases exec F C N s env S <;> intro h <;> exact h
theorem wps_next {rest : List DL.St} (h : RS.wp (execs F C N rest env S) Q) : RS.wp (.nx env S) (RS.cts F C N rest Q) := h
theorem wps_end (h : RS.wp (.nx env S) Q) : RS.wp (execs F C N [] env S) Q := h
@[simp] theorem cts_rt {d : D} {rest : List DL.St} : RS.wp (.rt d S) (RS.cts F C N rest Q) = RS.wp (.rt d S) Q := rfl
@[simp] theorem cts_bk {rest : List DL.St} : RS.wp (.bk env S) (RS.cts F C N rest Q) = RS.wp (.bk env S) Q := rfl
@[simp] theorem cts_ct {rest : List DL.St} : RS.wp (.ct env S) (RS.cts F C N rest Q) = RS.wp (.ct env S) Q := rfl
end
section
variable {F : Nat → List D → Store → R D} {T : List Fn} {C : List D} {N k f : Nat} {S : Store} {K : D → Store → Prop} {E : Nat → List D → Store → Prop} {Q : RS → Prop}
/-- what is asked at a call's end -/
def endQ (S : Store) (K : D → Store → Prop) (E : Nat → List D → Store → Prop) : RS → Prop := fun o => R.wp (endR S o) K E
/-- a call, by its body -/
theorem run_wp {fn : Fn} {ds : List D} (h : T[f]? = some fn) (hk : 1 ≤ k) (hl : ds.length = fn.np) (hb : RS.wp (execs (run T C N (k - 1)) C N fn.body (startD fn.nn ds) S) (endQ S K E)) : R.wp (run T C N k f ds S) K E := by
  rw [run_s h hk hl]
  revert hb
  cases execs (run T C N (k - 1)) C N fn.body (startD fn.nn ds) S <;> intro hb <;> first | exact hb | cases hb
theorem wp_imp {α : Type} {r : R α} {K K' : α → Store → Prop} {E E' : Nat → List D → Store → Prop} (h : R.wp r K E) (hK : ∀ a S, K a S → K' a S) (hE : ∀ c as S, E c as S → E' c as S) : R.wp r K' E' := by
  cases r with
  | ok a S => exact hK a S h
  | ex c as S => exact hE c as S h
  | bad => exact h
theorem wps_imp {r : RS} {Q Q' : RS → Prop} (h : RS.wp r Q) (hQ : ∀ o, Q o → Q' o) : RS.wp r Q' := by
  cases r <;> first | exact hQ _ h | exact h
/-- what ends with plain data ends without exception -/
theorem wp_ok_iff {α : Type} {r : R α} {P : α → Store → Prop} : R.wp r P (fun _ _ _ => False) → ∃ a S', r = .ok a S' ∧ P a S' := fun h => by
  cases r with
  | ok a S => exact ⟨a, S, rfl, h⟩
  | ex c as S => cases h
  | bad => cases h
theorem wp_of {α : Type} {r : R α} {a : α} {S' : Store} {K : α → Store → Prop} {E : Nat → List D → Store → Prop} (h : r = .ok a S') (hK : K a S') : R.wp r K E := by rw [h]; exact hK
/-- a value that holds no list is given back: the lists made meanwhile are forgotten or not -/
theorem end_plain {d : D} {S' : Store} (hd : plain d = true) (hl : S.length ≤ S'.length) (h1 : K d S') (h2 : K d (S'.take S.length)) : RS.wp (.rt d S') (endQ S K E) := by
  show R.wp (leave S d S') K E
  unfold leave
  split
  · exact h1
  · split
    · exact h2
    · cases d <;> first | exact h1 | cases hd
theorem end_chw {n : Nat} {d : D} {S' : Store} (hd : plain d = true) (hn : n < S.length) (c : Ch n S S') (h : ∀ S'', Ch n S S'' → K d S'') : RS.wp (.rt d S') (endQ S K E) := end_plain hd c.1 (h _ c) (h _ (ch_cut hn c))
/-! ### loops -/
/-- what a turn of a loop asks -/
def turnQ (I : En → Store → Prop) (Q : RS → Prop) : RS → Prop := fun o => match o with
  | .nx e S => I e S
  | .ct e S => I e S
  | .bk e S => Q (.nx e S)
  | o => Q o
@[simp] theorem turn_nx {I : En → Store → Prop} {env : En} {S : Store} : RS.wp (.nx env S) (turnQ I Q) = I env S := rfl
@[simp] theorem turn_ct {I : En → Store → Prop} {env : En} {S : Store} : RS.wp (.ct env S) (turnQ I Q) = I env S := rfl
@[simp] theorem turn_bk {I : En → Store → Prop} {env : En} {S : Store} : RS.wp (.bk env S) (turnQ I Q) = RS.wp (.nx env S) Q := rfl
@[simp] theorem turn_rt {I : En → Store → Prop} {d : D} {S : Store} : RS.wp (.rt d S) (turnQ I Q) = RS.wp (.rt d S) Q := rfl
theorem forLoop_wp {dep : List (Nat × List D)} {tg : Tg} {body : En → Store → RS} : ∀ (l : List D) (I : Nat → En → Store → Prop) (env : En) (S : Store), I 0 env S →
    (∀ i e S', i ≤ l.length → I i e S' → It.still S' dep = true) →
    (∀ i d e S', l[i]? = some d → I i e S' → ∃ e1, Tg.put S' tg d e = some e1 ∧ RS.wp (body e1 S') (turnQ (I (i + 1)) Q)) →
    (∀ e S', I l.length e S' → RS.wp (.nx e S') Q) → RS.wp (forLoop dep tg body l env S) Q
  | [], I, env, S, h0, hs, h, hq => by
    show RS.wp (if It.still S dep then RS.nx env S else .bad) Q
    rw [if_pos (hs 0 env S (Nat.le_refl _) h0)]
    exact hq env S h0
  | d :: r, I, env, S, h0, hs, h, hq => by
    obtain ⟨e1, ep, hb⟩ := h 0 d env S rfl h0
    show RS.wp (if It.still S dep then match Tg.put S tg d env with
      | some env' => match body env' S with
        | .nx e S' => forLoop dep tg body r e S'
        | .ct e S' => forLoop dep tg body r e S'
        | .bk e S' => .nx e S'
        | .rt v S' => .rt v S'
        | .ex c as e S' => .ex c as e S'
        | .bad => .bad
      | none => .bad
    else .bad) Q
    rw [if_pos (hs 0 env S (Nat.zero_le _) h0), ep]
    show RS.wp (match body e1 S with
        | .nx e S' => forLoop dep tg body r e S'
        | .ct e S' => forLoop dep tg body r e S'
        | .bk e S' => .nx e S'
        | .rt v S' => .rt v S'
        | .ex c as e S' => .ex c as e S'
        | .bad => .bad) Q
    have ih : ∀ e S', I 1 e S' → RS.wp (forLoop dep tg body r e S') Q := fun e S' hI => forLoop_wp r (fun i => I (i + 1)) e S' hI (fun i e S'' hi hI => hs (i + 1) e S'' (by simpa using hi) hI) (fun i d e S'' hd hI => h (i + 1) d e S'' (by simpa using hd) hI) fun e S'' hI => hq e S'' hI
    revert hb
    cases body e1 S <;> intro hb
    · exact ih _ _ hb
    · exact hb
    · exact hb
    · exact ih _ _ hb
    · exact hb
    · exact hb
/-- a walk over data that is no list, or over a range -/
theorem for_wp {tg : Tg} {body : En → Store → RS} (l : List D) (I : Nat → En → Store → Prop) {env : En} {S : Store} (h0 : I 0 env S)
    (h : ∀ i d e S', l[i]? = some d → I i e S' → ∃ e1, Tg.put S' tg d e = some e1 ∧ RS.wp (body e1 S') (turnQ (I (i + 1)) Q))
    (hq : ∀ e S', I l.length e S' → RS.wp (.nx e S') Q) : RS.wp (forLoop [] tg body l env S) Q := forLoop_wp l I env S h0 (fun _ _ _ _ _ => rfl) h hq
/-- the same; what a turn is asked for has no shape -/
theorem for_wpq {tg : Tg} {body : En → Store → RS} (l : List D) (I : Nat → En → Store → Prop) {env : En} {S : Store} (h0 : I 0 env S)
    (h : ∀ (Q' : RS → Prop) i d e S', (∀ e2 S2, I (i + 1) e2 S2 → RS.wp (.nx e2 S2) Q') → (∀ e2 S2, I (i + 1) e2 S2 → RS.wp (.ct e2 S2) Q') → (∀ v S2, RS.wp (.rt v S2) Q → RS.wp (.rt v S2) Q') → (∀ e2 S2, RS.wp (.nx e2 S2) Q → RS.wp (.bk e2 S2) Q') → l[i]? = some d → I i e S' → ∃ e1, Tg.put S' tg d e = some e1 ∧ RS.wp (body e1 S') Q')
    (hq : ∀ e S', I l.length e S' → RS.wp (.nx e S') Q) : RS.wp (forLoop [] tg body l env S) Q :=
  for_wp l I h0 (fun i d e S' hd hI => h (turnQ (I (i + 1)) Q) i d e S' (fun _ _ h => h) (fun _ _ h => h) (fun _ _ h => h) (fun _ _ h => h) hd hI) hq
/-- a while loop by a measure -/
theorem while_wp {t : En → Store → R Bool} {body : En → Store → RS} : ∀ (M : Nat) (I : Nat → En → Store → Prop) (n : Nat) (env : En) (S : Store), I n env S → n < M →
    (∀ m e S', I m e S' → R.wp (t e S') (fun k S1 => if k = true then RS.wp (body e S1) (turnQ (fun e2 S2 => ∃ m', m' < m ∧ I m' e2 S2) Q) else RS.wp (.nx e S1) Q) (fun c as S1 => Q (.ex c as e S1))) → RS.wp (whileLoop t body M env S) Q
  | 0, I, n, env, S, h0, hn, h => absurd hn (Nat.not_lt_zero _)
  | M + 1, I, n, env, S, h0, hn, h => by
    have h1 := h n env S h0
    show RS.wp ((t env S).thenS env fun k S1 => if k then match body env S1 with
      | .nx e S' => whileLoop t body M e S'
      | .ct e S' => whileLoop t body M e S'
      | .bk e S' => .nx e S'
      | .rt v S' => .rt v S'
      | .ex c as e S' => .ex c as e S'
      | .bad => .bad
    else .nx env S1) Q
    rw [wps_then]
    refine wp_imp h1 (fun b S1 hb => ?_) fun _ _ _ h => h
    cases b with
    | false => exact hb
    | true =>
      have hb : RS.wp (body env S1) (turnQ (fun e2 S2 => ∃ m', m' < n ∧ I m' e2 S2) Q) := hb
      have ih : ∀ e S', (∃ m', m' < n ∧ I m' e S') → RS.wp (whileLoop t body M e S') Q := fun e S' ⟨m', hm, hI⟩ => while_wp M I m' e S' hI (by omega) h
      show RS.wp (match body env S1 with
        | .nx e S' => whileLoop t body M e S'
        | .ct e S' => whileLoop t body M e S'
        | .bk e S' => .nx e S'
        | .rt v S' => .rt v S'
        | .ex c as e S' => .ex c as e S'
        | .bad => .bad) Q
      revert hb
      cases body env S1 <;> intro hb
      · exact ih _ _ hb
      · exact hb
      · exact hb
      · exact ih _ _ hb
      · exact hb
      · exact hb
end
end DL

end
section
set_option maxHeartbeats 1000000
/-! # DL: rises, moved, stretched, turned POLYs; no program in sight -/
namespace DL
/-! ### two rows of numbers with the same worths everywhere -/
/-- the quotient by x less a -/
def syn (a : Rat) : List Rat → List Rat
  | [] => []
  | _ :: p => worth p a :: syn a p
theorem syn_len (a : Rat) : ∀ p : List Rat, (syn a p).length = p.length
  | [] => rfl
  | _ :: p => by simp [syn, syn_len a p]
/-- drop the last, which is nought -/
theorem syn_worth (a x : Rat) : ∀ p : List Rat, worth p x - worth p a = (x - a) * worth (syn a p) x
  | [] => by simp only [worth, syn]; grind
  | c :: p => by
    have ih := syn_worth a x p
    simp only [worth, syn]
    have : worth p x = worth p a + (x - a) * worth (syn a p) x := by grind
    rw [this]; grind
theorem syn_top (a : Rat) : ∀ (p : List Rat) (i : Nat), p.length ≤ i + 1 → cf (syn a p) i = 0
  | [], i, h => by simp [syn]
  | [c], i, h => by
    cases i with
    | zero => rfl
    | succ i => simp [syn]
  | c :: d :: p, 0, h => by simp at h
  | c :: d :: p, i + 1, h => by
    rw [syn, cf_cons_succ]
    exact syn_top a (d :: p) i (by simpa using h)
theorem worth_take {p : List Rat} {n : Nat} (h : ∀ i, n ≤ i → cf p i = 0) (x : Rat) : worth (p.take n) x = worth p x := by
  rw [worth_wf (p.take n) p.length x (by simp; omega), worth_wf p p.length x (Nat.le_refl _)]
  congr 1
  funext i
  by_cases hi : i < n
  · by_cases h2 : i < p.length
    · rw [cf_lt (by simp; omega), cf_lt h2]; simp
    · rw [cf_ge (by simp; omega), cf_ge (by omega)]
  · rw [cf_ge (by simp; omega), h i (by omega)]
theorem cf_take {p : List Rat} {n i : Nat} (h : i < n) : cf (p.take n) i = cf p i := by
  by_cases h2 : i < p.length
  · rw [cf_lt (by simp; omega), cf_lt h2]; simp
  · rw [cf_ge (by simp; omega), cf_ge (by omega)]
theorem zero_of_roots : ∀ (n : Nat) (as p : List Rat), p.length ≤ n → as.length = n → as.Nodup → (∀ a ∈ as, worth p a = 0) → ∀ i, cf p i = 0
  | 0, as, p, hp, ha, hn, h, i => by
    have : p = [] := List.length_eq_zero_iff.mp (by omega)
    subst this; exact cf_nil
  | n + 1, [], p, hp, ha, hn, h, i => by simp at ha
  | n + 1, a :: as, p, hp, ha, hn, h, i => by
    have ha0 := h a List.mem_cons_self
    have hn2 := List.nodup_cons.mp hn
    have top : ∀ i, n ≤ i → cf (syn a p) i = 0 := fun i hi => syn_top a p i (by omega)
    have z := zero_of_roots n as ((syn a p).take n) (by simp; omega) (by simpa using ha) hn2.2 fun b hb => by
      rw [worth_take top]
      have e := syn_worth a b p
      rw [h b (List.mem_cons_of_mem _ hb), ha0] at e
      have hne : b - a ≠ 0 := fun e2 => hn2.1 (by have : b = a := by grind
                                                  exact this ▸ hb)
      have e3 : (b - a) * worth (syn a p) b = 0 := by rw [← e]; grind
      exact (Rat.mul_eq_zero.mp e3).resolve_left hne
    have zs : ∀ i, cf (syn a p) i = 0 := fun i => by
      by_cases hi : i < n
      · rw [← cf_take hi]; exact z i
      · exact top i (by omega)
    -- every worth is nought, and so are the numbers
    have back : ∀ (q : List Rat), (∀ i, cf (syn a q) i = 0) → worth q a = 0 → ∀ i, cf q i = 0 := by
      intro q
      induction q with
      | nil => intro _ _ i; exact cf_nil
      | cons c q ih =>
        intro h1 h2 i
        have w0 : worth q a = 0 := h1 0
        have zq := ih (fun i => h1 (i + 1)) w0
        cases i with
        | zero =>
          simp only [worth, w0] at h2
          show c = 0
          grind
        | succ i => exact zq i
    exact back p zs ha0 i
theorem nats_nodup (n : Nat) : ((List.range n).map fun i : Nat => (i : Rat)).Nodup := by
  rw [List.nodup_iff_pairwise_ne, List.pairwise_map]
  refine List.Pairwise.imp ?_ (List.nodup_iff_pairwise_ne.mp List.nodup_range)
  intro a b h e
  exact h (Rat.natCast_inj.mp e)
/-- the same worths, the same POLYs -/
theorem worth_ext {p q : List Rat} (hp : Nm p) (hq : Nm q) (h : ∀ x, worth p x = worth q x) : p = q := nm_ext hp hq fun i => by
  have z := zero_of_roots (lin p q (-1)).length ((List.range (lin p q (-1)).length).map fun i : Nat => (i : Rat)) (lin p q (-1)) (Nat.le_refl _) (by simp) (nats_nodup _) (fun a _ => by rw [worth_lin, h]; grind) i
  rw [cf_lin] at z
  grind
/-! ### rises -/
def prise (p : List Rat) : List Rat := trim ((List.range (p.length - 1)).map fun i => ((i + 1 : Nat) : Rat) * cf p (i + 1))
theorem cf_rise (p : List Rat) (i : Nat) : cf (prise p) i = ((i + 1 : Nat) : Rat) * cf p (i + 1) := by
  unfold prise
  rw [cf_trim, cf_map_range]
  split
  · rfl
  · rw [cf_ge (p := p) (by omega)]; grind
theorem nm_rise (p : List Rat) : Nm (prise p) := nm_trim _
/-- the slope of the worth -/
def dw : List Rat → Rat → Rat
  | [], _ => 0
  | _ :: p, x => worth p x + x * dw p x
def dv (f : Nat → Rat) : Nat → Rat := fun i => ((i + 1 : Nat) : Rat) * f (i + 1)
theorem wf_dv : ∀ (n : Nat) (f : Nat → Rat) (x : Rat), wf (dv f) (n + 1) x = wf (sh f) (n + 1) x + x * wf (dv (sh f)) n x
  | 0, f, x => by simp only [wf, dv, sh]; grind
  | n + 1, f, x => by
    have e : sh (dv f) = fun i => dv (sh f) i + 1 * sh (sh f) i := by
      funext i
      simp only [sh, dv]
      have : ((i + 1 + 1 : Nat) : Rat) = ((i + 1 : Nat) : Rat) + 1 := by rw [Rat.natCast_add]; rfl
      rw [this]; grind
    have e1 : wf (dv f) (n + 1 + 1) x = dv f 0 + x * wf (sh (dv f)) (n + 1) x := rfl
    have e2 : wf (sh f) (n + 1 + 1) x = sh f 0 + x * wf (sh (sh f)) (n + 1) x := rfl
    have e3 : dv f 0 = sh f 0 := by simp only [dv, sh]; grind
    rw [e1, e2, e3, e, wf_lin]
    grind
theorem worth_rise : ∀ (p : List Rat) (x : Rat), worth (prise p) x = dw p x := fun p x => by
  have key : ∀ (p : List Rat), wf (dv (cf p)) p.length x = dw p x := by
    intro p
    induction p with
    | nil => rfl
    | cons c p ih =>
      rw [List.length_cons, wf_dv, show sh (cf (c :: p)) = cf p from rfl, ih, ← worth_wf p (p.length + 1) x (by omega)]; rfl
  have l : (prise p).length ≤ p.length := by
    unfold prise
    rw [trim_len]
    exact Nat.le_trans (tlen_le _ _) (by simp)
  rw [worth_wf _ p.length x l, ← key p]
  congr 1
  funext i
  exact cf_rise p i
theorem cv_dv : ∀ (k : Nat) (f g : Nat → Rat), ((k + 1 : Nat) : Rat) * cv f g (k + 1) = cv (dv f) g k + cv f (dv g) k
  | 0, f, g => by
    simp only [cv, dv, sh]
    grind
  | k + 1, f, g => by
    have ih := cv_dv k (sh f) g
    have e1 : cv f g (k + 1 + 1) = f 0 * g (k + 1 + 1) + cv (sh f) g (k + 1) := rfl
    have e2 : cv f (dv g) (k + 1) = f 0 * dv g (k + 1) + cv (sh f) (dv g) k := rfl
    have e3 : cv (dv f) g (k + 1) = dv f 0 * g (k + 1) + cv (sh (dv f)) g k := rfl
    have e4 : sh (dv f) = fun i => dv (sh f) i + 1 * sh (sh f) i := by
      funext i
      simp only [sh, dv]
      have : ((i + 1 + 1 : Nat) : Rat) = ((i + 1 : Nat) : Rat) + 1 := by rw [Rat.natCast_add]; rfl
      rw [this]; grind
    have e5 : cv (sh f) g (k + 1) = sh f 0 * g (k + 1) + cv (sh (sh f)) g k := rfl
    have e6 : dv f 0 = sh f 0 := by simp only [dv, sh]; grind
    have e7 : cv (fun i => dv (sh f) i + 1 * sh (sh f) i) g k = cv (dv (sh f)) g k + 1 * cv (sh (sh f)) g k := by
      rw [cv_add_left k (dv (sh f)) (fun i => 1 * sh (sh f) i) g, cv_smul_left]
    have e8 : ((k + 1 + 1 : Nat) : Rat) = ((k + 1 : Nat) : Rat) + 1 := by rw [Rat.natCast_add]; rfl
    have e9 : dv g (k + 1) = ((k + 1 + 1 : Nat) : Rat) * g (k + 1 + 1) := rfl
    rw [e1, e2, e3, e4, e7, e6, e9, e8]
    have e10 : (((k + 1 : Nat) : Rat) + 1) * cv (sh f) g (k + 1) = cv (dv (sh f)) g k + cv (sh f) (dv g) k + cv (sh f) g (k + 1) := by rw [← ih]; grind
    have e11 : (((k + 1 : Nat) : Rat) + 1) * (f 0 * g (k + 1 + 1) + cv (sh f) g (k + 1)) = f 0 * ((((k + 1 : Nat) : Rat) + 1) * g (k + 1 + 1)) + (((k + 1 : Nat) : Rat) + 1) * cv (sh f) g (k + 1) := by grind
    rw [e11, e10, e5]
    grind
theorem rise_mul (p q : List Rat) : prise (pmul p q) = lin (pmul (prise p) q) (pmul p (prise q)) 1 := nm_ext (nm_rise _) (nm_lin _ _ _) fun i => by
  rw [cf_rise, cf_lin, cf_pmul, cf_pmul, cf_pmul, cv_dv, cv_cong (cf_rise p) (fun _ => rfl), cv_cong (fun _ => rfl) (cf_rise q), Rat.one_mul]
  rfl
theorem rise_lin (p q : List Rat) (c : Rat) : prise (lin p q c) = lin (prise p) (prise q) c := nm_ext (nm_rise _) (nm_lin _ _ _) fun i => by
  rw [cf_rise, cf_lin, cf_lin, cf_rise, cf_rise]; grind
theorem nat_ne (i : Nat) : ((i + 1 : Nat) : Rat) ≠ 0 := fun e => by
  have : (((i + 1 : Nat) : Rat)) = ((0 : Nat) : Rat) := e
  have := Rat.natCast_inj.mp this
  omega
theorem rise_len {p : List Rat} (hp : Nm p) : (prise p).length = p.length - 1 := by
  have l : (prise p).length ≤ p.length - 1 := by
    unfold prise
    rw [trim_len]
    exact Nat.le_trans (tlen_le _ _) (by simp)
  by_cases h : p.length ≤ 1
  · omega
  · have hne : cf (prise p) (p.length - 2) ≠ 0 := by
      rw [cf_rise, show p.length - 2 + 1 = p.length - 1 by omega]
      intro e
      rcases Rat.mul_eq_zero.mp e with e | e
      · have := nat_ne (p.length - 2)
        rw [show p.length - 2 + 1 = p.length - 1 by omega] at this
        exact this e
      · exact hp.resolve_left (fun e => by subst e; simp at h) e
    by_cases c : p.length - 2 < (prise p).length
    · omega
    · exact absurd (cf_ge (by omega)) hne
/-! ### moved -/
def pmove : List Rat → Rat → List Rat
  | [], _ => []
  | a :: p, c => lin (pmul (pmove p c) [c, 1]) (trim [a]) 1
theorem worth_trim (p : List Rat) (x : Rat) : worth (trim p) x = worth p x := by
  have l : (trim p).length ≤ p.length := by rw [trim_len]; exact tlen_le _ _
  rw [worth_wf _ p.length x l, worth_wf p p.length x (Nat.le_refl _)]
  congr 1
  funext i
  exact cf_trim p i
theorem worth_move : ∀ (p : List Rat) (c x : Rat), worth (pmove p c) x = worth p (x + c)
  | [], c, x => rfl
  | a :: p, c, x => by
    rw [pmove, worth_lin, worth_pmul, worth_trim, worth_move p c x]
    simp only [worth]; grind
theorem nm_move : ∀ (p : List Rat) (c : Rat), Nm (pmove p c)
  | [], c => nm_nil
  | a :: p, c => nm_lin _ _ _
theorem move_move (p : List Rat) (c d : Rat) : pmove (pmove p c) d = pmove p (c + d) := worth_ext (nm_move _ _) (nm_move _ _) fun x => by
  rw [worth_move, worth_move, worth_move]
  congr 1; grind
theorem move_zero (p : List Rat) (h : Nm p) : pmove p 0 = p := worth_ext (nm_move _ _) h fun x => by rw [worth_move]; congr 1; grind
theorem move_mul (p q : List Rat) (c : Rat) : pmove (pmul p q) c = pmul (pmove p c) (pmove q c) := worth_ext (nm_move _ _) (nm_pmul _ _) fun x => by
  rw [worth_move, worth_pmul, worth_pmul, worth_move, worth_move]
theorem move_lin (p q : List Rat) (c d : Rat) : pmove (lin p q d) c = lin (pmove p c) (pmove q c) d := worth_ext (nm_move _ _) (nm_lin _ _ _) fun x => by
  rw [worth_move, worth_lin, worth_lin, worth_move, worth_move]
theorem dw_mul (p q : List Rat) (x : Rat) : dw (pmul p q) x = dw p x * worth q x + worth p x * dw q x := by
  rw [← worth_rise, rise_mul, worth_lin, worth_pmul, worth_pmul, worth_rise, worth_rise]; grind
theorem dw_lin (p q : List Rat) (c x : Rat) : dw (lin p q c) x = dw p x + c * dw q x := by
  rw [← worth_rise, rise_lin, worth_lin, worth_rise, worth_rise]
theorem dw_trim (p : List Rat) (x : Rat) : dw (trim p) x = dw p x := by
  rw [← worth_rise, ← worth_rise]
  congr 1
  exact nm_ext (nm_rise _) (nm_rise _) fun i => by rw [cf_rise, cf_rise, cf_trim]
theorem dw_move : ∀ (p : List Rat) (c x : Rat), dw (pmove p c) x = dw p (x + c)
  | [], c, x => rfl
  | a :: p, c, x => by
    rw [pmove, dw_lin, dw_mul, dw_trim, dw_move p c x, worth_move]
    simp only [dw, worth]; grind
theorem rise_move (p : List Rat) (c : Rat) : prise (pmove p c) = pmove (prise p) c := worth_ext (nm_rise _) (nm_move _ _) fun x => by
  rw [worth_rise, worth_move, worth_rise, dw_move]
theorem move_len {p : List Rat} (c : Rat) : (pmove p c).length ≤ p.length := by
  induction p with
  | nil => exact Nat.le_refl _
  | cons a p ih =>
    rw [pmove]
    refine len_le_of_cf (nm_lin _ _ _) fun i hi => ?_
    rw [cf_lin, cf_pmul, cf_trim, cf_ge (p := [a]) (by simp at hi ⊢; omega)]
    rw [cv_far (p.length) 2 i _ _ (fun j hj => cf_ge (by omega)) (fun j hj => cf_ge hj) (by simp at hi; omega)]
    grind
/-! ### stretched, turned -/
def pw (x : Rat) : Nat → Rat
  | 0 => 1
  | n + 1 => pw x n * x
def pstr (p : List Rat) (x : Rat) : List Rat := trim ((List.range p.length).map fun i => cf p i * pw x i)
theorem cf_str (p : List Rat) (x : Rat) (i : Nat) : cf (pstr p x) i = cf p i * pw x i := by
  unfold pstr
  rw [cf_trim, cf_map_range]
  split
  · rfl
  · rw [cf_ge (p := p) (by omega)]; grind
theorem nm_str (p : List Rat) (x : Rat) : Nm (pstr p x) := nm_trim _
theorem pw_ne {x : Rat} (h : x ≠ 0) : ∀ n, pw x n ≠ 0
  | 0 => by simp [pw]
  | n + 1 => fun e => by
    rcases Rat.mul_eq_zero.mp e with e | e
    · exact pw_ne h n e
    · exact h e
theorem str_len {p : List Rat} {x : Rat} (hp : Nm p) (hx : x ≠ 0) : (pstr p x).length = p.length := by
  have l : (pstr p x).length ≤ p.length := by
    unfold pstr
    rw [trim_len]
    exact Nat.le_trans (tlen_le _ _) (by simp)
  rcases hp with rfl | hp
  · simpa using l
  · by_cases c : p.length - 1 < (pstr p x).length
    · by_cases h0 : p.length = 0 <;> omega
    · have : cf (pstr p x) (p.length - 1) = 0 := cf_ge (by omega)
      rw [cf_str] at this
      rcases Rat.mul_eq_zero.mp this with e | e
      · exact absurd e hp
      · exact absurd e (pw_ne hx _)
theorem str_eq {p : List Rat} {x : Rat} (hp : Nm p) (hx : x ≠ 0) : pstr p x = (List.range p.length).map fun i => cf p i * pw x i := by
  have h := str_len hp hx
  unfold pstr at h ⊢
  rw [trim_len] at h
  unfold trim
  rw [h]
  exact List.take_of_length_le (by simp)
theorem pw_mul (x y : Rat) : ∀ n, pw (x * y) n = pw x n * pw y n
  | 0 => by simp [pw]
  | n + 1 => by simp only [pw, pw_mul x y n]; grind
theorem pw_one : ∀ n, pw 1 n = 1
  | 0 => rfl
  | n + 1 => by simp only [pw, pw_one n]; grind
theorem str_str (p : List Rat) (x y : Rat) : pstr (pstr p x) y = pstr p (x * y) := nm_ext (nm_str _ _) (nm_str _ _) fun i => by
  rw [cf_str, cf_str, cf_str, pw_mul]; grind
theorem str_one (p : List Rat) (h : Nm p) : pstr p 1 = p := nm_ext (nm_str _ _) h fun i => by rw [cf_str, pw_one]; grind
theorem pw_succ (x : Rat) (n : Nat) : pw x (n + 1) = x * pw x n := by simp only [pw]; grind
theorem wf_str : ∀ (n : Nat) (f : Nat → Rat) (x y : Rat), wf (fun i => f i * pw x i) n y = wf f n (y * x)
  | 0, f, x, y => rfl
  | n + 1, f, x, y => by
    have e : sh (fun i => f i * pw x i) = fun i => x * (sh f i * pw x i) := by
      funext i
      simp only [sh, pw_succ]; grind
    have e2 : wf (fun i => x * (sh f i * pw x i)) n y = x * wf (fun i => sh f i * pw x i) n y := by
      have := wf_lin n (fun _ => 0) (fun i => sh f i * pw x i) x y
      rw [wf_zero] at this
      rw [← (show (0 : Rat) + x * wf (fun i => sh f i * pw x i) n y = x * wf (fun i => sh f i * pw x i) n y by grind), ← this]
      congr 1
      funext i
      grind
    have e3 : wf (fun i => f i * pw x i) (n + 1) y = f 0 * pw x 0 + y * wf (sh (fun i => f i * pw x i)) n y := rfl
    have e4 : wf f (n + 1) (y * x) = f 0 + (y * x) * wf (sh f) n (y * x) := rfl
    rw [e3, e, e2, e4, wf_str n (sh f) x y]
    simp only [pw]; grind
theorem worth_str (p : List Rat) (x y : Rat) : worth (pstr p x) y = worth p (y * x) := by
  have l : (pstr p x).length ≤ p.length := by
    unfold pstr
    rw [trim_len]
    exact Nat.le_trans (tlen_le _ _) (by simp)
  rw [worth_wf _ p.length y l, worth_wf p p.length _ (Nat.le_refl _), ← wf_str]
  congr 1
  funext i
  exact cf_str p x i
theorem cf_one (c : Rat) (i : Nat) : cf (pmul [c] p) i = c * cf p i := by
  rw [cf_pmul]
  cases i with
  | zero => rfl
  | succ i =>
    have e : cv (cf [c]) (cf p) (i + 1) = c * cf p (i + 1) + cv (sh (cf [c])) (cf p) i := rfl
    rw [e, show sh (cf [c]) = fun _ => 0 from funext fun i => rfl, cv_zero_left]; grind
theorem rise_str (p : List Rat) (x : Rat) : prise (pstr p x) = pmul [x] (pstr (prise p) x) := nm_ext (nm_rise _) (nm_pmul _ _) fun i => by
  rw [cf_one, cf_str, cf_rise, cf_rise, cf_str, pw_succ]; grind
def pturn (m : Nat) (p : List Rat) : List Rat := trim ((List.range (m + 1)).map fun i => cf p (m - i))
theorem cf_turn (m : Nat) (p : List Rat) (i : Nat) : cf (pturn m p) i = if i < m + 1 then cf p (m - i) else 0 := by
  unfold pturn
  rw [cf_trim, cf_map_range]
theorem nm_turn (m : Nat) (p : List Rat) : Nm (pturn m p) := nm_trim _
theorem turn_len (m : Nat) (p : List Rat) : (pturn m p).length ≤ m + 1 := by
  unfold pturn
  rw [trim_len]
  exact Nat.le_trans (tlen_le _ _) (by simp)
theorem turn_turn {m : Nat} {p : List Rat} (h : Nm p) (hl : p.length ≤ m + 1) : pturn m (pturn m p) = p := nm_ext (nm_turn _ _) h fun i => by
  rw [cf_turn]
  by_cases hi : i < m + 1
  · rw [if_pos hi, cf_turn, if_pos (by omega), show m - (m - i) = i by omega]
  · rw [if_neg hi, cf_ge (by omega)]
end DL

end
section
set_option maxHeartbeats 1000000
set_option exponentiation.threshold 10000
/-! # DL: rises, moved, stretched, turned: the text's functions and the laws' own -/
namespace DL
open PySem (Str)
section
variable {T : List Fn} {C : List D} {N k f : Nat} {S : Store}
theorem run_of_wp {r : R D} {d : D} {S : Store} (h : R.wp r (fun a S' => a = d ∧ S' = S) (fun _ _ _ => False)) : r = .ok d S := by
  obtain ⟨a, S', e, rfl, rfl⟩ := wp_ok_iff h
  exact e
theorem enumL_range (p : List Rat) : enumL (p.map fr) = (List.range p.length).map fun i : Nat => D.tup [.int (i : Nat), fr (cf p i)] := by
  unfold enumL
  refine List.ext_getElem (by simp) fun i h1 h2 => ?_
  have hi : i < p.length := by simpa using h1
  simp [cf_lt hi]
theorem cutD_from1 (xs : List D) : cutD xs (some 1) none = xs.drop 1 := by
  unfold cutD HT.sIx
  cases xs with
  | nil => rfl
  | cons a xs =>
    simp only [List.length_cons]
    rw [if_neg (by decide)]
    have e : min (Int.toNat 1) (xs.length + 1) = 1 := by
      show min 1 (xs.length + 1) = 1
      omega
    rw [e]
    simp
theorem ok_nat {i : Nat} (h : i ≤ 1000) : Ok ((i : Nat) : Rat) := by
  refine (show Sz 10 ((i : Nat) : Rat) from ⟨?_, ?_⟩).mono (by decide)
  · rw [Rat.num_natCast]; simp; omega
  · rw [Rat.den_natCast]; decide
theorem fr_natInt (i : Nat) : fr (((i : Nat) : Int) : Rat) = fr ((i : Nat) : Rat) := by rw [Rat.intCast_natCast]
theorem lessened_tup {c : Nat} (h : T[f]? = some (fnLessened c)) (hc : C[c]? = some (fr 0)) (hk : 1 ≤ k) (p : List Rat) (hN : p.length < N) : run T C N k f [pl p] S = .ok (pl (trim p)) S := by
  rw [run_s h hk rfl]
  have loop : ∀ (s M : Nat), s ≤ p.length → s < M → whileLoop (test (run T C N (k - 1)) C (.and_ (.cmp .gt (.var 1) (.int 0)) (.cmp .eq (.idx (.var 0) (.bin .sub (.var 1) (.int 1))) (.cst c)))) (fun e S' => execs (run T C N (k - 1)) C N [(.asg (.name 1) (.bin .sub (.var 1) (.int 1)))] e S') M [some (.tup (p.map fr)), some (.int (s : Int))] S = .nx [some (.tup (p.map fr)), some (.int (tlen p s : Int))] S := by
    intro s
    induction s with
    | zero =>
      intro M h1 h2
      obtain ⟨M, rfl⟩ : ∃ j, M = j + 1 := ⟨M - 1, by omega⟩
      refine while_end ?_
      simp
    | succ s ih =>
      intro M h1 h2
      obtain ⟨M, rfl⟩ : ∃ j, M = j + 1 := ⟨M - 1, by omega⟩
      have ea : ((s : Int) + 1) - 1 = (s : Int) := by omega
      have ei : idxR (.tup (p.map fr)) (.int (s : Int)) S = .ok (fr (cf p s)) S := idx_tup (by rw [atI_nat]; exact map_get (by omega))
      have ee := cmp_eq (eqD_fr (S := S) (p := cf p s) (q := 0))
      have hp : (0 : Int) < (s : Int) + 1 := by omega
      by_cases hz : cf p s = 0
      · rw [hz] at ei ee
        rw [while_go (S1 := S) (env' := [some (.tup (p.map fr)), some (.int (s : Int))]) (S' := S) (by simp [hp, ea, ei, hc, ee]) (by simp [ea])]
        rw [ih M (by omega) (by omega)]
        simp only [tlen, hz, if_true]
      · rw [while_end (S1 := S) (by simp [hp, ea, ei, hc, ee, hz])]
        simp [tlen, hz]
  have hl : exec (run T C N (k - 1)) C N (.while_ (.and_ (.cmp .gt (.var 1) (.int 0)) (.cmp .eq (.idx (.var 0) (.bin .sub (.var 1) (.int 1))) (.cst c))) [(.asg (.name 1) (.bin .sub (.var 1) (.int 1)))]) [some (.tup (p.map fr)), some (.int (p.length : Int))] S = _ := loop p.length N (Nat.le_refl _) hN
  have es : slcR (.tup (p.map fr)) none (some (tlen p p.length : Int)) S = .ok (pl (trim p)) S := by
    show R.ok (D.tup (cutD (p.map fr) none (some (tlen p p.length : Int)))) S = _
    rw [cutD_to (by simpa using tlen_le p p.length), ← List.map_take]; rfl
  have e5 : biD .tuple [pl (trim p)] S = .ok (pl (trim p)) S := rfl
  simp only [pl] at *
  simp [fnLessened, startD, hl, es, e5]
/-! ### rises -/
def fnRiseOf (l t w : Nat) : Fn := ⟨1, 3, [(.ret (.call l [(.slc (.lc (.call t [(.call w [(.var 1)]), (.var 2)]) (.tup [(.name 1), (.name 2)]) (.enum (.var 0)) [] [1, 2]) [(.int 1)] [])]))]⟩
theorem rise_drop (p : List Rat) : cutD ((List.range p.length).map fun i : Nat => fr (((i : Nat) : Rat) * cf p i)) (some 1) none = ((List.range (p.length - 1)).map fun i => ((i + 1 : Nat) : Rat) * cf p (i + 1)).map fr := by
  rw [cutD_from1]
  refine List.ext_getElem (by simp) fun i h1 h2 => ?_
  simp [Nat.add_comm]
theorem riseOf_pl {l t w c : Nat} (h : T[f]? = some (fnRiseOf l t w)) (hl : T[l]? = some (fnLessened c)) (hc : C[c]? = some (fr 0)) (hw : T[w]? = some fnWhole) (ht : TimesS T C N (k - 1) t) (hk : 2 ≤ k) {p : List Rat} (hp : POk p) (hs : p.length ≤ 1000) (hN : p.length < N) :
    run T C N k f [pl p] S = .ok (pl (prise p)) S := by
  rw [run_s h (by omega) rfl]
  have e1 : ev (run T C N (k - 1)) C (.lc (.call t [(.call w [(.var 1)]), (.var 2)]) (.tup [(.name 1), (.name 2)]) (.enum (.var 0)) [] [1, 2]) [some (pl p), none, none] S = .ok (.ref S.length) (S ++ [(List.range p.length).map fun i : Nat => fr (((i : Nat) : Rat) * cf p i)]) :=
    ev_lcp (fun i : Nat => D.tup [.int (i : Nat), fr (cf p i)]) (fun i : Nat => fr (((i : Nat) : Rat) * cf p i)) (by simp [pl, enumL_range]) (small (by simp; omega)) fun i hi S' => ⟨_, rfl, fun S'' => by
      have hi : i < p.length := by simpa using hi
      have e2 := whole_int (C := C) (N := N) (S := S'') (k := k - 1) hw (by omega) (i : Int)
      rw [fr_natInt] at e2
      simp [e2, ht _ _ S'' (ok_nat (i := i) (by omega)) (hp i)]⟩
  have e2 := slc_ref (S := S ++ [(List.range p.length).map fun i : Nat => fr (((i : Nat) : Rat) * cf p i)]) (n := S.length) (xs := (List.range p.length).map fun i : Nat => fr (((i : Nat) : Rat) * cf p i)) (l := some 1) (h := none) (by simp)
  rw [rise_drop] at e2
  have e3 := lessened_ref (C := C) (N := N) (k := k - 1) (n := S.length + 1) (S := S ++ [(List.range p.length).map fun i : Nat => fr (((i : Nat) : Rat) * cf p i)] ++ [((List.range (p.length - 1)).map fun i => ((i + 1 : Nat) : Rat) * cf p (i + 1)).map fr]) hl hc (by omega) ((List.range (p.length - 1)).map fun i => ((i + 1 : Nat) : Rat) * cf p (i + 1)) (by simp) (by simp; omega)
  have el : (S ++ [(List.range p.length).map fun i : Nat => fr (((i : Nat) : Rat) * cf p i)]).length = S.length + 1 := by simp
  rw [el] at e2
  simp only [fnRiseOf, startD, List.map_cons, List.map_nil, List.length_cons, List.length_nil, List.cons_append, List.nil_append, List.replicate, exs_cons, exs_nil, ex_ret, ev_call', evs_cons, evs_nil, ev_slc, e1, R.bind_ok, ev_int, partOk_nil, partOk_int, e2, e3, R.thenS_ok, seq_rt]
  exact end_rt (by simp) (by simp) (closed_pl _ _)
def fnLRise (cu b : Nat) : Fn := ⟨1, 3, [(.ret (.call cu [(.slc (.lc (.call b [(.tup [(.var 1), (.int 1)]), (.var 2)]) (.tup [(.name 1), (.name 2)]) (.enum (.var 0)) [] [1, 2]) [(.int 1)] [])]))]⟩
theorem fr_nat (i : Nat) : D.tup [.int (i : Nat), .int 1] = fr ((i : Nat) : Rat) := by
  unfold fr
  rw [Rat.num_natCast, Rat.den_natCast]; rfl
theorem lrise_pl {cu b : Nat} (h : T[f]? = some (fnLRise cu b)) (hcu : T[cu]? = some fnCut) (ht : TimesS T C N (k - 1) b) (hk : 2 ≤ k) {p : List Rat} (hp : POk p) (hs : p.length ≤ 1000) :
    run T C N k f [pl p] S = .ok (pl (prise p)) S := by
  rw [run_s h (by omega) rfl]
  have e1 : ev (run T C N (k - 1)) C (.lc (.call b [(.tup [(.var 1), (.int 1)]), (.var 2)]) (.tup [(.name 1), (.name 2)]) (.enum (.var 0)) [] [1, 2]) [some (pl p), none, none] S = .ok (.ref S.length) (S ++ [(List.range p.length).map fun i : Nat => fr (((i : Nat) : Rat) * cf p i)]) :=
    ev_lcp (fun i : Nat => D.tup [.int (i : Nat), fr (cf p i)]) (fun i : Nat => fr (((i : Nat) : Rat) * cf p i)) (by simp [pl, enumL_range]) (small (by simp; omega)) fun i hi S' => ⟨_, rfl, fun S'' => by
      have hi : i < p.length := by simpa using hi
      simp [fr_nat, ht _ _ S'' (ok_nat (i := i) (by omega)) (hp i)]⟩
  have e2 := slc_ref (S := S ++ [(List.range p.length).map fun i : Nat => fr (((i : Nat) : Rat) * cf p i)]) (n := S.length) (xs := (List.range p.length).map fun i : Nat => fr (((i : Nat) : Rat) * cf p i)) (l := some 1) (h := none) (by simp)
  rw [rise_drop] at e2
  have e3 := cut_ok (C := C) (N := N) (k := k - 1) (n := S.length + 1) (S := S ++ [(List.range p.length).map fun i : Nat => fr (((i : Nat) : Rat) * cf p i)] ++ [((List.range (p.length - 1)).map fun i => ((i + 1 : Nat) : Rat) * cf p (i + 1)).map fr]) hcu (by omega) (p := (List.range (p.length - 1)).map fun i => ((i + 1 : Nat) : Rat) * cf p (i + 1)) (by simp) (by simp; omega)
  have el : (S ++ [(List.range p.length).map fun i : Nat => fr (((i : Nat) : Rat) * cf p i)]).length = S.length + 1 := by simp
  rw [el] at e2
  simp only [fnLRise, startD, List.map_cons, List.map_nil, List.length_cons, List.length_nil, List.cons_append, List.nil_append, List.replicate, exs_cons, exs_nil, ex_ret, ev_call', evs_cons, evs_nil, ev_slc, e1, R.bind_ok, ev_int, partOk_nil, partOk_int, e2, e3, R.thenS_ok, seq_rt]
  exact end_rt (by simp) (by simp) (closed_pl _ _)
/-! ### moved -/
/-- a walk from the greatest power on -/
theorem horner_loop {F : Nat → List D → Store → R D} {body : List DL.St} {G : List Rat → D} {p : List Rat} {e0 e1 : Option D} (hs : ∀ pre c suf S, pre ++ c :: suf = p → execs F C N body [e0, e1, some (G suf), some (fr c)] S = .nx [e0, e1, some (G (c :: suf)), some (fr c)] S) :
    ∀ (r suf : List Rat) (e3 : Option D), r.reverse ++ suf = p → ∃ e3', forLoop [] (.name 3) (fun e S' => execs F C N body e S') (r.map fr) [e0, e1, some (G suf), e3] S = .nx [e0, e1, some (G p), e3'] S
  | [], suf, e3, e => by
    have : suf = p := by simpa using e
    subst this
    exact ⟨e3, for_nil rfl⟩
  | c :: r, suf, e3, e => by
    have e' : r.reverse ++ (c :: suf) = p := by rw [← e]; simp
    obtain ⟨e3', ih⟩ := horner_loop (G := G) hs r (c :: suf) (some (fr c)) e'
    exact ⟨e3', by rw [List.map_cons, for_go (env2 := [e0, e1, some (G (c :: suf)), some (fr c)]) (S2 := S) rfl rfl (hs _ _ _ _ e'), ih]⟩
theorem horner_for {F : Nat → List D → Store → R D} {body : List DL.St} {G : List Rat → D} {p : List Rat} {e1 e3 : Option D} (hs : ∀ pre c suf S, pre ++ c :: suf = p → execs F C N body [some (pl p), e1, some (G suf), some (fr c)] S = .nx [some (pl p), e1, some (G (c :: suf)), some (fr c)] S) :
    ∃ e3', exec F C N (.for_ (.name 3) (.seq (.rev (.var 0))) body) [some (pl p), e1, some (G []), e3] S = .nx [some (pl p), e1, some (G p), e3'] S := by
  obtain ⟨e3', r⟩ := horner_loop (S := S) hs p.reverse [] e3 (by simp)
  refine ⟨e3', ?_⟩
  rw [ex_for]
  have e : revR (pl p) S = .ok (pl p.reverse) S := by
    show R.ok (D.tup (p.map fr).reverse) S = _
    rw [← List.map_reverse]; rfl
  simp only [evi_seq, ev_rev, ev_var, List.getElem?_cons_zero, R.bind_ok, e]
  simp only [pl, items_tup, dep_tup, R.bind_ok, R.thenS_ok] at *
  exact r
/-- what moving asks -/
structure MvOk (p : List Rat) (x : Rat) : Prop where
  len : p.length ≤ 50
  ok : ∀ pre c suf, pre ++ c :: suf = p → (∃ D E B B', MulB (pmove suf x) [x, 1] D E B B') ∧ POk (pmul (pmove suf x) [x, 1]) ∧ Ok c
theorem suf_len {pre suf p : List Rat} {c : Rat} (h : pre ++ c :: suf = p) : suf.length + 1 ≤ p.length := by
  rw [← h]; simp
theorem pok_1 {c : Rat} (h : Ok c) : POk [c] := fun i => by
  cases i with
  | zero => exact h
  | succ i => rw [cf_cons_succ, cf_nil]; exact ok_zero
theorem pok_trim {p : List Rat} (h : POk p) : POk (trim p) := fun i => by rw [cf_trim]; exact h i
theorem trim_le (p : List Rat) : (trim p).length ≤ p.length := by rw [trim_len]; exact tlen_le _ _
theorem pmul_lle (p q : List Rat) : (pmul p q).length ≤ p.length + q.length := by
  unfold pmul
  exact Nat.le_trans (trim_le _) (by simp)
def fnMovedBy (sb pb l c1 : Nat) : Fn := ⟨2, 4, [(.asg (.name 2) (.tup [])), (.for_ (.name 3) (.seq (.rev (.var 0))) [(.asg (.name 2) (.call sb [(.call pb [(.var 2), (.tup [(.var 1), (.cst c1)])]), (.call l [(.tup [(.var 3)])])]))]), (.ret (.var 2))]⟩
theorem movedBy_pl {sb pb l c1 c pp d M : Nat} (h : T[f]? = some (fnMovedBy sb pb l c1)) (hc1 : C[c1]? = some (fr 1)) (hc : C[c]? = some (fr 0)) (hl : T[l]? = some (fnLessened c)) (hsb : T[sb]? = some (fnSumBy l pp d)) (hd : T[d]? = some (fnPadded c)) (hpb : T[pb]? = some (fnProductBy c pp M l)) (hP : PlusS T C N (k - 2) pp) (hM : TimesS T C N (k - 2) M) (hk : 3 ≤ k) (hN : 200 < N) {p : List Rat} {x : Rat} (m : MvOk p x) :
    run T C N k f [pl p, fr x] S = .ok (pl (pmove p x)) S := by
  rw [run_s h (by omega) rfl]
  have len := m.len
  obtain ⟨e3', r⟩ := horner_for (S := S) (C := C) (N := N) (F := run T C N (k - 1)) (G := fun suf => pl (pmove suf x)) (p := p) (e1 := some (fr x)) (e3 := none) (body := [(.asg (.name 2) (.call sb [(.call pb [(.var 2), (.tup [(.var 1), (.cst c1)])]), (.call l [(.tup [(.var 3)])])]))]) fun pre c' suf S e => by
    obtain ⟨⟨D1, E1, B1, B2, b⟩, o1, o2⟩ := m.ok pre c' suf e
    have ls := suf_len e
    have lm := move_len (p := suf) x
    have a1 := productBy_pl (S := S) (N := N) (k := k - 1) hpb hc hl hP hM (by omega) b (by simp; omega) (by simp; omega)
    have a2 := lessened_tup (S := S) (N := N) (k := k - 1) hl hc (by omega) [c'] (by simp; omega)
    have l1 := pmul_lle (pmove suf x) [x, 1]
    have l2 := trim_le [c']
    simp only [List.length_cons, List.length_nil] at l1 l2
    have a3 := sumBy_pl (S := S) (N := N) (k := k - 1) hsb hl hd hc hP (by omega) (pmul (pmove suf x) [x, 1]) (trim [c']) o1 (pok_trim (pok_1 o2)) (by omega) (by omega)
    have e1 : newT [fr x, fr 1] S = .ok (pl [x, 1]) S := newT_2
    have e2 : newT [fr c'] S = .ok (pl [c']) S := newT_1
    simp only [exs_cons, exs_nil, ex_asg, ev_call', evs_cons, evs_nil, ev_var, ev_tup, ev_cst, hc1, List.getElem?_cons_zero, List.getElem?_cons_succ, R.bind_ok, e1, e2, a1, a2, a3, R.thenS_ok, put_name', RS.seq_nx, List.set_cons_succ, List.set_cons_zero]
    rfl
  have e0 : newT [] S = .ok (pl (pmove [] x)) S := newT_0
  simp only [fnMovedBy, startD, List.map_cons, List.map_nil, List.length_cons, List.length_nil, List.cons_append, List.nil_append, List.replicate, exs_cons, exs_nil, ex_asg, ev_tup, evs_nil, R.bind_ok, e0, R.thenS_ok, put_name', RS.seq_nx, List.set_cons_succ, List.set_cons_zero, r, ex_ret, ev_var, List.getElem?_cons_zero, List.getElem?_cons_succ, seq_rt, end_rt_same]
def fnLMoved (mx pd : Nat) : Fn := ⟨2, 4, [(.asg (.name 2) (.tup [])), (.for_ (.name 3) (.seq (.rev (.var 0))) [(.asg (.name 2) (.call mx [(.call pd [(.var 2), (.tup [(.var 1), (.tup [(.int 1), (.int 1)])])]), (.tup [(.var 3)]), (.tup [(.int 1), (.int 1)])]))]), (.ret (.var 2))]⟩
theorem ok_one : Ok 1 := sz_one.mono (by decide)
theorem lin_trim (p q : List Rat) : lin p (trim q) 1 = lin p q 1 := nm_ext (nm_lin _ _ _) (nm_lin _ _ _) fun i => by rw [cf_lin, cf_lin, cf_trim]
theorem lmoved_pl {mx pd cu P M nu : Nat} (h : T[f]? = some (fnLMoved mx pd)) (hcu : T[cu]? = some fnCut) (hmx : T[mx]? = some (fnMixed cu P M nu)) (hnu : T[nu]? = some fnNumber) (hpd : T[pd]? = some (fnLProduct P M cu)) (hP : PlusS T C N (k - 2) P) (hM : TimesS T C N (k - 2) M) (hk : 3 ≤ k) {p : List Rat} {x : Rat} (m : MvOk p x) :
    run T C N k f [pl p, fr x] S = .ok (pl (pmove p x)) S := by
  rw [run_s h (by omega) rfl]
  have len := m.len
  obtain ⟨e3', r⟩ := horner_for (S := S) (C := C) (N := N) (F := run T C N (k - 1)) (G := fun suf => pl (pmove suf x)) (p := p) (e1 := some (fr x)) (e3 := none) (body := [(.asg (.name 2) (.call mx [(.call pd [(.var 2), (.tup [(.var 1), (.tup [(.int 1), (.int 1)])])]), (.tup [(.var 3)]), (.tup [(.int 1), (.int 1)])]))]) fun pre c' suf S e => by
    obtain ⟨⟨D1, E1, B1, B2, b⟩, o1, o2⟩ := m.ok pre c' suf e
    have ls := suf_len e
    have lm := move_len (p := suf) x
    have a1 := lproduct_ok (S := S) (N := N) (k := k - 1) hpd hcu hP hM (by omega) b (by simp; omega)
    have l1 := pmul_lle (pmove suf x) [x, 1]
    simp only [List.length_cons, List.length_nil] at l1
    have a3 := mixed_ok (S := S) (N := N) (k := k - 1) hmx hcu hP hM hnu (by omega) (p := pmul (pmove suf x) [x, 1]) (q := [c']) (c := 1) o1 (pok_1 o2) ok_one (fun i => by rw [Rat.one_mul]; exact pok_1 o2 i) (by simp; omega)
    have e1 : newT [fr x, .tup [.int 1, .int 1]] S = .ok (pl [x, 1]) S := newT_2
    have e2 : newT [fr c'] S = .ok (pl [c']) S := newT_1
    have e3 : newT [.int 1, .int 1] S = .ok (.tup [.int 1, .int 1]) S := newT_2
    have e4 : D.tup [.int 1, .int 1] = fr 1 := rfl
    rw [e4] at e3 e1
    simp only [exs_cons, exs_nil, ex_asg, ev_call', evs_cons, evs_nil, ev_var, ev_tup, ev_int, List.getElem?_cons_zero, List.getElem?_cons_succ, R.bind_ok, e3, e1, e2, a1, a3, R.thenS_ok, put_name', RS.seq_nx, List.set_cons_succ, List.set_cons_zero]
    rw [← lin_trim]; rfl
  have e0 : newT [] S = .ok (pl (pmove [] x)) S := newT_0
  simp only [fnLMoved, startD, List.map_cons, List.map_nil, List.length_cons, List.length_nil, List.cons_append, List.nil_append, List.replicate, exs_cons, exs_nil, ex_asg, ev_tup, evs_nil, R.bind_ok, e0, R.thenS_ok, put_name', RS.seq_nx, List.set_cons_succ, List.set_cons_zero, r, ex_ret, ev_var, List.getElem?_cons_zero, List.getElem?_cons_succ, seq_rt, end_rt_same]
/-! ### stretched -/
def fnStretchedBy (t c1 : Nat) : Fn := ⟨2, 5, [(.asg (.tup [(.name 3), (.name 4)]) (.tup [(.lst []), (.cst c1)])), (.for_ (.name 2) (.seq (.var 0)) [(.expr (.meth .append (.var 3) [(.call t [(.var 2), (.var 4)])])), (.asg (.name 4) (.call t [(.var 4), (.var 1)]))]), (.ret (.bi .tuple [(.var 3)]))]⟩
theorem range_succ_map {α : Type} (g : Nat → α) (i : Nat) : (List.range (i + 1)).map g = (List.range i).map g ++ [g i] := by rw [List.range_succ, List.map_append]; rfl
theorem newL_0 : newL [] S = .ok (.ref S.length) (S ++ [[]]) := rfl
theorem get_map {p : List Rat} {i : Nat} {d : D} (h : (p.map fr)[i]? = some d) : i < p.length ∧ d = fr (cf p i) := by
  have hi : i < p.length := by
    have := (List.getElem?_eq_some_iff.mp h).1
    simpa using this
  rw [map_get hi] at h
  exact ⟨hi, (Option.some.inj h).symm⟩
theorem stretchedBy_pl {t c1 : Nat} (h : T[f]? = some (fnStretchedBy t c1)) (hc1 : C[c1]? = some (fr 1)) (ht : TimesS T C N (k - 1) t) (hk : 1 ≤ k) {p : List Rat} {x : Rat} (hp : POk p) (hx : Ok x) (hw : ∀ i, i ≤ p.length → Ok (pw x i)) (hl : p.length ≤ 1000) :
    run T C N k f [pl p, fr x] S = .ok (pl ((List.range p.length).map fun i => cf p i * pw x i)) S := by
  refine run_of_wp (run_wp h hk rfl ?_)
  have e1 : ∀ S : Store, newT [.ref S.length, fr 1] (S ++ [[]]) = .ok (.tup [.ref S.length, fr 1]) (S ++ [[]]) := fun S => newT_2
  simp only [fnStretchedBy, startD, List.map_cons, List.map_nil, List.length_cons, List.length_nil, List.cons_append, List.nil_append, List.replicate, exs_cons, exs_nil, wps_seq, ex_asg, wps_then, ev_tup, wp_bind, evs_cons, ev_lst, evs_nil, wp_ok, newL_0, R.bind_ok, ev_cst, hc1, e1, put_tup', items_tup, if_true, puts_cons', puts_nil', put_name', RS.seq_nx, wps_nx, List.set_cons_succ, List.set_cons_zero, ex_for, evi_seq, ev_var, List.getElem?_cons_zero, pl, dep_tup]
  refine for_wp (p.map fr) (fun i env S' => ∃ e2, env = [some (.tup (p.map fr)), some (fr x), e2, some (.ref S.length), some (fr (pw x i))] ∧ S' = S ++ [((List.range i).map fun j => cf p j * pw x j).map fr]) ⟨none, rfl, rfl⟩ (fun i d e S' hd hI => ?_) fun e S' hI => ?_
  · obtain ⟨e2, rfl, rfl⟩ := hI
    obtain ⟨hi, rfl⟩ := get_map hd
    have a1 := ht _ _ (S ++ [((List.range i).map fun j => cf p j * pw x j).map fr]) (hp i) (hw i (by omega))
    have a2 := ht _ _ (S ++ [((List.range (i + 1)).map fun j => cf p j * pw x j).map fr]) (hw i (by omega)) hx
    have a3 : mtD .append (.ref S.length) [fr (cf p i * pw x i)] (S ++ [((List.range i).map fun j => cf p j * pw x j).map fr]) = .ok .non (S ++ [((List.range (i + 1)).map fun j => cf p j * pw x j).map fr]) := by
      have e0 : (S ++ [((List.range i).map fun j => cf p j * pw x j).map fr])[S.length]? = some (((List.range i).map fun j => cf p j * pw x j).map fr) := by simp
      have hs : (((List.range i).map fun j => cf p j * pw x j).map fr).length < PySem.sizeLine := by
        simp only [List.length_map, List.length_range]
        exact Nat.lt_of_lt_of_le (show i < 16777216 by omega) (Nat.le_refl _)
      show (match (S ++ [((List.range i).map fun j => cf p j * pw x j).map fr])[S.length]? with
        | some l => if l.length < PySem.sizeLine then R.ok D.non (setAt (S ++ [((List.range i).map fun j => cf p j * pw x j).map fr]) S.length (l ++ [fr (cf p i * pw x i)])) else .bad
        | none => .bad) = _
      rw [e0]
      simp only [hs, if_true]
      rw [range_succ_map, List.map_append]
      simp [setAt]
    have a4 : recvOk .append (.ref S.length) (S ++ [((List.range i).map fun j => cf p j * pw x j).map fr]) = true := by simp [recvOk]
    refine ⟨_, rfl, ?_⟩
    simp only [List.set_cons_succ, List.set_cons_zero, exs_cons, exs_nil, wps_seq, ex_expr, wps_then, ev_meth, wp_bind, ev_var, List.getElem?_cons_zero, List.getElem?_cons_succ, wp_ok, a4, if_true, evs_cons, evs_nil, ev_call', R.bind_ok, a1, a3, wps_nx, ex_asg, a2, put_name', turn_nx]
    exact ⟨some (fr (cf p i)), rfl, trivial⟩
  · obtain ⟨e2, rfl, rfl⟩ := hI
    have a5 : biD .tuple [.ref S.length] (S ++ [((List.range p.length).map fun j => cf p j * pw x j).map fr]) = .ok (pl ((List.range p.length).map fun j => cf p j * pw x j)) (S ++ [((List.range p.length).map fun j => cf p j * pw x j).map fr]) := bi_tuple_ref (by simp)
    show RS.wp (.nx _ _) _
    simp only [List.length_map, wps_nx, exs_cons, exs_nil, wps_seq, ex_ret, wps_then, ev_bi', wp_bind, evs_cons, evs_nil, ev_var, List.getElem?_cons_zero, List.getElem?_cons_succ, R.bind_ok, wp_ok, a5, wps_rt]
    show R.wp (endR S (.rt _ _)) _ _
    rw [end_rt (by simp) (by simp) (closed_pl _ _)]
    exact ⟨rfl, rfl⟩
end
end DL

end
section
set_option maxHeartbeats 1000000
set_option exponentiation.threshold 10000
/-! # DL: stretched and turned, the laws' own; checks -/
namespace DL
open PySem (Str)
section
variable {T : List Fn} {C : List D} {N k f : Nat} {S : Store}
def fnLStretched (b cu : Nat) : Fn := ⟨2, 5, [(.asg (.tup [(.name 3), (.name 4)]) (.tup [(.lst []), (.tup [(.int 1), (.int 1)])])), (.for_ (.name 2) (.seq (.var 0)) [(.asg (.tup [(.name 3), (.name 4)]) (.tup [(.bin .add (.var 3) (.lst [(.call b [(.var 2), (.var 4)])])), (.call b [(.var 4), (.var 1)])]))]), (.ret (.call cu [(.var 3)]))]⟩
theorem lstretched_pl {b cu : Nat} (h : T[f]? = some (fnLStretched b cu)) (hcu : T[cu]? = some fnCut) (ht : TimesS T C N (k - 1) b) (hk : 2 ≤ k) {p : List Rat} {x : Rat} (hp : POk p) (hx : Ok x) (hw : ∀ i, i ≤ p.length → Ok (pw x i)) (hl : p.length ≤ 1000) :
    run T C N k f [pl p, fr x] S = .ok (pl (pstr p x)) S := by
  refine run_of_wp (run_wp h (by omega) rfl ?_)
  have e1 : ∀ S : Store, newT [.ref S.length, fr 1] (S ++ [[]]) = .ok (.tup [.ref S.length, fr 1]) (S ++ [[]]) := fun S => newT_2
  have e4 : D.tup [.int 1, .int 1] = fr 1 := rfl
  have e3 : ∀ S : Store, newT [.int 1, .int 1] S = .ok (fr 1) S := fun S => newT_2
  simp only [fnLStretched, startD, List.map_cons, List.map_nil, List.length_cons, List.length_nil, List.cons_append, List.nil_append, List.replicate, exs_cons, exs_nil, wps_seq, ex_asg, wps_then, ev_tup, wp_bind, evs_cons, ev_lst, evs_nil, wp_ok, newL_0, R.bind_ok, ev_int, e3, e1, put_tup', items_tup, if_true, puts_cons', puts_nil', put_name', RS.seq_nx, wps_nx, List.set_cons_succ, List.set_cons_zero, ex_for, evi_seq, ev_var, List.getElem?_cons_zero, pl, dep_tup]
  refine for_wp (p.map fr) (fun i env S' => ∃ e2 m G, env = [some (.tup (p.map fr)), some (fr x), e2, some (.ref m), some (fr (pw x i))] ∧ S' = S ++ G ∧ S'[m]? = some (((List.range i).map fun j => cf p j * pw x j).map fr)) ⟨none, S.length, [[]], rfl, rfl, by simp⟩ (fun i d e S' hd hI => ?_) fun e S' hI => ?_
  · obtain ⟨e2, m, G, rfl, hS', hm⟩ := hI
    obtain ⟨hi, rfl⟩ := get_map hd
    have hml : m < S'.length := (List.getElem?_eq_some_iff.mp hm).1
    have a1 := ht _ _ S' (hp i) (hw i (by omega))
    have a5 : newL [fr (cf p i * pw x i)] S' = .ok (.ref S'.length) (S' ++ [[fr (cf p i * pw x i)]]) := newL_1
    have a3 : opD .add (.ref m) (.ref S'.length) (S' ++ [[fr (cf p i * pw x i)]]) = .ok (.ref (S'.length + 1)) (S' ++ [[fr (cf p i * pw x i)]] ++ [((List.range (i + 1)).map fun j => cf p j * pw x j).map fr]) := by
      have q1 : (S' ++ [[fr (cf p i * pw x i)]])[m]? = some (((List.range i).map fun j => cf p j * pw x j).map fr) := by rw [List.getElem?_append_left hml]; exact hm
      have q2 : (S' ++ [[fr (cf p i * pw x i)]])[S'.length]? = some [fr (cf p i * pw x i)] := by simp
      show (match (S' ++ [[fr (cf p i * pw x i)]])[m]?, (S' ++ [[fr (cf p i * pw x i)]])[S'.length]? with
        | some l, some k => newL (l ++ k) (S' ++ [[fr (cf p i * pw x i)]])
        | _, _ => .bad) = _
      rw [q1, q2]
      simp only
      rw [newL_ok (small (by simp; omega)), range_succ_map, List.map_append]
      simp
    have a2 := ht _ _ (S' ++ [[fr (cf p i * pw x i)]] ++ [((List.range (i + 1)).map fun j => cf p j * pw x j).map fr]) (hw i (by omega)) hx
    have a6 : newT [.ref (S'.length + 1), fr (pw x i * x)] (S' ++ [[fr (cf p i * pw x i)]] ++ [((List.range (i + 1)).map fun j => cf p j * pw x j).map fr]) = .ok (.tup [.ref (S'.length + 1), fr (pw x i * x)]) _ := newT_2
    refine ⟨_, rfl, ?_⟩
    simp only [List.set_cons_succ, List.set_cons_zero, exs_cons, exs_nil, wps_seq, ex_asg, wps_then, ev_tup, wp_bind, evs_cons, evs_nil, ev_bin, ev_lst, ev_var, List.getElem?_cons_zero, List.getElem?_cons_succ, wp_ok, ev_call', R.bind_ok, a1, a5, a3, a2, a6, put_tup', items_tup, List.length_cons, List.length_nil, if_true, puts_cons', puts_nil', put_name', RS.seq_nx, wps_nx, turn_nx]
    exact ⟨_, S'.length + 1, G ++ [[fr (cf p i * pw x i)]] ++ [((List.range (i + 1)).map fun j => cf p j * pw x j).map fr], rfl, by rw [hS']; simp, by simp⟩
  · obtain ⟨e2, m, G, rfl, hS', hm⟩ := hI
    simp only [List.length_map] at hm
    have a5 := cut_ok (C := C) (N := N) (k := k - 1) hcu (by omega) hm (by simp; omega)
    show RS.wp (.nx _ _) _
    simp only [List.length_map, wps_nx, exs_cons, exs_nil, wps_seq, ex_ret, wps_then, ev_call', wp_bind, evs_cons, evs_nil, ev_var, List.getElem?_cons_zero, List.getElem?_cons_succ, R.bind_ok, wp_ok, a5, wps_rt]
    show R.wp (endR S (.rt _ _)) _ _
    rw [end_rt (by rw [hS']; simp) (by rw [hS']; simp) (closed_pl _ _)]
    exact ⟨rfl, rfl⟩
/-! ### turned -/
def fnTurnedBy (l d : Nat) : Fn := ⟨2, 2, [(.ret (.call l [(.rev (.call d [(.var 1), (.bin .add (.var 0) (.int 1))]))]))]⟩
theorem turn_rev (m : Nat) (p : List Rat) : ((List.range (m + 1)).map (cf p)).reverse = (List.range (m + 1)).map fun i => cf p (m - i) := by
  refine List.ext_getElem (by simp) fun i h1 h2 => ?_
  simp at h1 ⊢
theorem rev_pl (p : List Rat) : revR (pl p) S = .ok (pl p.reverse) S := by
  show R.ok (D.tup (p.map fr).reverse) S = _
  rw [← List.map_reverse]; rfl
theorem turnedBy_pl {l d c : Nat} (h : T[f]? = some (fnTurnedBy l d)) (hl : T[l]? = some (fnLessened c)) (hd : T[d]? = some (fnPadded c)) (hc : C[c]? = some (fr 0)) (hk : 2 ≤ k) {p : List Rat} {m : Nat} (hp : p.length ≤ m + 1) (hm : m ≤ 900) (hN : 1000 < N) :
    run T C N k f [.int (m : Nat), pl p] S = .ok (pl (pturn m p)) S := by
  rw [run_s h (by omega) rfl]
  have a1 := padded_pl (N := N) (S := S) (k := k - 1) hd hc (by omega) p (m + 1) hp (by omega)
  have a2 := rev_pl (S := S) ((List.range (m + 1)).map (cf p))
  rw [turn_rev] at a2
  have a3 := lessened_tup (N := N) (S := S) (k := k - 1) hl hc (by omega) ((List.range (m + 1)).map fun i => cf p (m - i)) (by simp; omega)
  have e : ((m + 1 : Nat) : Int) = (m : Int) + 1 := by omega
  rw [e] at a1
  simp only [fnTurnedBy, startD, List.map_cons, List.map_nil, List.length_cons, List.length_nil, List.cons_append, List.nil_append, List.replicate, exs_cons, exs_nil, ex_ret, ev_call', evs_cons, evs_nil, ev_rev, ev_bin, ev_var, ev_int, List.getElem?_cons_zero, List.getElem?_cons_succ, R.bind_ok, op_add, a1, a2, a3, R.thenS_ok, seq_rt, end_rt_same]
  rfl
def fnLTurned (cu nu : Nat) : Fn := ⟨2, 3, [(.ret (.call cu [(.lc (.call nu [(.var 1), (.bin .sub (.var 0) (.var 2))]) (.name 2) (.range [(.bin .add (.var 0) (.int 1))]) [] [2])]))]⟩
theorem lturned_pl {cu nu : Nat} (h : T[f]? = some (fnLTurned cu nu)) (hcu : T[cu]? = some fnCut) (hnu : T[nu]? = some fnNumber) (hk : 2 ≤ k) {p : List Rat} {m : Nat} (hm : m ≤ 900) :
    run T C N k f [.int (m : Nat), pl p] S = .ok (pl (pturn m p)) S := by
  rw [run_s h (by omega) rfl]
  have ea : evs (run T C N (k - 1)) C [(.bin .add (.var 0) (.int 1))] [some (.int (m : Nat)), some (pl p), none] S = .ok [.int ((m + 1 : Nat) : Int)] S := by simp
  have e1 : ev (run T C N (k - 1)) C (.lc (.call nu [(.var 1), (.bin .sub (.var 0) (.var 2))]) (.name 2) (.range [(.bin .add (.var 0) (.int 1))]) [] [2]) [some (.int (m : Nat)), some (pl p), none] S = .ok (.ref S.length) (S ++ [(List.range (m + 1)).map fun i => fr (cf p (m - i))]) :=
    ev_lcp (fun i : Nat => D.int (0 + (i : Nat))) (fun i : Nat => fr (cf p (m - i))) (evi_rangeN ea (by omega)) (small (by simp; omega)) fun i hi S' => ⟨_, rfl, fun S'' => by
      have hi : i < m + 1 := by simpa using hi
      have e0 : (m : Int) - (i : Nat) = ((m - i : Nat) : Int) := by omega
      have e2 := number_ok (C := C) (N := N) (k := k - 1) (S := S'') hnu (by omega) p (m - i)
      simp [e0, e2]⟩
  have e3 := cut_ok (C := C) (N := N) (k := k - 1) (n := S.length) (S := S ++ [(List.range (m + 1)).map fun i => fr (cf p (m - i))]) hcu (by omega) (p := (List.range (m + 1)).map fun i => cf p (m - i)) (by simp) (by simp; omega)
  simp only [fnLTurned, startD, List.map_cons, List.map_nil, List.length_cons, List.length_nil, List.cons_append, List.nil_append, List.replicate, exs_cons, exs_nil, ex_ret, ev_call', evs_cons, evs_nil, e1, R.bind_ok, e3, R.thenS_ok, seq_rt]
  exact end_rt (by simp) (by simp) (closed_pl _ _)
/-! ### checks; z: what is done where it is none -/
def fnIsBetween (w : Nat) : Fn := ⟨3, 3, [(.ret (.and_ (.call w [(.var 0)]) (.cmp2 .le .le (.var 1) (.var 0) (.var 2))))]⟩
theorem isBetween_int {w : Nat} (h : T[f]? = some (fnIsBetween w)) (hw : T[w]? = some fnIsWhole) (hk : 2 ≤ k) (i lo hi : Int) (h1 : lo ≤ i) (h2 : i ≤ hi) : run T C N k f [.int i, .int lo, .int hi] S = .ok (.bl true) S := by
  rw [run_s h (by omega) rfl]
  have e := isWhole_int (C := C) (N := N) (S := S) (k := k - 1) hw (by omega) i
  simp [fnIsBetween, startD, e, h1, h2]
def fnChk (i : Nat) (z : List DL.St) : Fn := ⟨1, 1, [(.ite (.nt (.call i [(.var 0)])) z [])]⟩
theorem chk_ok {i : Nat} {z : List DL.St} (h : T[f]? = some (fnChk i z)) (hk : 1 ≤ k) {d : D} (hi : ∀ S, run T C N (k - 1) i [d] S = .ok (.bl true) S) : run T C N k f [d] S = .ok .non S := by
  rw [run_s h hk rfl]
  simp [fnChk, startD, hi]
def fnChkMost (b c : Nat) (z : List DL.St) : Fn := ⟨1, 1, [(.ite (.nt (.call b [(.var 0), (.int 1), (.cst c)])) z [])]⟩
theorem chkMost_ok {b c w : Nat} {z : List DL.St} (h : T[f]? = some (fnChkMost b c z)) (hb : T[b]? = some (fnIsBetween w)) (hw : T[w]? = some fnIsWhole) (hc : C[c]? = some (.int 6)) (hk : 3 ≤ k) (i : Int) (h1 : 1 ≤ i) (h2 : i ≤ 6) : run T C N k f [.int i] S = .ok .non S := by
  rw [run_s h (by omega) rfl]
  have e := isBetween_int (C := C) (N := N) (S := S) (k := k - 1) hb hw (by omega) i 1 6 h1 h2
  simp [fnChkMost, startD, e, hc]
def fnChkUpTo (i : Nat) (z : List DL.St) : Fn := ⟨2, 2, [(.ite (.or_ (.nt (.call i [(.var 1)])) (.cmp .gt (.bi .len [(.var 1)]) (.bin .add (.var 0) (.int 1)))) z [])]⟩
theorem chkUpTo_ok {i : Nat} {z : List DL.St} (h : T[f]? = some (fnChkUpTo i z)) (hk : 1 ≤ k) {p : List Rat} {m : Nat} (hl : p.length ≤ m + 1) (hi : ∀ S, run T C N (k - 1) i [pl p] S = .ok (.bl true) S) : run T C N k f [.int (m : Nat), pl p] S = .ok .non S := by
  rw [run_s h hk rfl]
  have e1 : ¬ ((m : Int) + 1 < (p.length : Int)) := by omega
  simp only [pl] at *
  simp [fnChkUpTo, startD, hi, e1]
def fnStretched (a b c g : Nat) (z : List DL.St) : Fn := ⟨2, 2, [(.expr (.call a [(.var 0)])), (.expr (.call b [(.var 1)])), (.ite (.cmp .eq (.var 1) (.cst c)) z []), (.ret (.call g [(.var 0), (.var 1)]))]⟩
theorem stretched_ok {a b c g : Nat} {z : List DL.St} (h : T[f]? = some (fnStretched a b c g z)) (hc : C[c]? = some (fr 0)) (hk : 1 ≤ k) {d r x y : D} {q : Rat} (hq : q ≠ 0) (ha : ∀ S, run T C N (k - 1) a [d] S = .ok x S) (hb : ∀ S, run T C N (k - 1) b [fr q] S = .ok y S) (hg : ∀ S, run T C N (k - 1) g [d, fr q] S = .ok r S) : run T C N k f [d, fr q] S = .ok r S := by
  rw [run_s h hk rfl]
  have e := cmp_eq (eqD_fr (S := S) (p := q) (q := 0))
  rw [decide_eq_false hq] at e
  simp [fnStretched, startD, ha, hb, hc, e, hg]
def fnTurned (a b g : Nat) : Fn := ⟨2, 2, [(.expr (.call a [(.var 0)])), (.expr (.call b [(.var 0), (.var 1)])), (.ret (.call g [(.var 0), (.var 1)]))]⟩
theorem turned_ok {a b g : Nat} (h : T[f]? = some (fnTurned a b g)) (hk : 1 ≤ k) {d e r x y : D} (ha : ∀ S, run T C N (k - 1) a [d] S = .ok x S) (hb : ∀ S, run T C N (k - 1) b [d, e] S = .ok y S) (hg : ∀ S, run T C N (k - 1) g [d, e] S = .ok r S) : run T C N k f [d, e] S = .ok r S := by
  rw [run_s h hk rfl]
  simp [fnTurned, startD, ha, hb, hg]
def fnPolyTimesZ (a g m : Nat) (z : List DL.St) : Fn := ⟨2, 3, [(.expr (.call a [(.var 0), (.var 1)])), (.asg (.name 2) (.call g [(.var 0), (.var 1)])), (.ite (.cmp .gt (.bi .len [(.var 2)]) (.cst m)) z []), (.ret (.var 2))]⟩
theorem polyTimesZ_ok {a g m : Nat} {z : List DL.St} (h : T[f]? = some (fnPolyTimesZ a g m z)) (hm : C[m]? = some (.int 13)) (hk : 1 ≤ k) {d e x : D} {p : List Rat} (hl : p.length ≤ 13) (ha : ∀ S, run T C N (k - 1) a [d, e] S = .ok x S) (hg : ∀ S, run T C N (k - 1) g [d, e] S = .ok (pl p) S) : run T C N k f [d, e] S = .ok (pl p) S := by
  rw [run_s h hk rfl]
  have e1 : ¬ ((13 : Int) < (p.length : Int)) := by omega
  simp only [pl] at *
  simp [fnPolyTimesZ, startD, hm, ha, hg, e1]
end
end DL

end
section
set_option maxHeartbeats 1000000
set_option exponentiation.threshold 10000
/-! # DL: bounds of rises, moved, stretched, turned POLYs -/
namespace DL
theorem cf_mulx (q : List Rat) (x : Rat) (i : Nat) : cf (pmul q [x, 1]) i = (if i = 0 then 0 else cf q (i - 1)) + x * cf q i := by
  rw [cf_pmul, cv_comm]
  cases i with
  | zero => simp only [cv, cf_cons_zero, if_true]; grind
  | succ i =>
    have e : cv (cf [x, 1]) (cf q) (i + 1) = x * cf q (i + 1) + cv (cf [1]) (cf q) i := rfl
    have e2 : cv (cf [1]) (cf q) i = cf q i := by
      have := cf_one (p := q) 1 i
      rw [cf_pmul] at this
      rw [this]; grind
    rw [e, e2, if_neg (by omega), Nat.add_sub_cancel]; grind
theorem PIn.tail {D B : Nat} {a : Rat} {p : List Rat} (h : PIn D B (a :: p)) : PIn D B p := fun i => h (i + 1)
theorem PIn.suf {D B : Nat} {c : Rat} {suf : List Rat} : ∀ {pre p : List Rat}, PIn D B p → pre ++ c :: suf = p → PIn D B suf ∧ In D B c
  | [], p, h, e => by
    have e : c :: suf = p := e
    subst e
    exact ⟨h.tail, h 0⟩
  | a :: pre, p, h, e => by
    have e : a :: (pre ++ c :: suf) = p := e
    subst e
    exact PIn.suf (pre := pre) h.tail rfl
theorem pin_move {D B E B' : Nat} {x : Rat} (hx : In E B' x) : ∀ (p : List Rat), PIn D B p → PIn (D * E ^ p.length) (p.length * (B * (E + B') ^ p.length)) (pmove p x)
  | [], h, i => by rw [pmove, cf_nil]; exact in_zero _ _
  | a :: p, h, i => by
    have ih := pin_move hx p h.tail
    have t1 : In (D * E ^ p.length) (p.length * (B * (E + B') ^ p.length)) (if i = 0 then 0 else cf (pmove p x) (i - 1)) := by
      split
      · exact in_zero _ _
      · exact ih _
    have s1 := t1.scale E
    have s2 := hx.mul (ih i)
    have s3 : In (D * E ^ (p.length + 1)) (B * E ^ (p.length + 1)) (1 * cf (trim [a]) i) := by
      rw [Rat.one_mul, cf_trim]
      refine In.scale _ ?_
      cases i with
      | zero => exact h 0
      | succ i => rw [cf_cons_succ, cf_nil]; exact in_zero _ _
    have e1 : D * E ^ p.length * E = D * E ^ (p.length + 1) := by rw [Nat.pow_succ, Nat.mul_assoc]
    have e2 : E * (D * E ^ p.length) = D * E ^ (p.length + 1) := by rw [Nat.mul_comm, e1]
    rw [e1] at s1
    rw [e2] at s2
    have s := (s1.add s2).add s3
    rw [pmove, cf_lin, cf_mulx, List.length_cons]
    refine s.mono ?_
    generalize hW : p.length * (B * (E + B') ^ p.length) = W
    have a1 : W * E + B' * W = p.length * (B * (E + B') ^ (p.length + 1)) := by
      rw [Nat.mul_comm B' W, ← Nat.mul_add, ← hW, Nat.mul_assoc, Nat.mul_assoc, ← Nat.pow_succ]
    have a2 : B * E ^ (p.length + 1) ≤ B * (E + B') ^ (p.length + 1) := Nat.mul_le_mul_left _ (Nat.pow_le_pow_left (by omega) _)
    rw [a1, Nat.succ_mul]
    omega
theorem pow2_le {m n E : Nat} (h : E ≤ 2 ^ m) : E ^ n ≤ 2 ^ (m * n) := by
  rw [Nat.pow_mul]; exact Nat.pow_le_pow_left h n
theorem lt_mul_le {a b x y : Nat} (h1 : x < 2 ^ a) (h2 : y ≤ 2 ^ b) : x * y < 2 ^ (a + b) := by
  rw [Nat.pow_add]
  exact Nat.lt_of_le_of_lt (Nat.mul_le_mul_left _ h2) (Nat.mul_lt_mul_of_pos_right h1 (Nat.pow_pos (by omega)))
theorem GB.move {d b m n : Nat} {p : List Rat} {x : Rat} (h : GB d b p) (hx : GC m m x) (hl : p.length ≤ n) (hn : n < 2 ^ 6) : GB (d + m * n) (6 + (b + (m + 1) * n)) (pmove p x) := by
  obtain ⟨D, B, q1, q2, q3, q4⟩ := h
  obtain ⟨E, B', r1, r2, r3, r4⟩ := hx
  have hs : E + B' ≤ 2 ^ (m + 1) := by rw [Nat.pow_succ]; omega
  have u1 : E ^ p.length ≤ 2 ^ (m * n) := Nat.le_trans (pow2_le (Nat.le_of_lt r2)) (Nat.pow_le_pow_right (by omega) (Nat.mul_le_mul_left _ hl))
  have u2 : (E + B') ^ p.length ≤ 2 ^ ((m + 1) * n) := Nat.le_trans (pow2_le hs) (Nat.pow_le_pow_right (by omega) (Nat.mul_le_mul_left _ hl))
  exact ⟨D * E ^ p.length, p.length * (B * (E + B') ^ p.length), Nat.mul_pos q1 (Nat.pow_pos r1), lt_mul_le q2 u1, lt_mul (Nat.lt_of_le_of_lt hl hn) (lt_mul_le q3 u2), pin_move r4 p q4⟩
theorem gb_lin1 {m : Nat} {x : Rat} (hx : GC m m x) : GB m m [x, 1] := by
  obtain ⟨E, B', r1, r2, r3, r4⟩ := hx
  refine ⟨E, max E B', r1, r2, by omega, fun i => ?_⟩
  match i with
  | 0 => exact r4.mono (by omega)
  | 1 => exact (show In E E 1 from ⟨(E : Int), by simp, by rw [Rat.one_mul]; exact (Rat.intCast_natCast E).symm⟩).mono (by omega)
  | i + 2 => rw [cf_cons_succ, cf_cons_succ, cf_nil]; exact in_zero _ _
theorem GB.mvok {d b m n : Nat} {p : List Rat} {x : Rat} (h : GB d b p) (hx : GC m m x) (hl : p.length ≤ n) (hn : n ≤ 50) (h1 : d + m * n + m ≤ 4400) (h2 : 6 + (6 + (b + (m + 1) * n) + m) ≤ 4400) : MvOk p x := by
  refine ⟨by omega, fun pre c suf e => ?_⟩
  have g1 : GB d b suf ∧ GC d b c := by
    obtain ⟨D, B, q1, q2, q3, q4⟩ := h
    obtain ⟨a1, a2⟩ := q4.suf e
    exact ⟨⟨D, B, q1, q2, q3, a1⟩, D, B, q1, q2, q3, a2⟩
  have ls := suf_len e
  have lm := move_len (p := suf) x
  have g2 := g1.1.move hx (n := n) (by omega) (by omega)
  have g3 := gb_lin1 hx
  have l6 : (pmove suf x).length < 2 ^ 6 := by omega
  exact ⟨g2.mulB g3 l6 (by omega) (by omega), (g2.mul g3 l6).ok (by omega) (by omega), g1.2.ok (by omega) (by omega)⟩
theorem in_pw {E B' : Nat} {x : Rat} (hx : In E B' x) : ∀ n, In (E ^ n) (B' ^ n) (pw x n)
  | 0 => by
    rw [Nat.pow_zero, Nat.pow_zero, pw]
    exact ⟨1, by decide, by decide +kernel⟩
  | n + 1 => by
    rw [pw, Nat.pow_succ, Nat.pow_succ]
    exact (in_pw hx n).mul hx
theorem GC.pw {m n : Nat} {x : Rat} (hx : GC m m x) : GC (1 + m * n) (1 + m * n) (pw x n) := by
  obtain ⟨E, B', r1, r2, r3, r4⟩ := hx
  refine ⟨E ^ n, B' ^ n, Nat.pow_pos r1, ?_, ?_, in_pw r4 n⟩
  · exact Nat.lt_of_le_of_lt (pow2_le (Nat.le_of_lt r2)) (Nat.pow_lt_pow_right (by omega) (by omega))
  · exact Nat.lt_of_le_of_lt (pow2_le (Nat.le_of_lt r3)) (Nat.pow_lt_pow_right (by omega) (by omega))
theorem GB.str {d b m n : Nat} {p : List Rat} {x : Rat} (h : GB d b p) (hx : GC m m x) (hl : p.length ≤ n) : GB (d + m * n) (b + m * n) (pstr p x) := by
  obtain ⟨D, B, q1, q2, q3, q4⟩ := h
  obtain ⟨E, B', r1, r2, r3, r4⟩ := hx
  refine ⟨D * E ^ n, B * (max E B') ^ n, Nat.mul_pos q1 (Nat.pow_pos r1), lt_mul_le q2 (pow2_le (Nat.le_of_lt r2)), lt_mul_le q3 (pow2_le (by omega)), fun i => ?_⟩
  rw [cf_str]
  by_cases hi : i < p.length
  · have a := ((q4 i).mul (in_pw r4 i)).scale (E ^ (n - i))
    have e1 : D * E ^ i * E ^ (n - i) = D * E ^ n := by rw [Nat.mul_assoc, ← Nat.pow_add]; congr 2; omega
    rw [e1] at a
    refine a.mono ?_
    rw [Nat.mul_assoc]
    refine Nat.mul_le_mul_left _ ?_
    have e2 : (max E B') ^ n = (max E B') ^ i * (max E B') ^ (n - i) := by rw [← Nat.pow_add]; congr 1; omega
    rw [e2]
    exact Nat.mul_le_mul (Nat.pow_le_pow_left (by omega) _) (Nat.pow_le_pow_left (by omega) _)
  · rw [cf_ge (p := p) (by omega), Rat.zero_mul]; exact in_zero _ _
theorem GB.rise {d b m : Nat} {p : List Rat} (h : GB d b p) (hl : p.length < 2 ^ m) : GB d (m + b) (prise p) := by
  obtain ⟨D, B, q1, q2, q3, q4⟩ := h
  refine ⟨D, p.length * B, q1, q2, lt_mul hl q3, fun i => ?_⟩
  rw [cf_rise]
  by_cases hi : i + 1 < p.length
  · have a := (show In 1 (i + 1) ((i + 1 : Nat) : Rat) from ⟨((i + 1 : Nat) : Int), by omega, by rw [Rat.intCast_natCast]; exact Rat.mul_one _⟩).mul (q4 (i + 1))
    rw [Nat.one_mul] at a
    exact a.mono (Nat.mul_le_mul_right _ (by omega))
  · rw [cf_ge (p := p) (by omega), Rat.mul_zero]; exact in_zero _ _
theorem GB.turn {d b : Nat} {p : List Rat} (h : GB d b p) (m : Nat) : GB d b (pturn m p) := by
  obtain ⟨D, B, q1, q2, q3, q4⟩ := h
  refine ⟨D, B, q1, q2, q3, fun i => ?_⟩
  rw [cf_turn]
  split
  · exact q4 _
  · exact in_zero _ _
theorem GC.mono {d b d' b' : Nat} {c : Rat} (h : GC d b c) (h1 : d ≤ d') (h2 : b ≤ b') : GC d' b' c := by
  obtain ⟨D, B, q1, q2, q3, q4⟩ := h
  exact ⟨D, B, q1, pow_lt q2 h1, pow_lt q3 h2, q4⟩
end DL

end
section
set_option maxHeartbeats 1000000
set_option exponentiation.threshold 10000
/-! # DL: fractions by any number, what is compared, POLYs that the text takes -/
namespace DL
open PySem (Str)
/-- a POLY of the text with small numbers -/
structure Pl (p : List Rat) : Prop where
  nm : Nm p
  len : p.length ≤ 13
  ok : POk p
theorem mkPl {p : List Rat} {d b : Nat} (h : Nm p) (hl : p.length ≤ 13) (g : GB d b p) (h1 : d ≤ 4400) (h2 : b ≤ 4400) : Pl p := ⟨h, hl, g.ok h1 h2⟩
/-- what a comparing of kinds takes: ints, FRACTIONs, POLYs -/
def Gd (d : D) : Prop := num 11 d = true ∧ D.thin d = true
theorem thins_fr : ∀ p : List Rat, D.thins (p.map fr) = true
  | [] => rfl
  | q :: p => by show (D.thin (fr q) && D.thins (p.map fr)) = true; rw [thins_fr p]; rfl
theorem gd_pl {p : List Rat} (h : p.length ≤ 1000) : Gd (pl p) := by
  refine ⟨num_pl 9 p, ?_⟩
  show (decide ((p.map fr).length ≤ 1000) && D.thins (p.map fr)) = true
  rw [thins_fr, Bool.and_true, decide_eq_true_eq, List.length_map]
  exact h
theorem gd_fr (q : Rat) : Gd (fr q) := ⟨num_fr 10 q, rfl⟩
theorem gd_int (i : Int) : Gd (.int i) := ⟨rfl, rfl⟩
theorem gds {l : List D} (h : ∀ d ∈ l, Gd d) : nums 11 l = true ∧ D.thins l = true := by
  induction l with
  | nil => exact ⟨rfl, rfl⟩
  | cons a l ih =>
    obtain ⟨i1, i2⟩ := ih fun d hd => h d (List.mem_cons_of_mem _ hd)
    obtain ⟨h1, h2⟩ := h a List.mem_cons_self
    exact ⟨by show (num 11 a && nums 11 l) = true; rw [h1, i1]; rfl, by show (D.thin a && D.thins l) = true; rw [h2, i2]; rfl⟩
section
variable {T : List Fn} {C : List D} {N k f : Nat} {S : Store}
theorem twin_list (h : T[f]? = some (fnTwin f)) (hk : 20 ≤ k) {l : List D} (hl : l.length ≤ 1000) (hg : ∀ d ∈ l, Gd d) : run T C N k f [.tup l, .tup l] S = .ok (.bl true) S := by
  obtain ⟨h1, h2⟩ := gds hg
  refine twin_same h 12 k _ S (by omega) h1 ?_
  show (decide (l.length ≤ 1000) && D.thins l) = true
  rw [h2, Bool.and_true, decide_eq_true_eq]
  exact hl
/-- g(a, b) is the FRACTION a over b, below 0, too -/
def FracZ (T : List Fn) (C : List D) (N k g : Nat) : Prop := ∀ (a b : Int) (S : Store), b ≠ 0 → a.natAbs < 2 ^ 9000 → b.natAbs < 2 ^ 9000 → run T C N k g [.int a, .int b] S = .ok (fr ((a : Rat) / (b : Rat))) S
theorem norm_div (a : Int) (d : Nat) (nz : d ≠ 0) : Rat.normalize a d nz = (a : Rat) / (d : Rat) := by
  rw [Rat.normalize_eq_mkRat, Rat.mkRat_eq_div]
theorem nat_rat_ne {d : Nat} (nz : d ≠ 0) : (d : Rat) ≠ 0 := fun h => nz (by simpa using h)
theorem fracZ_of {g : Nat} (hp : FracS T C N k g) (hn : ∀ (a : Int) (d : Nat) (nz : d ≠ 0) (S : Store), a.natAbs < 2 ^ 9000 → d < 2 ^ 9000 → run T C N k g [.int a, .int (-(d : Int))] S = .ok (fr (Rat.normalize (-a) d nz)) S) : FracZ T C N k g := fun a b S hb ha hb2 => by
  rcases Int.lt_or_gt_of_ne hb with h | h
  · obtain ⟨d, rfl⟩ : ∃ d : Nat, b = -(d : Int) := ⟨b.natAbs, by omega⟩
    have nz : d ≠ 0 := by omega
    rw [hn a d nz S ha (by omega), norm_div]
    have e1 : ((-a : Int) : Rat) = -(a : Rat) := Rat.intCast_neg a
    have e2 : ((-(d : Int) : Int) : Rat) = -((d : Nat) : Rat) := by rw [Rat.intCast_neg, Rat.intCast_natCast]
    have hd := nat_rat_ne nz
    rw [e1, e2]
    congr 2
    grind
  · obtain ⟨d, rfl⟩ : ∃ d : Nat, b = (d : Int) := ⟨b.toNat, by omega⟩
    have nz : d ≠ 0 := by omega
    rw [hp a d nz S (Nat.lt_of_lt_of_le ha (Nat.pow_le_pow_right (by omega) (by omega))) (by omega), norm_div, Rat.intCast_natCast]
theorem norm_neg (a : Int) (d : Nat) (nz : d ≠ 0) : fr (Rat.normalize (-a) d nz) = .tup [.int (-a / ((Nat.gcd a.natAbs d : Nat) : Int)), .int ((d : Int) / ((Nat.gcd a.natAbs d : Nat) : Int))] := by
  rw [Rat.normalize_eq]
  simp only [fr, Int.natAbs_neg]
  congr 2
theorem fraction_fracZ (h : T[f]? = some fnFraction) (hk : 1 ≤ k) : FracZ T C N k f := fracZ_of (fraction_frac h hk) fun a d nz S ha hd => by
  rw [run_s h hk rfl, norm_neg]
  have hg := gcd_pos (a := a) nz
  have hle : Nat.gcd a.natAbs d ≤ d := Nat.le_of_dvd (by omega) (Nat.gcd_dvd_right _ _)
  have hdk : ∀ i : Int, divOk i ((Nat.gcd a.natAbs d : Nat) : Int) = true := fun i => divOk_of (by rw [Int.natAbs_natCast]; exact Nat.lt_of_le_of_lt hle hd)
  have hz : ((Nat.gcd a.natAbs d : Nat) : Int) ≠ 0 := by omega
  have hp : ¬ ((d : Int) < 0) := by omega
  have e : ∀ i : Int, opD .fdiv (.int i) (.int ((Nat.gcd a.natAbs d : Nat) : Int)) S = .ok (.int (i / ((Nat.gcd a.natAbs d : Nat) : Int))) S := fun i => by
    rw [op_div hz (hdk i), Int.fdiv_eq_ediv_of_nonneg _ (by omega)]
  simp [fnFraction, startD, hp, e]
theorem share_fracZ {c : Nat} (h : T[f]? = some (fnShare c)) (hc : T[c]? = some fnCommon) (hk : 2 ≤ k) : FracZ T C N k f := fracZ_of (share_frac h hc hk) fun a d nz S ha hd => by
  rw [run_s h (by omega) rfl, norm_neg]
  have hg := gcd_pos (a := a) nz
  have hle : Nat.gcd a.natAbs d ≤ d := Nat.le_of_dvd (by omega) (Nat.gcd_dvd_right _ _)
  have hdk : ∀ i : Int, divOk i (-((Nat.gcd a.natAbs d : Nat) : Int)) = true := fun i => divOk_of (by rw [Int.natAbs_neg, Int.natAbs_natCast]; exact Nat.lt_of_le_of_lt hle hd)
  have hz : -((Nat.gcd a.natAbs d : Nat) : Int) ≠ 0 := by omega
  have hp : ¬ ((d : Int) < 0) := by omega
  have g1 : ((Nat.gcd a.natAbs d : Nat) : Int) ∣ a := Int.ofNat_dvd_left.mpr (Nat.gcd_dvd_left _ _)
  have g2 : ((Nat.gcd a.natAbs d : Nat) : Int) ∣ (d : Int) := Int.ofNat_dvd.mpr (Nat.gcd_dvd_right _ _)
  have e : ∀ i : Int, ((Nat.gcd a.natAbs d : Nat) : Int) ∣ i → opD .fdiv (.int i) (.int (-((Nat.gcd a.natAbs d : Nat) : Int))) S = .ok (.int (-i / ((Nat.gcd a.natAbs d : Nat) : Int))) S := fun i hi => by
    rw [op_div hz (hdk i), Int.fdiv_eq_ediv_of_dvd (Int.neg_dvd.mpr hi), Int.ediv_neg, Int.neg_ediv_of_dvd hi]
  have e1 := e a g1
  have e2 := e (-(d : Int)) (Int.dvd_neg.mpr g2)
  rw [Int.neg_neg] at e2
  have ec := common_ok (C := C) (N := N) (S := S) (k := k - 1) hc (by omega) a (-(d : Int)) (Nat.lt_of_lt_of_le ha (Nat.pow_le_pow_right (by omega) (by omega))) (by rw [Int.natAbs_neg, Int.natAbs_natCast]; exact Nat.lt_of_lt_of_le hd (Nat.pow_le_pow_right (by omega) (by omega)))
  simp only [Int.natAbs_natCast, Int.natAbs_neg] at ec
  simp [fnShare, startD, hp, ec, e1, e2]
end
end DL

end
section
set_option maxHeartbeats 4000000
/-! # DL: the texts' divisions -/
namespace DL
/-- room for t more turns -/
def Fits (E L B' : Nat) : Nat → Nat → Nat → Prop
  | 0, D, M => D < 2 ^ 4400 ∧ M < 2 ^ 4400
  | t + 1, D, M => D < 2 ^ 4400 ∧ M < 2 ^ 4400 ∧ D * L < 2 ^ 4400 ∧ M * E < 2 ^ 4400 ∧ M * B' < 2 ^ 4400 ∧ Fits E L B' t (D * L) (2 * (M * B'))
theorem lt_two {a b x y : Nat} (h1 : x < 2 ^ a) (h2 : y < 2 ^ b) : x * y < 2 ^ (a + b) := by
  rw [Nat.pow_add]
  by_cases hy : y = 0
  · subst hy; rw [Nat.mul_zero]; exact Nat.mul_pos (Nat.two_pow_pos _) (Nat.two_pow_pos _)
  · exact Nat.lt_of_lt_of_le (Nat.mul_lt_mul_of_pos_right h1 (by omega)) (Nat.mul_le_mul_left _ (by omega))
theorem fits_of {E L B' l e : Nat} (hE : E < 2 ^ e) (hL : L < 2 ^ l) (hB : B' < 2 ^ l) : ∀ (t D M d m : Nat), D < 2 ^ d → M < 2 ^ m → d + t * l ≤ 4400 → m + t * (l + 1) + e + l ≤ 4400 → Fits E L B' t D M
  | 0, D, M, d, m, h1, h2, h3, h4 => ⟨pow_lt h1 (by omega), pow_lt h2 (by omega)⟩
  | t + 1, D, M, d, m, h1, h2, h3, h4 => by
    rw [Nat.succ_mul] at h3 h4
    have a1 := lt_two h1 hL
    have a2 := lt_two h2 hE
    have a3 := lt_two h2 hB
    have a4 : 2 * (M * B') < 2 ^ (m + l + 1) := by rw [Nat.pow_succ]; omega
    exact ⟨pow_lt h1 (by omega), pow_lt h2 (by omega), pow_lt a1 (by omega), pow_lt a2 (by omega), pow_lt a3 (by omega), fits_of hE hL hB t (D * L) (2 * (M * B')) (d + l) (m + l + 1) a1 a4 (by omega) (by omega)⟩
theorem Fits.now {E L B' t D M : Nat} (h : Fits E L B' t D M) : D < 2 ^ 4400 ∧ M < 2 ^ 4400 := by
  cases t with
  | zero => exact h
  | succ t => exact ⟨h.1, h.2.1⟩
theorem In.opp {D B : Nat} {c : Rat} (h : In D B c) : In D B (-c) := by
  obtain ⟨m, h1, h2⟩ := h
  refine ⟨-m, by omega, ?_⟩
  rw [Rat.intCast_neg, ← h2]; grind
/-- a row of numbers is added to another one, place by place -/
theorem row_loop {n o0 : Nat} {a : Rat} {tg : Tg} {G : En → Store → RS} {I : Store → Prop} {ev : Option DL.D → Option DL.D → En} (hput : ∀ S (m : Nat) b e5 e6, Tg.put S tg (.tup [.int (m : Nat), fr b]) (ev e5 e6) = some (ev (some (.int (m : Nat))) (some (fr b))))
    (hI : ∀ S x, I S → I (S.set n x)) (q0 : List Rat)
    (hstep : ∀ (m : Nat) (b : Rat) (acc : List Rat) (S : Store), b ∈ q0 → I S → S[n]? = some (acc.map fr) → o0 + m < acc.length → Ok (cf acc (o0 + m)) →
      G (ev (some (.int (m : Nat))) (some (fr b))) S = .nx (ev (some (.int (m : Nat))) (some (fr b))) (S.set n ((acc.set (o0 + m) (cf acc (o0 + m) + a * b)).map fr))) :
    ∀ (q acc : List Rat) (m : Nat) (S : Store) (e5 e6 : Option DL.D), (∀ b ∈ q, b ∈ q0) → I S → S[n]? = some (acc.map fr) → o0 + m + q.length ≤ acc.length → (∀ i, o0 + m ≤ i → Ok (cf acc i)) →
      ∃ e5' e6', forLoop [] tg G (enumF m q) (ev e5 e6) S = .nx (ev e5' e6') (S.set n ((addRow a acc (o0 + m) q).map fr))
  | [], acc, m, S, e5, e6, hq, hi, hS, hl, hw => by
    refine ⟨e5, e6, ?_⟩
    rw [enumF, for_nil rfl, addRow]
    obtain ⟨hn, e'⟩ := List.getElem?_eq_some_iff.mp hS
    rw [← e', List.set_getElem_self]
  | b :: q, acc, m, S, e5, e6, hq, hi, hS, hl, hw => by
    simp only [List.length_cons] at hl
    have hn : n < S.length := (List.getElem?_eq_some_iff.mp hS).1
    have step := hstep m b acc S (hq b List.mem_cons_self) hi hS (by omega) (hw _ (by omega))
    obtain ⟨e5', e6', r1⟩ := row_loop hput hI q0 hstep q (acc.set (o0 + m) (cf acc (o0 + m) + a * b)) (m + 1) (S.set n ((acc.set (o0 + m) (cf acc (o0 + m) + a * b)).map fr)) (some (.int (m : Nat))) (some (fr b)) (fun c hc => hq c (List.mem_cons_of_mem _ hc)) (hI _ _ hi) (by simp [hn]) (by simp; omega)
      (fun i h => by rw [cf_set (by omega), if_neg (by omega)]; exact hw i (by omega))
    refine ⟨e5', e6', ?_⟩
    rw [enumF, for_go rfl (hput _ _ _ _ _) step, r1, addRow, List.set_set]; rfl
/-- t - 1, .., 0 -/
def downI : Nat → List DL.D
  | 0 => []
  | t + 1 => .int (t : Nat) :: downI t
/-- the turns of a division, whatever the text -/
theorem turns {tg : Tg} {dep : List (Nat × List DL.D)} {G : En → Store → RS} {EnvOk : En → Prop} {St : Store → List Rat → List Rat → Prop} {b : List Rat} {E B' : Nat} {l : Int} (hb : b ≠ []) (hE : 0 < E) (ib : PIn E B' b) (hy : cf b (b.length - 1) * (E : Rat) = (l : Rat)) (hl : l ≠ 0) (hlB : l.natAbs ≤ B')
    (hdep : ∀ S wh left, St S wh left → It.still S dep = true)
    (hturn : ∀ (t : Nat) (env : En) (S : Store) (wh left : List Rat) (c : Rat), EnvOk env → St S wh left → t < wh.length → t + b.length ≤ left.length → POk left → c = cf left (t + b.length - 1) / cf b (b.length - 1) → Ok c → (∀ i, Ok (c * cf b i)) →
      ∃ env1 env2 S', Tg.put S tg (.int (t : Nat)) env = some env1 ∧ G env1 S = .nx env2 S' ∧ EnvOk env2 ∧ St S' (wh.set t c) (addRow (-c) left t b)) :
    ∀ (t : Nat) (env : En) (S : Store) (wh left : List Rat) (D M : Nat), EnvOk env → St S wh left → t ≤ wh.length → (t ≠ 0 → t + b.length ≤ left.length + 1) → 0 < D → PIn D M left → Fits E l.natAbs B' t D M →
      ∃ env' S', forLoop dep tg G (downI t) env S = .nx env' S' ∧ EnvOk env' ∧ St S' (dvGo b t wh left).1 (dvGo b t wh left).2
  | 0, env, S, wh, left, D, M, he, hs, _, _, _, _, _ => ⟨env, S, for_nil (hdep _ _ _ hs), he, hs⟩
  | t + 1, env, S, wh, left, D, M, he, hs, h1, h2, hD, hin, hf => by
    have h2 := h2 (by omega)
    have hbl : 0 < b.length := List.length_pos_iff.mpr hb
    obtain ⟨f1, f2, f3, f4, f5, f6⟩ := hf
    have hL : 0 < l.natAbs := Int.natAbs_pos.mpr hl
    have hDL : 0 < D * l.natAbs := Nat.mul_pos hD hL
    obtain ⟨c, hc⟩ : ∃ c, c = cf left (t + b.length - 1) / cf b (b.length - 1) := ⟨_, rfl⟩
    have ic : In (D * l.natAbs) (M * E) c := by rw [hc]; exact in_over (hin _) hy hl
    have icb : ∀ i, In (D * l.natAbs) (2 * (M * B')) (0 + -c * cf b i) := fun i => by
      rw [hc]
      exact (in_less (x := 0) (in_zero _ _) (hin _) (ib i) hy hl hE hlB)
    have okcb : ∀ i, Ok (c * cf b i) := fun i => by
      have h := icb i
      have e : c * cf b i = -(0 + -c * cf b i) := by grind
      rw [e]
      exact h.opp.ok hDL f3 f6.now.2
    obtain ⟨env1, env2, S', p1, p2, p3, p4⟩ := hturn t env S wh left c he hs (by omega) (by omega) (hin.ok hD f1 f2) hc (ic.ok hDL f3 f4) okcb
    have hin' : PIn (D * l.natAbs) (2 * (M * B')) (addRow (-c) left t b) := fun i => by
      rw [cf_addRow (-c) b left t i (by omega)]
      by_cases h : i < t
      · rw [if_pos h]
        have := (in_less (x := cf left i) (hin i) (hin (t + b.length - 1)) (in_zero E B') hy hl hE hlB)
        rw [Rat.mul_zero] at this
        exact this
      · rw [if_neg h, hc]
        exact in_less (hin i) (hin _) (ib _) hy hl hE hlB
    obtain ⟨env', S'', r1, r2, r3⟩ := turns hb hE ib hy hl hlB hdep hturn t env2 S' (wh.set t c) (addRow (-c) left t b) (D * l.natAbs) (2 * (M * B')) p3 p4 (by rw [List.length_set]; omega) (fun _ => by rw [addRow_len]; omega) hDL hin' f6
    refine ⟨env', S'', ?_, r2, ?_⟩
    · rw [downI, for_go (hdep _ _ _ hs) p1 p2]; exact r1
    · rw [dvGo, ← hc]; exact r3
end DL

end
section
set_option maxHeartbeats 4000000
/-! # DL: less, over -/
namespace DL
section
variable {T : List Fn} {C : List D} {N k f : Nat} {S : Store}
def LessS (T : List Fn) (C : List D) (N k P : Nat) : Prop := ∀ x y S, Ok x → Ok y → run T C N k P [fr x, fr y] S = .ok (fr (x - y)) S
def OverS (T : List Fn) (C : List D) (N k P : Nat) : Prop := ∀ x y S, y ≠ 0 → Ok x → Ok y → run T C N k P [fr x, fr y] S = .ok (fr (x / y)) S
def fnLess (g : Nat) : Fn := ⟨2, 2, [(.ret (.call g [(.bin .sub (.bin .mul (.idx (.var 0) (.int 0)) (.idx (.var 1) (.int 1))) (.bin .mul (.idx (.var 1) (.int 0)) (.idx (.var 0) (.int 1)))), (.bin .mul (.idx (.var 0) (.int 1)) (.idx (.var 1) (.int 1)))]))]⟩
theorem less_s {g : Nat} (h : T[f]? = some (fnLess g)) (hg : FracS T C N (k - 1) g) (hk : 1 ≤ k) : LessS T C N k f := fun x y S hx hy => by
  rw [run_s h (by omega) rfl]
  have m1 : mulOk x.num y.den = true := mulOk_of hx.1 (nat_lt hy.2) (by omega)
  have m2 : mulOk y.num x.den = true := mulOk_of hy.1 (nat_lt hx.2) (by omega)
  have m3 : mulOk x.den y.den = true := mulOk_of (nat_lt hx.2) (nat_lt hy.2) (by omega)
  have hd : x.den * y.den < 2 ^ 9000 := Nat.lt_of_lt_of_le (lt_mul hx.2 hy.2) (Nat.pow_le_pow_right (by omega) (by omega))
  have nz : x.den * y.den ≠ 0 := Nat.mul_ne_zero x.den_nz y.den_nz
  have ha : (x.num * y.den - y.num * x.den).natAbs < 2 ^ 9001 := by
    have h1 := abs_mul hx.1 (nat_lt hy.2)
    have h2 := abs_mul (x := -y.num) (by rw [Int.natAbs_neg]; exact hy.1) (nat_lt hx.2)
    have h3 := abs_add h1 h2
    rw [show x.num * (y.den : Int) - y.num * (x.den : Int) = x.num * (y.den : Int) + -y.num * (x.den : Int) by rw [Int.neg_mul]; omega]
    exact Nat.lt_of_lt_of_le h3 (Nat.pow_le_pow_right (by omega) (by omega))
  have e := hg (x.num * y.den - y.num * x.den) (x.den * y.den) nz S ha hd
  rw [← Rat.sub_def, Int.natCast_mul] at e
  simp [fnLess, startD, fr, op_mul, m1, m2, m3]
  rw [← fr, e]
  simp [fr]
def fnOver (g : Nat) : Fn := ⟨2, 2, [(.ret (.call g [(.bin .mul (.idx (.var 0) (.int 0)) (.idx (.var 1) (.int 1))), (.bin .mul (.idx (.var 0) (.int 1)) (.idx (.var 1) (.int 0)))]))]⟩
theorem over_eq (x y : Rat) (hy : y ≠ 0) : ((x.num * (y.den : Int) : Int) : Rat) / (((x.den : Int) * y.num : Int) : Rat) = x / y := by
  have hyn : (y.num : Rat) ≠ 0 := fun h => hy (by
    have h2 : y.num = 0 := Rat.intCast_inj.mp (by rw [h]; rfl)
    exact Rat.num_eq_zero.mp h2)
  have hxd : (x.den : Rat) ≠ 0 := nat_rat_ne x.den_nz
  have hyd : (y.den : Rat) ≠ 0 := nat_rat_ne y.den_nz
  have ex : x * (x.den : Rat) = (x.num : Rat) := by
    have h := Rat.div_mul_cancel (a := (x.num : Rat)) hxd
    rw [← Rat.mkRat_eq_div, Rat.mkRat_self] at h; exact h
  have ey : y * (y.den : Rat) = (y.num : Rat) := by
    have h := Rat.div_mul_cancel (a := (y.num : Rat)) hyd
    rw [← Rat.mkRat_eq_div, Rat.mkRat_self] at h; exact h
  rw [Rat.intCast_mul, Rat.intCast_mul, Rat.intCast_natCast, Rat.intCast_natCast]
  have hne : (x.den : Rat) * (y.num : Rat) ≠ 0 := fun h => by
    rcases Rat.mul_eq_zero.mp h with h | h
    · exact hxd h
    · exact hyn h
  have hz : x / y * y = x := Rat.div_mul_cancel hy
  have e : (x.num : Rat) * (y.den : Rat) = x / y * ((x.den : Rat) * (y.num : Rat)) := by
    rw [← ex, ← ey]
    have : x / y * ((x.den : Rat) * (y * (y.den : Rat))) = (x / y * y) * (x.den : Rat) * (y.den : Rat) := by grind
    rw [this, hz]
  rw [e]
  exact Rat.mul_div_cancel hne
theorem over_s {g : Nat} (h : T[f]? = some (fnOver g)) (hg : FracZ T C N (k - 1) g) (hk : 1 ≤ k) : OverS T C N k f := fun x y S y0 hx hy => by
  rw [run_s h (by omega) rfl]
  have m1 : mulOk x.num y.den = true := mulOk_of hx.1 (nat_lt hy.2) (by omega)
  have m3 : mulOk x.den y.num = true := mulOk_of (nat_lt hx.2) hy.1 (by omega)
  have h1 : (x.num * (y.den : Int)).natAbs < 2 ^ 9000 := Nat.lt_of_lt_of_le (abs_mul hx.1 (nat_lt hy.2)) (Nat.pow_le_pow_right (by omega) (by omega))
  have h2 : ((x.den : Int) * y.num).natAbs < 2 ^ 9000 := Nat.lt_of_lt_of_le (abs_mul (nat_lt hx.2) hy.1) (Nat.pow_le_pow_right (by omega) (by omega))
  have hyn : y.num ≠ 0 := fun h => y0 (Rat.num_eq_zero.mp h)
  have e := hg (x.num * y.den) (x.den * y.num) S (Int.mul_ne_zero (by have := x.den_nz; omega) hyn) h1 h2
  rw [over_eq x y y0] at e
  simp [fnOver, startD, fr, op_mul, m1, m3]
  rw [e]
  simp [fr]
end
end DL

end
section
set_option maxHeartbeats 4000000
/-! # DL: the division of the program -/
namespace DL
section
variable {T : List Fn} {C : List D} {N k f : Nat} {S : Store}
/-- what the dividing asks of the numbers -/
structure DvOk (a b : List Rat) : Prop where
  hb : b ≠ []
  nb : Nm b
  la : a.length ≤ 40
  lb : b.length ≤ 40
  okb : POk b
  ex : ∃ D M E B' : Nat, ∃ l : Int, 0 < D ∧ 0 < E ∧ PIn D M a ∧ PIn E B' b ∧ cf b (b.length - 1) * (E : Rat) = (l : Rat) ∧ l ≠ 0 ∧ l.natAbs ≤ B' ∧ Fits E l.natAbs B' (a.length + 1 - b.length) D M
theorem downI_rev : ∀ m : Nat, (rangeL 0 m).reverse = downI m
  | 0 => rfl
  | m + 1 => by
    unfold rangeL downI
    rw [List.range_succ, List.map_append, List.reverse_append]
    have := downI_rev m
    unfold rangeL at this
    rw [this]
    simp
theorem downI_dn : ∀ m : Nat, rangeDn ((m : Int) - 1) m = downI m
  | 0 => rfl
  | m + 1 => by
    unfold rangeDn downI
    rw [List.range_succ_eq_map, List.map_cons, List.map_map]
    have := downI_dn m
    unfold rangeDn at this
    rw [← this]
    congr 1
    · congr 1; simp
    · refine List.map_congr_left fun i _ => ?_
      show DL.D.int _ = DL.D.int _
      congr 1
      push_cast
      omega
def dqIn (ls ti : Nat) : List DL.St := [(.asg (.sub (.var 3) (.bin .add (.var 2) (.var 5))) (.call ls [(.idx (.var 3) (.bin .add (.var 2) (.var 5))), (.call ti [(.idx (.var 4) (.var 2)), (.var 6)])]))]
def dqB (ov ls ti : Nat) : List DL.St := [(.asg (.sub (.var 4) (.var 2)) (.call ov [(.idx (.var 3) (.bin .sub (.bin .add (.var 2) (.bi .len [(.var 1)])) (.int 1))), (.idx (.var 1) (.neg (.int 1)))])), (.for_ (.tup [(.name 5), (.name 6)]) (.enum (.var 1)) (dqIn ls ti))]
/-- the store within: what is left, the nought, what is found -/
def dqS (S : Store) (left wh : List Rat) : Store := S ++ [left.map fr, [fr 0], wh.map fr]
theorem dqS0 {left wh : List Rat} : (dqS S left wh)[S.length]? = some (left.map fr) := by simp [dqS]
theorem dqS2 {left wh : List Rat} : (dqS S left wh)[S.length + 2]? = some (wh.map fr) := by simp [dqS]
theorem dqSs0 {left wh : List Rat} {x : List Rat} : (dqS S left wh).set S.length (x.map fr) = dqS S x wh := by simp [dqS]
theorem dqSs2 {left wh : List Rat} {x : List Rat} : (dqS S left wh).set (S.length + 2) (x.map fr) = dqS S left x := by simp [dqS]
theorem dq_turn {ov ls ti : Nat} (hO : OverS T C N k ov) (hL : LessS T C N k ls) (hM : TimesS T C N k ti) {a b : List Rat} (hb : b ≠ []) (nb : Nm b) (okb : POk b) (t : Nat) (S' : Store) (wh left : List Rat) (c : Rat) (hS : S' = dqS S left wh) (h1 : t < wh.length) (h2 : t + b.length ≤ left.length) (hl : POk left) (hc : c = cf left (t + b.length - 1) / cf b (b.length - 1)) (okc : Ok c) (okcb : ∀ i, Ok (c * cf b i)) (e5 e6 : Option DL.D) :
    ∃ e5' e6', execs (run T C N k) C N (dqB ov ls ti) [some (pl a), some (pl b), some (.int (t : Nat)), some (.ref S.length), some (.ref (S.length + 2)), e5, e6] S' =
      .nx [some (pl a), some (pl b), some (.int (t : Nat)), some (.ref S.length), some (.ref (S.length + 2)), e5', e6'] (dqS S (addRow (-c) left t b) (wh.set t c)) := by
  subst hS
  have hbl : 0 < b.length := List.length_pos_iff.mpr hb
  have ea : ((t : Nat) : Int) + ((b.length : Nat) : Int) - 1 = ((t + b.length - 1 : Nat) : Int) := by omega
  have i1 : idxR (.ref S.length) (.int ((t + b.length - 1 : Nat) : Int)) (dqS S left wh) = .ok (fr (cf left (t + b.length - 1))) (dqS S left wh) := idx_ref dqS0 (by rw [atI_nat]; exact map_get (by omega))
  have i2 := idx_last (S := dqS S left wh) hb
  have o1 := hO (cf left (t + b.length - 1)) (cf b (b.length - 1)) (dqS S left wh) (nb.resolve_left hb) (hl _) (okb _)
  rw [← hc] at o1
  have s1 := fun env => set_ref (S := dqS S left wh) (env := env) (n := S.length + 2) (j := t) (x := fr c) dqS2 (by simp; exact h1)
  have st1 : exec (run T C N k) C N (.asg (.sub (.var 4) (.var 2)) (.call ov [(.idx (.var 3) (.bin .sub (.bin .add (.var 2) (.bi .len [(.var 1)])) (.int 1))), (.idx (.var 1) (.neg (.int 1)))])) [some (pl a), some (pl b), some (.int (t : Nat)), some (.ref S.length), some (.ref (S.length + 2)), e5, e6] (dqS S left wh) =
      .nx [some (pl a), some (pl b), some (.int (t : Nat)), some (.ref S.length), some (.ref (S.length + 2)), e5, e6] (dqS S left (wh.set t c)) := by
    have bl : biD .len [pl b] (dqS S left wh) = .ok (.int (b.length : Nat)) (dqS S left wh) := by simp [pl]
    simp only [ex_asg, ev_call', evs_cons, evs_nil, ev_idx, ev_var, ev_bin, ev_bi', ev_int, ev_neg, List.getElem?_cons_zero, List.getElem?_cons_succ, R.bind_ok, bl, op_add, op_sub, ea, i1, i2, o1, R.thenS_ok, put_sub', s1, setAt, set_map, dqSs2]
  obtain ⟨e5', e6', r⟩ := row_loop (n := S.length) (o0 := t) (a := -c) (tg := .tup [.name 5, .name 6]) (G := fun e S' => execs (run T C N k) C N (dqIn ls ti) e S') (I := fun S2 => S2[S.length + 2]? = some ((wh.set t c).map fr))
    (ev := fun e5 e6 => [some (pl a), some (pl b), some (.int (t : Nat)), some (.ref S.length), some (.ref (S.length + 2)), e5, e6]) (fun _ _ _ _ _ => rfl) (fun S2 x h => by rw [List.getElem?_set_ne (by omega)]; exact h) b
    (fun m bj acc S2 hm hI hA hlt hok => by
      obtain ⟨i, hi, rfl⟩ := mem_cf hm
      have ej : ((t : Nat) : Int) + ((m : Nat) : Int) = ((t + m : Nat) : Int) := by omega
      have j1 : idxR (.ref S.length) (.int ((t + m : Nat) : Int)) S2 = .ok (fr (cf acc (t + m))) S2 := idx_ref hA (by rw [atI_nat]; exact map_get hlt)
      have j2 : idxR (.ref (S.length + 2)) (.int (t : Nat)) S2 = .ok (fr c) S2 := idx_ref hI (by rw [atI_nat, map_get (by simpa using h1), cf_set h1, if_pos rfl])
      have m1 := hM c (cf b i) S2 okc (okb i)
      have l1 := hL (cf acc (t + m)) (c * cf b i) S2 hok (okcb i)
      have s2 := fun env x => set_ref (S := S2) (env := env) (n := S.length) (j := t + m) (x := fr x) hA (by simp; exact hlt)
      have eq : cf acc (t + m) - c * cf b i = cf acc (t + m) + -c * cf b i := by grind
      simp only [dqIn, exs_cons, exs_nil, ex_asg, ev_call', evs_cons, evs_nil, ev_idx, ev_var, ev_bin, List.getElem?_cons_zero, List.getElem?_cons_succ, R.bind_ok, op_add, ej, j1, j2, m1, l1, R.thenS_ok, put_sub', s2, setAt, set_map, RS.seq_nx, eq])
    b left 0 (dqS S left (wh.set t c)) e5 e6 (fun _ h => h) dqS2 dqS0 (by omega) (fun i _ => hl i)
  have st2 : exec (run T C N k) C N (.for_ (.tup [(.name 5), (.name 6)]) (.enum (.var 1)) (dqIn ls ti)) [some (pl a), some (pl b), some (.int (t : Nat)), some (.ref S.length), some (.ref (S.length + 2)), e5, e6] (dqS S left (wh.set t c)) =
      .nx [some (pl a), some (pl b), some (.int (t : Nat)), some (.ref S.length), some (.ref (S.length + 2)), e5', e6'] (dqS S (addRow (-c) left t b) (wh.set t c)) := by
    rw [ex_for]
    simp only [evi_enum, ev_var, List.getElem?_cons_zero, List.getElem?_cons_succ, R.bind_ok, pl, items_tup, dep_tup, R.thenS_ok, enumL_fr]
    rw [dqSs0] at r
    exact r
  refine ⟨e5', e6', ?_⟩
  simp only [dqB, exs_cons, exs_nil, st1, st2, RS.seq_nx]
def fnDividedBy (c ov ls ti l : Nat) : Fn := ⟨2, 7, [(.asg (.tup [(.name 3), (.name 4)]) (.tup [(.bi .list [(.var 0)]), (.bin .mul (.lst [(.cst c)]) (.bi .max [(.bin .add (.bin .sub (.bi .len [(.var 0)]) (.bi .len [(.var 1)])) (.int 1)), (.int 0)]))])), (.for_ (.name 2) (.range [(.bin .sub (.bi .len [(.var 4)]) (.int 1)), (.neg (.int 1)), (.neg (.int 1))]) (dqB ov ls ti)), (.ret (.tup [(.call l [(.var 4)]), (.call l [(.slc (.var 3) [] [(.bin .sub (.bi .len [(.var 1)]) (.int 1))])])]))]⟩
theorem trim_take {p : List Rat} {n : Nat} (h : ∀ i, n ≤ i → cf p i = 0) : trim (p.take n) = trim p := trim_cong fun i => by
  by_cases hi : i < n
  · by_cases hp : i < p.length
    · rw [cf_lt hp, cf_lt (by rw [List.length_take]; omega)]; simp
    · rw [cf_ge (p := p) (by omega), cf_ge (by rw [List.length_take]; omega)]
  · rw [h i (by omega), cf_ge (by rw [List.length_take]; omega)]
theorem cutD_to' {xs : List DL.D} {t : Nat} : cutD xs none (some (t : Int)) = xs.take t := by
  unfold cutD
  rw [HT.sIx_nat]
  show (xs.drop 0).take (min t xs.length - 0) = _
  rw [List.drop_zero, Nat.sub_zero, List.take_eq_take_iff]
  omega
theorem dividedBy_pl {c ov ls ti l : Nat} (h : T[f]? = some (fnDividedBy c ov ls ti l)) (hc : C[c]? = some (fr 0)) (hl : T[l]? = some (fnLessened c)) (hO : OverS T C N (k - 1) ov) (hL : LessS T C N (k - 1) ls) (hM : TimesS T C N (k - 1) ti) (hk : 2 ≤ k) {a b : List Rat} (d : DvOk a b) (hN : 50 < N) :
    run T C N k f [pl a, pl b] S = .ok (.tup [pl (pdiv a b).1, pl (pdiv a b).2]) S := by
  obtain ⟨D, M, E, B', lv, hD, hE, ia, ib, hy, hl0, hlB, hfit⟩ := d.ex
  have la := d.la
  have lb := d.lb
  have hbl : 0 < b.length := List.length_pos_iff.mpr d.hb
  rw [run_s h (by omega) rfl]
  obtain ⟨m, hm⟩ : ∃ m, m = a.length + 1 - b.length := ⟨_, rfl⟩
  rw [← hm] at hfit
  have e1 : opD .mul (.ref (S.length + 1)) (.int (m : Nat)) (S ++ [a.map fr] ++ [[fr 0]]) = .ok (.ref (S.length + 2)) (dqS S a (List.replicate m 0)) := by
    show (match (S ++ [a.map fr] ++ [[fr 0]])[S.length + 1]? with
      | some l => if (-(2 ^ 63) ≤ ((m : Nat) : Int) ∧ ((m : Nat) : Int) < 2 ^ 63) ∧ l.length * ((m : Nat) : Int).toNat ≤ PySem.sizeLine then R.ok (DL.D.ref (S ++ [a.map fr] ++ [[fr 0]]).length) (S ++ [a.map fr] ++ [[fr 0]] ++ [rep l ((m : Nat) : Int).toNat]) else .bad
      | none => .bad) = _
    have : (S ++ [a.map fr] ++ [[fr 0]])[S.length + 1]? = some [fr 0] := by simp
    rw [this]
    simp only [List.length_cons, List.length_nil, Int.toNat_natCast]
    rw [if_pos ⟨⟨by omega, by omega⟩, small (by omega)⟩, rep_one]
    simp [dqS]
  have e0 : (if (0 : Int) > ((a.length : Int) - (b.length : Int) + 1) then (0 : Int) else ((a.length : Int) - (b.length : Int) + 1)) = ((m : Nat) : Int) := by split <;> omega
  have x1 : exec (run T C N (k - 1)) C N (.asg (.tup [(.name 3), (.name 4)]) (.tup [(.bi .list [(.var 0)]), (.bin .mul (.lst [(.cst c)]) (.bi .max [(.bin .add (.bin .sub (.bi .len [(.var 0)]) (.bi .len [(.var 1)])) (.int 1)), (.int 0)]))])) [some (pl a), some (pl b), none, none, none, none, none] S =
      .nx [some (pl a), some (pl b), none, some (.ref S.length), some (.ref (S.length + 2)), none, none] (dqS S a (List.replicate m 0)) := by
    have hlen : (S ++ [a.map fr]).length = S.length + 1 := by simp
    simp only [ex_asg, ev_tup, ev_bin, ev_lst, evs_cons, evs_nil, ev_cst, hc, R.bind_ok, newL_1, ev_bi', ev_var, List.getElem?_cons_zero, List.getElem?_cons_succ, pl, bi_list_tup, bi_len_tup, List.length_map, op_add, op_sub, ev_int, bi_max_int, e0, hlen, e1, R.thenS_ok, newT_2, put_tup', items_tup, List.length_cons, List.length_nil, if_true, puts_cons', puts_nil', put_name', RS.seq_nx, List.set_cons_succ, List.set_cons_zero]
  have hturns := turns (tg := .name 2) (dep := []) (G := fun e S' => execs (run T C N (k - 1)) C N (dqB ov ls ti) e S') (EnvOk := fun env => ∃ e2 e5 e6, env = [some (pl a), some (pl b), e2, some (.ref S.length), some (.ref (S.length + 2)), e5, e6]) (St := fun S' wh left => S' = dqS S left wh) d.hb hE ib hy hl0 hlB (fun _ _ _ _ => rfl)
    (fun t env S' wh left cc he hs h1 h2 h3 h4 h5 h6 => by
      obtain ⟨e2, e5, e6, rfl⟩ := he
      obtain ⟨e5', e6', r⟩ := dq_turn hO hL hM d.hb d.nb d.okb (a := a) t S' wh left cc hs h1 h2 h3 h4 h5 h6 e5 e6
      exact ⟨_, _, _, rfl, r, ⟨_, e5', e6', rfl⟩, rfl⟩)
    m _ _ (List.replicate m 0) a D M ⟨none, none, none, rfl⟩ rfl (by simp) (fun _ => by omega) hD ia hfit
  obtain ⟨env', S', r1, ⟨e2, e5, e6, rfl⟩, rfl⟩ := hturns
  obtain ⟨g1, g2, g3, g4⟩ := pdiv_go (a := a) d.hb d.nb
  rw [← hm] at g1 g2 g4
  have x2 : exec (run T C N (k - 1)) C N (.for_ (.name 2) (.range [(.bin .sub (.bi .len [(.var 4)]) (.int 1)), (.neg (.int 1)), (.neg (.int 1))]) (dqB ov ls ti)) [some (pl a), some (pl b), none, some (.ref S.length), some (.ref (S.length + 2)), none, none] (dqS S a (List.replicate m 0)) =
      .nx [some (pl a), some (pl b), e2, some (.ref S.length), some (.ref (S.length + 2)), e5, e6] (dqS S (dvGo b m (List.replicate m 0) a).2 (dvGo b m (List.replicate m 0) a).1) := by
    rw [ex_for]
    have bl : biD .len [.ref (S.length + 2)] (dqS S a (List.replicate m 0)) = .ok (.int (m : Nat)) (dqS S a (List.replicate m 0)) := by
      show (match items (dqS S a (List.replicate m 0)) (.ref (S.length + 2)) with | some l => R.ok (DL.D.int l.length) (dqS S a (List.replicate m 0)) | none => .bad) = _
      rw [show items (dqS S a (List.replicate m 0)) (.ref (S.length + 2)) = some ((List.replicate m (0 : Rat)).map fr) from dqS2]
      simp
    have eb1 : boundOk ((m : Int) - 1) = true := by rw [boundOk_eq, Bool.and_eq_true, decide_eq_true_eq, decide_eq_true_eq]; omega
    have eb2 : boundOk (-1) = true := rfl
    have es : (((m : Int) - 1) - (-1)).toNat = m := by omega
    have it : evi (run T C N (k - 1)) C (.range [(.bin .sub (.bi .len [(.var 4)]) (.int 1)), (.neg (.int 1)), (.neg (.int 1))]) [some (pl a), some (pl b), none, some (.ref S.length), some (.ref (S.length + 2)), none, none] (dqS S a (List.replicate m 0)) = .ok ⟨downI m, []⟩ (dqS S a (List.replicate m 0)) := by
      rw [evi_range]
      simp only [evs_cons, evs_nil, ev_bin, ev_bi', ev_var, ev_int, ev_neg, List.getElem?_cons_zero, List.getElem?_cons_succ, R.bind_ok, bl, op_sub]
      rw [if_pos (by rw [eb1, eb2]; rfl), es, downI_dn]
    rw [it, R.thenS_ok]
    exact r1
  have t1 := lessened_ref (N := N) (k := k - 1) (S := dqS S (dvGo b m (List.replicate m 0) a).2 (dvGo b m (List.replicate m 0) a).1) (n := S.length + 2) hl hc (by omega) (dvGo b m (List.replicate m 0) a).1 dqS2 (by rw [g1]; omega)
  have sl : slcR (.ref S.length) none (some ((b.length - 1 : Nat) : Int)) (dqS S (dvGo b m (List.replicate m 0) a).2 (dvGo b m (List.replicate m 0) a).1) = .ok (.ref (S.length + 3)) (dqS S (dvGo b m (List.replicate m 0) a).2 (dvGo b m (List.replicate m 0) a).1 ++ [((dvGo b m (List.replicate m 0) a).2.take (b.length - 1)).map fr]) := by
    rw [slc_ref dqS0, cutD_to', List.map_take]
    simp [dqS]
  have t2 := lessened_ref (N := N) (k := k - 1) (S := dqS S (dvGo b m (List.replicate m 0) a).2 (dvGo b m (List.replicate m 0) a).1 ++ [((dvGo b m (List.replicate m 0) a).2.take (b.length - 1)).map fr]) (n := S.length + 3) hl hc (by omega) ((dvGo b m (List.replicate m 0) a).2.take (b.length - 1)) (by simp [dqS]) (by have := List.length_take_le (b.length - 1) (dvGo b m (List.replicate m 0) a).2; omega)
  rw [trim_take g4] at t2
  have p1 : (pdiv a b).1 = trim (dvGo b m (List.replicate m 0) a).1 := by rw [hm]; rfl
  have p2 : (pdiv a b).2 = trim (dvGo b m (List.replicate m 0) a).2 := by rw [hm]; rfl
  rw [← p1] at t1
  rw [← p2] at t2
  have eb : ((b.length : Nat) : Int) - 1 = ((b.length - 1 : Nat) : Int) := by omega
  have bl : ∀ S', biD .len [pl b] S' = .ok (.int (b.length : Nat)) S' := fun S' => by simp [pl]
  have x3 : exec (run T C N (k - 1)) C N (.ret (.tup [(.call l [(.var 4)]), (.call l [(.slc (.var 3) [] [(.bin .sub (.bi .len [(.var 1)]) (.int 1))])])])) [some (pl a), some (pl b), e2, some (.ref S.length), some (.ref (S.length + 2)), e5, e6] (dqS S (dvGo b m (List.replicate m 0) a).2 (dvGo b m (List.replicate m 0) a).1) =
      .rt (.tup [pl (pdiv a b).1, pl (pdiv a b).2]) (dqS S (dvGo b m (List.replicate m 0) a).2 (dvGo b m (List.replicate m 0) a).1 ++ [((dvGo b m (List.replicate m 0) a).2.take (b.length - 1)).map fr]) := by
    simp only [ex_ret, ev_tup, ev_call', ev_slc, evs_cons, evs_nil, ev_var, ev_bin, ev_bi', ev_int, List.getElem?_cons_zero, List.getElem?_cons_succ, R.bind_ok, bl, op_sub, eb, partOk_nil, partOk_int, t1, sl, t2, newT_2, R.thenS_ok]
  simp only [fnDividedBy, startD, List.map_cons, List.map_nil, List.length_cons, List.length_nil, List.cons_append, List.nil_append, List.replicate, exs_cons, exs_nil, x1, x2, x3, RS.seq_nx, seq_rt]
  refine end_rt (by simp [dqS]) (by simp [dqS]) ?_
  show (DL.D.closeds S.length [pl (pdiv a b).1, pl (pdiv a b).2]) = true
  simp only [DL.D.closeds, closed_pl, Bool.and_self]
end
end DL

end
section
set_option maxHeartbeats 4000000
/-! # DL: the law's own division -/
namespace DL
section
variable {T : List Fn} {C : List D} {N k f : Nat} {S : Store}
def dlIn (pu ti : Nat) : List DL.St := [(.asg (.sub (.var 3) (.bin .add (.var 2) (.var 6))) (.call pu [(.idx (.var 3) (.bin .add (.var 2) (.var 6))), (.call ti [(.call ti [(.tup [(.neg (.int 1)), (.int 1)]), (.var 5)]), (.var 7)])]))]
def dlB (ov pu ti : Nat) : List DL.St := [(.asg (.name 5) (.call ov [(.idx (.var 3) (.bin .sub (.bin .add (.var 2) (.bi .len [(.var 1)])) (.int 1))), (.idx (.var 1) (.neg (.int 1)))])), (.asg (.sub (.var 4) (.var 2)) (.var 5)), (.for_ (.tup [(.name 6), (.name 7)]) (.enum (.var 1)) (dlIn pu ti))]
def dlS (S R0 : Store) (left wh : List Rat) : Store := S ++ ([left.map fr, [fr 0], wh.map fr] ++ R0)
theorem dlS0 {R0 : Store} {left wh : List Rat} : (dlS S R0 left wh)[S.length]? = some (left.map fr) := by simp [dlS]
theorem dlS2 {R0 : Store} {left wh : List Rat} : (dlS S R0 left wh)[S.length + 2]? = some (wh.map fr) := by simp [dlS]
theorem dlSs0 {R0 : Store} {left wh : List Rat} {x : List Rat} : (dlS S R0 left wh).set S.length (x.map fr) = dlS S R0 x wh := by simp [dlS]
theorem dlSs2 {R0 : Store} {left wh : List Rat} {x : List Rat} : (dlS S R0 left wh).set (S.length + 2) (x.map fr) = dlS S R0 left x := by simp [dlS]
theorem ok_m1 : Ok (-1) := by
  have : Sz 1 (-1) := ⟨by decide, by decide⟩
  exact this.mono (by decide)
theorem ok_neg {c : Rat} (h : Ok c) : Ok (-c) := ⟨by rw [Rat.neg_num, Int.natAbs_neg]; exact h.1, by rw [Rat.neg_den]; exact h.2⟩
theorem dl_turn {ov pu ti : Nat} (hO : OverS T C N k ov) (hP : PlusS T C N k pu) (hM : TimesS T C N k ti) {R0 : Store} {a b : List Rat} (hb : b ≠ []) (nb : Nm b) (okb : POk b) (t : Nat) (S' : Store) (wh left : List Rat) (c : Rat) (hS : S' = dlS S R0 left wh) (h1 : t < wh.length) (h2 : t + b.length ≤ left.length) (hl : POk left) (hc : c = cf left (t + b.length - 1) / cf b (b.length - 1)) (okc : Ok c) (okcb : ∀ i, Ok (c * cf b i)) (e5 e6 e7 : Option DL.D) :
    ∃ e5' e6' e7', execs (run T C N k) C N (dlB ov pu ti) [some (pl a), some (pl b), some (.int (t : Nat)), some (.ref S.length), some (.ref (S.length + 2)), e5, e6, e7] S' =
      .nx [some (pl a), some (pl b), some (.int (t : Nat)), some (.ref S.length), some (.ref (S.length + 2)), e5', e6', e7'] (dlS S R0 (addRow (-c) left t b) (wh.set t c)) := by
  subst hS
  have hbl : 0 < b.length := List.length_pos_iff.mpr hb
  have ea : ((t : Nat) : Int) + ((b.length : Nat) : Int) - 1 = ((t + b.length - 1 : Nat) : Int) := by omega
  have i1 : idxR (.ref S.length) (.int ((t + b.length - 1 : Nat) : Int)) (dlS S R0 left wh) = .ok (fr (cf left (t + b.length - 1))) (dlS S R0 left wh) := idx_ref dlS0 (by rw [atI_nat]; exact map_get (by omega))
  have i2 := idx_last (S := dlS S R0 left wh) hb
  have o1 := hO (cf left (t + b.length - 1)) (cf b (b.length - 1)) (dlS S R0 left wh) (nb.resolve_left hb) (hl _) (okb _)
  rw [← hc] at o1
  have s1 := fun env => set_ref (S := dlS S R0 left wh) (env := env) (n := S.length + 2) (j := t) (x := fr c) dlS2 (by simp; exact h1)
  have bl : biD .len [pl b] (dlS S R0 left wh) = .ok (.int (b.length : Nat)) (dlS S R0 left wh) := by simp [pl]
  have st0 : exec (run T C N k) C N (.asg (.name 5) (.call ov [(.idx (.var 3) (.bin .sub (.bin .add (.var 2) (.bi .len [(.var 1)])) (.int 1))), (.idx (.var 1) (.neg (.int 1)))])) [some (pl a), some (pl b), some (.int (t : Nat)), some (.ref S.length), some (.ref (S.length + 2)), e5, e6, e7] (dlS S R0 left wh) =
      .nx [some (pl a), some (pl b), some (.int (t : Nat)), some (.ref S.length), some (.ref (S.length + 2)), some (fr c), e6, e7] (dlS S R0 left wh) := by
    simp only [ex_asg, ev_call', evs_cons, evs_nil, ev_idx, ev_var, ev_bin, ev_bi', ev_int, ev_neg, List.getElem?_cons_zero, List.getElem?_cons_succ, R.bind_ok, bl, op_add, op_sub, ea, i1, i2, o1, R.thenS_ok, put_name', List.set_cons_succ, List.set_cons_zero]
  have st1 : exec (run T C N k) C N (.asg (.sub (.var 4) (.var 2)) (.var 5)) [some (pl a), some (pl b), some (.int (t : Nat)), some (.ref S.length), some (.ref (S.length + 2)), some (fr c), e6, e7] (dlS S R0 left wh) =
      .nx [some (pl a), some (pl b), some (.int (t : Nat)), some (.ref S.length), some (.ref (S.length + 2)), some (fr c), e6, e7] (dlS S R0 left (wh.set t c)) := by
    simp only [ex_asg, ev_var, List.getElem?_cons_zero, List.getElem?_cons_succ, R.thenS_ok, put_sub', s1, setAt, set_map, dlSs2]
  obtain ⟨e6', e7', r⟩ := row_loop (n := S.length) (o0 := t) (a := -c) (tg := .tup [.name 6, .name 7]) (G := fun e S' => execs (run T C N k) C N (dlIn pu ti) e S') (I := fun _ => True)
    (ev := fun e6 e7 => [some (pl a), some (pl b), some (.int (t : Nat)), some (.ref S.length), some (.ref (S.length + 2)), some (fr c), e6, e7]) (fun _ _ _ _ _ => rfl) (fun S2 x h => trivial) b
    (fun m bj acc S2 hm hI hA hlt hok => by
      obtain ⟨i, hi, rfl⟩ := mem_cf hm
      have ej : ((t : Nat) : Int) + ((m : Nat) : Int) = ((t + m : Nat) : Int) := by omega
      have j1 : idxR (.ref S.length) (.int ((t + m : Nat) : Int)) S2 = .ok (fr (cf acc (t + m))) S2 := idx_ref hA (by rw [atI_nat]; exact map_get hlt)
      have m0 : newT [.int (-1), .int 1] S2 = .ok (fr (-1)) S2 := newT_2
      have en : (-1 : Rat) * c = -c := by grind
      have m1 := hM (-1) c S2 ok_m1 okc
      rw [en] at m1
      have m2 := hM (-c) (cf b i) S2 (ok_neg okc) (okb i)
      have l1 := hP (cf acc (t + m)) (-c * cf b i) S2 hok (by rw [show -c * cf b i = -(c * cf b i) by grind]; exact ok_neg (okcb i))
      have s2 := fun env x => set_ref (S := S2) (env := env) (n := S.length) (j := t + m) (x := fr x) hA (by simp; exact hlt)
      simp only [dlIn, exs_cons, exs_nil, ex_asg, ev_call', evs_cons, evs_nil, ev_idx, ev_var, ev_bin, ev_tup, ev_neg, ev_int, List.getElem?_cons_zero, List.getElem?_cons_succ, R.bind_ok, op_add, ej, j1, m0, m1, m2, l1, R.thenS_ok, put_sub', s2, setAt, set_map, RS.seq_nx])
    b left 0 (dlS S R0 left (wh.set t c)) e6 e7 (fun _ h => h) trivial dlS0 (by omega) (fun i _ => hl i)
  have st2 : exec (run T C N k) C N (.for_ (.tup [(.name 6), (.name 7)]) (.enum (.var 1)) (dlIn pu ti)) [some (pl a), some (pl b), some (.int (t : Nat)), some (.ref S.length), some (.ref (S.length + 2)), some (fr c), e6, e7] (dlS S R0 left (wh.set t c)) =
      .nx [some (pl a), some (pl b), some (.int (t : Nat)), some (.ref S.length), some (.ref (S.length + 2)), some (fr c), e6', e7'] (dlS S R0 (addRow (-c) left t b) (wh.set t c)) := by
    rw [ex_for]
    simp only [evi_enum, ev_var, List.getElem?_cons_zero, List.getElem?_cons_succ, R.bind_ok, pl, items_tup, dep_tup, R.thenS_ok, enumL_fr]
    rw [dlSs0] at r
    exact r
  refine ⟨some (fr c), e6', e7', ?_⟩
  simp only [dlB, exs_cons, exs_nil, st0, st1, st2, RS.seq_nx]
def fnLDivided (ov pu ti cu : Nat) : Fn := ⟨2, 8, [(.asg (.tup [(.name 3), (.name 4)]) (.tup [(.bi .list [(.var 0)]), (.bin .mul (.lst [(.tup [(.int 0), (.int 1)])]) (.bi .max [(.int 0), (.bin .add (.bin .sub (.bi .len [(.var 0)]) (.bi .len [(.var 1)])) (.int 1))]))])), (.for_ (.name 2) (.seq (.rev (.lrg false [(.bi .max [(.int 0), (.bin .add (.bin .sub (.bi .len [(.var 0)]) (.bi .len [(.var 1)])) (.int 1))])]))) (dlB ov pu ti)), (.ret (.tup [(.call cu [(.var 4)]), (.call cu [(.var 3)])]))]⟩
theorem ldivided_pl {ov pu ti cu : Nat} (h : T[f]? = some (fnLDivided ov pu ti cu)) (hcu : T[cu]? = some fnCut) (hO : OverS T C N (k - 1) ov) (hP : PlusS T C N (k - 1) pu) (hM : TimesS T C N (k - 1) ti) (hk : 2 ≤ k) {a b : List Rat} (d : DvOk a b) :
    run T C N k f [pl a, pl b] S = .ok (.tup [pl (pdiv a b).1, pl (pdiv a b).2]) S := by
  obtain ⟨D, M, E, B', lv, hD, hE, ia, ib, hy, hl0, hlB, hfit⟩ := d.ex
  have la := d.la
  have lb := d.lb
  have hbl : 0 < b.length := List.length_pos_iff.mpr d.hb
  rw [run_s h (by omega) rfl]
  obtain ⟨m, hm⟩ : ∃ m, m = a.length + 1 - b.length := ⟨_, rfl⟩
  rw [← hm] at hfit
  have e1 : opD .mul (.ref (S.length + 1)) (.int (m : Nat)) (S ++ [a.map fr] ++ [[fr 0]]) = .ok (.ref (S.length + 2)) (dlS S [] a (List.replicate m 0)) := by
    show (match (S ++ [a.map fr] ++ [[fr 0]])[S.length + 1]? with
      | some l => if (-(2 ^ 63) ≤ ((m : Nat) : Int) ∧ ((m : Nat) : Int) < 2 ^ 63) ∧ l.length * ((m : Nat) : Int).toNat ≤ PySem.sizeLine then R.ok (DL.D.ref (S ++ [a.map fr] ++ [[fr 0]]).length) (S ++ [a.map fr] ++ [[fr 0]] ++ [rep l ((m : Nat) : Int).toNat]) else .bad
      | none => .bad) = _
    have : (S ++ [a.map fr] ++ [[fr 0]])[S.length + 1]? = some [fr 0] := by simp
    rw [this]
    simp only [List.length_cons, List.length_nil, Int.toNat_natCast]
    rw [if_pos ⟨⟨by omega, by omega⟩, small (by omega)⟩, rep_one]
    simp [dlS]
  have e0 : (if ((a.length : Int) - (b.length : Int) + 1) > (0 : Int) then ((a.length : Int) - (b.length : Int) + 1) else (0 : Int)) = ((m : Nat) : Int) := by split <;> omega
  have fr0' : ∀ S' : Store, newT [.int 0, .int 1] S' = .ok (fr 0) S' := fun S' => newT_2
  have x1 : exec (run T C N (k - 1)) C N (.asg (.tup [(.name 3), (.name 4)]) (.tup [(.bi .list [(.var 0)]), (.bin .mul (.lst [(.tup [(.int 0), (.int 1)])]) (.bi .max [(.int 0), (.bin .add (.bin .sub (.bi .len [(.var 0)]) (.bi .len [(.var 1)])) (.int 1))]))])) [some (pl a), some (pl b), none, none, none, none, none, none] S =
      .nx [some (pl a), some (pl b), none, some (.ref S.length), some (.ref (S.length + 2)), none, none, none] (dlS S [] a (List.replicate m 0)) := by
    have hlen : (S ++ [a.map fr]).length = S.length + 1 := by simp
    simp only [ex_asg, ev_tup, ev_bin, ev_lst, evs_cons, evs_nil, R.bind_ok, fr0', newL_1, ev_bi', ev_var, List.getElem?_cons_zero, List.getElem?_cons_succ, pl, bi_list_tup, bi_len_tup, List.length_map, op_add, op_sub, ev_int, bi_max_int, e0, hlen, e1, R.thenS_ok, newT_2, put_tup', items_tup, List.length_cons, List.length_nil, if_true, puts_cons', puts_nil', put_name', RS.seq_nx, List.set_cons_succ, List.set_cons_zero]
  have hturns := turns (tg := .name 2) (dep := [(S.length + 4, downI m)]) (G := fun e S' => execs (run T C N (k - 1)) C N (dlB ov pu ti) e S') (EnvOk := fun env => ∃ e2 e5 e6 e7, env = [some (pl a), some (pl b), e2, some (.ref S.length), some (.ref (S.length + 2)), e5, e6, e7]) (St := fun S' wh left => S' = dlS S [rangeL 0 m, downI m] left wh) d.hb hE ib hy hl0 hlB
    (fun S' wh left hs => by
      subst hs
      show ([(S.length + 4, downI m)] : List (Nat × List DL.D)).all _ = true
      have : (dlS S [rangeL 0 m, downI m] left wh)[S.length + 4]? = some (downI m) := by simp [dlS]
      simp only [List.all_cons, List.all_nil, Bool.and_true, this]
      exact DL.D.beqs_refl _)
    (fun t env S' wh left cc he hs h1 h2 h3 h4 h5 h6 => by
      obtain ⟨e2, e5, e6, e7, rfl⟩ := he
      obtain ⟨e5', e6', e7', r⟩ := dl_turn hO hP hM d.hb d.nb d.okb (a := a) t S' wh left cc hs h1 h2 h3 h4 h5 h6 e5 e6 e7
      exact ⟨_, _, _, rfl, r, ⟨_, e5', e6', e7', rfl⟩, rfl⟩)
    m _ _ (List.replicate m 0) a D M ⟨none, none, none, none, rfl⟩ rfl (by simp) (fun _ => by omega) hD ia hfit
  obtain ⟨env', S', r1, ⟨e2, e5, e6, e7, rfl⟩, rfl⟩ := hturns
  obtain ⟨g1, g2, g3, g4⟩ := pdiv_go (a := a) d.hb d.nb
  rw [← hm] at g1 g2 g4
  have x2 : exec (run T C N (k - 1)) C N (.for_ (.name 2) (.seq (.rev (.lrg false [(.bi .max [(.int 0), (.bin .add (.bin .sub (.bi .len [(.var 0)]) (.bi .len [(.var 1)])) (.int 1))])]))) (dlB ov pu ti)) [some (pl a), some (pl b), none, some (.ref S.length), some (.ref (S.length + 2)), none, none, none] (dlS S [] a (List.replicate m 0)) =
      .nx [some (pl a), some (pl b), e2, some (.ref S.length), some (.ref (S.length + 2)), e5, e6, e7] (dlS S [rangeL 0 m, downI m] (dvGo b m (List.replicate m 0) a).2 (dvGo b m (List.replicate m 0) a).1) := by
    rw [ex_for]
    have lr : lrgR false [.int (m : Nat)] (dlS S [] a (List.replicate m 0)) = .ok (.ref (S.length + 3)) (dlS S [rangeL 0 m] a (List.replicate m 0)) := by
      show (if boundOk 0 && (boundOk ((m : Nat) : Int) && Nat.ble (((m : Nat) : Int) - 0).toNat 16777216) then (if false then R.ok (.tup (rangeL 0 (((m : Nat) : Int) - 0).toNat)) _ else R.ok (DL.D.ref (dlS S [] a (List.replicate m 0)).length) (dlS S [] a (List.replicate m 0) ++ [rangeL 0 (((m : Nat) : Int) - 0).toNat])) else .bad) = _
      rw [if_pos (by rw [boundOk_nat (by omega), Bool.true_and, Nat.ble_eq.mpr (by omega)]; rfl), if_neg (by simp)]
      simp [dlS]
    have rv : revR (.ref (S.length + 3)) (dlS S [rangeL 0 m] a (List.replicate m 0)) = .ok (.ref (S.length + 4)) (dlS S [rangeL 0 m, downI m] a (List.replicate m 0)) := by
      show (match lstOf (dlS S [rangeL 0 m] a (List.replicate m 0)) (.ref (S.length + 3)) with | some xs => R.ok (DL.D.ref (dlS S [rangeL 0 m] a (List.replicate m 0)).length) (dlS S [rangeL 0 m] a (List.replicate m 0) ++ [xs.reverse]) | none => .bad) = _
      have : lstOf (dlS S [rangeL 0 m] a (List.replicate m 0)) (.ref (S.length + 3)) = some (rangeL 0 m) := by simp [lstOf, dlS]
      rw [this]
      show R.ok _ (_ ++ [(rangeL 0 m).reverse]) = _
      rw [downI_rev]
      simp [dlS]
    have i4 : (dlS S [rangeL 0 m, downI m] a (List.replicate m 0))[S.length + 4]? = some (downI m) := by simp [dlS]
    have it : evi (run T C N (k - 1)) C (.seq (.rev (.lrg false [(.bi .max [(.int 0), (.bin .add (.bin .sub (.bi .len [(.var 0)]) (.bi .len [(.var 1)])) (.int 1))])]))) [some (pl a), some (pl b), none, some (.ref S.length), some (.ref (S.length + 2)), none, none, none] (dlS S [] a (List.replicate m 0)) = .ok ⟨downI m, [(S.length + 4, downI m)]⟩ (dlS S [rangeL 0 m, downI m] a (List.replicate m 0)) := by
      have e := ev_lrg (F := run T C N (k - 1)) (C := C) (t := false) (es := [(.bi .max [(.int 0), (.bin .add (.bin .sub (.bi .len [(.var 0)]) (.bi .len [(.var 1)])) (.int 1))])]) (env := [some (pl a), some (pl b), none, some (.ref S.length), some (.ref (S.length + 2)), none, none, none]) (S := dlS S [] a (List.replicate m 0))
      rw [evi_seq, ev_rev, e]
      simp only [evs_cons, evs_nil, ev_bin, ev_bi', ev_var, ev_int, List.getElem?_cons_zero, List.getElem?_cons_succ, R.bind_ok, pl, bi_len_tup, List.length_map, op_sub, op_add, bi_max_int, e0, lr, rv]
      show (match (dlS S [rangeL 0 m, downI m] a (List.replicate m 0))[S.length + 4]? with | some l => R.ok (⟨l, depOf (dlS S [rangeL 0 m, downI m] a (List.replicate m 0)) (.ref (S.length + 4))⟩ : It) _ | none => .bad) = _
      rw [i4]
      show R.ok (⟨downI m, (match (dlS S [rangeL 0 m, downI m] a (List.replicate m 0))[S.length + 4]? with | some l => [(S.length + 4, l)] | none => [])⟩ : It) _ = _
      rw [i4]
    rw [it, R.thenS_ok]
    exact r1
  have t1 := cut_ok (C := C) (N := N) (k := k - 1) (S := dlS S [rangeL 0 m, downI m] (dvGo b m (List.replicate m 0) a).2 (dvGo b m (List.replicate m 0) a).1) (n := S.length + 2) hcu (by omega) dlS2 (by rw [g1]; omega)
  have t2 := cut_ok (C := C) (N := N) (k := k - 1) (S := dlS S [rangeL 0 m, downI m] (dvGo b m (List.replicate m 0) a).2 (dvGo b m (List.replicate m 0) a).1) (n := S.length) hcu (by omega) dlS0 (by rw [g2]; omega)
  have p1 : (pdiv a b).1 = trim (dvGo b m (List.replicate m 0) a).1 := by rw [hm]; rfl
  have p2 : (pdiv a b).2 = trim (dvGo b m (List.replicate m 0) a).2 := by rw [hm]; rfl
  rw [← p1] at t1
  rw [← p2] at t2
  have x3 : exec (run T C N (k - 1)) C N (.ret (.tup [(.call cu [(.var 4)]), (.call cu [(.var 3)])])) [some (pl a), some (pl b), e2, some (.ref S.length), some (.ref (S.length + 2)), e5, e6, e7] (dlS S [rangeL 0 m, downI m] (dvGo b m (List.replicate m 0) a).2 (dvGo b m (List.replicate m 0) a).1) =
      .rt (.tup [pl (pdiv a b).1, pl (pdiv a b).2]) (dlS S [rangeL 0 m, downI m] (dvGo b m (List.replicate m 0) a).2 (dvGo b m (List.replicate m 0) a).1) := by
    simp only [ex_ret, ev_tup, ev_call', evs_cons, evs_nil, ev_var, List.getElem?_cons_zero, List.getElem?_cons_succ, R.bind_ok, t1, t2, newT_2, R.thenS_ok]
  simp only [fnLDivided, startD, List.map_cons, List.map_nil, List.length_cons, List.length_nil, List.cons_append, List.nil_append, List.replicate, exs_cons, exs_nil, x1, x2, x3, RS.seq_nx, seq_rt]
  refine end_rt (by simp [dlS]) (by simp [dlS]) ?_
  show (DL.D.closeds S.length [pl (pdiv a b).1, pl (pdiv a b).2]) = true
  simp only [DL.D.closeds, closed_pl, Bool.and_self]
end
end DL

end
section
set_option maxHeartbeats 1000000
/-! # DL: POLYs told by hand; the end of the laws of the first group -/
namespace DL
open PySem (Str)
def in12 (c : Rat) : Bool := decide ((c * (12 : Rat)).den = 1) && decide ((c * (12 : Rat)).num.natAbs < 2 ^ 40)
theorem in12_ok {c : Rat} (h : in12 c = true) : In 12 (2 ^ 40 - 1) c := by
  unfold in12 at h
  simp only [Bool.and_eq_true, decide_eq_true_eq] at h
  refine ⟨(c * (12 : Rat)).num, by omega, ?_⟩
  have e : c * (12 : Rat) = ((c * (12 : Rat)).num : Rat) := by
    conv => lhs; rw [← Rat.mkRat_self (c * (12 : Rat))]
    rw [h.1, Rat.mkRat_eq_div]
    grind
  exact e
def concB (p : List Rat) : Bool := (p.isEmpty || cf p (p.length - 1) != 0) && (decide (p.length ≤ 13) && p.all in12)
theorem conc {p : List Rat} (h : concB p = true) : Pl p ∧ GB 4 40 p := by
  unfold concB at h
  simp only [Bool.and_eq_true, decide_eq_true_eq, Bool.or_eq_true, List.all_eq_true, bne_iff_ne, List.isEmpty_iff] at h
  have g : GB 4 40 p := ⟨12, 2 ^ 40 - 1, by decide, by decide, by decide, pin_of fun c hc => in12_ok (h.2.2 c hc)⟩
  exact ⟨mkPl h.1 h.2.1 g (by decide) (by decide), g⟩
section
variable {T : List Fn} {C : List D} {N k f : Nat} {S : Store}
/-- a comprehension whose items are all True, its list the first one -/
theorem lc_true {el : En → Store → R D} {tt : En → Store → R Bool} {tg : Tg} {env : En} : ∀ (l : List D) (acc : List Bool) (S : Store), S[0]? = some (acc.map .bl) → acc.length + l.length ≤ 1000 → acc.all id = true →
    (∀ d ∈ l, ∀ S', 0 < S'.length → ∃ env', Tg.put S' tg d env = some env' ∧ (∀ S'', tt env' S'' = .ok true S'') ∧ ∃ S'', el env' S' = .ok (.bl true) S'' ∧ 0 < S''.length ∧ S''[0]? = S'[0]?) →
    ∃ bs S', lcLoop 0 [] el tt tg env l S = .ok (.ref 0) S' ∧ S'[0]? = some ((bs : List Bool).map .bl) ∧ bs.all id = true
  | [], acc, S, e, hl, ha, h => ⟨acc, S, rfl, e, ha⟩
  | d :: l, acc, S, e, hl, ha, h => by
    have hm : 0 < S.length := (List.getElem?_eq_some_iff.mp e).1
    obtain ⟨env', e1, e2, S2, e3, h0, h1⟩ := h d List.mem_cons_self S hm
    have em : S2[0]? = some (acc.map .bl) := h1.trans e
    simp only [List.length_cons] at hl
    obtain ⟨bs, S', r1, r2, r3⟩ := lc_true (el := el) (tt := tt) (tg := tg) (env := env) l (acc ++ [true]) (S2.set 0 ((acc ++ [true]).map .bl)) (by rw [List.getElem?_set_self h0]) (by simp; omega) (by simp [ha]) fun d' hd' => h d' (List.mem_cons_of_mem _ hd')
    refine ⟨bs, S', ?_, r2, r3⟩
    have hl2 : (acc.map D.bl).length < PySem.sizeLine := by
      rw [List.length_map]
      exact Nat.lt_of_lt_of_le (show acc.length < 16777216 by omega) (Nat.le_refl _)
    show (if It.still S [] then (match Tg.put S tg d env with
      | some env' => (match tt env' S with
        | .ok true S1 => (match el env' S1 with
          | .ok y S2 => (match S2[0]? with
            | some (acc : List D) => if acc.length < PySem.sizeLine then lcLoop 0 [] el tt tg env l (setAt S2 0 (acc ++ [y])) else .bad
            | _ => .bad)
          | _ => .bad)
        | .ok false S1 => lcLoop 0 [] el tt tg env l S1
        | _ => .bad)
      | none => .bad) else .bad) = _
    rw [e1]
    simp only [still_nil, if_true, e2, e3, em, hl2, setAt]
    rw [← r1]
    simp
def fnLawA (r w : Nat) : Fn := ⟨1, 2, [(.ret (.cmp .nin (.bl false) (.lc (.call r [(.call w [(.var 0), (.var 1)])]) (.name 1) (.range [(.bi .max [(.int 2), (.bi .min [(.bi .len [(.var 0)]), (.int 3)])])]) [] [1])))]⟩
theorem lawA_ok {r w : Nat} {A D0 : Int} (h : T[f]? = some (fnLawA r w)) (hw : T[w]? = some (fnWell A D0)) (h0 : 0 ≤ D0) (h1 : D0 ≤ 1000000) (hk : 3 ≤ k) (right : ∀ n S, Wl S n → ∃ S', run T C N (k - 1) r [.ref n] S = .ok (.bl true) S' ∧ Ch n S S') (ns : List Int) : ∃ S', run T C N k f [.fz (ns.map .int)] [] = .ok (.bl true) S' := by
  have er : run T C N k f [.fz (ns.map .int)] [] = endR [] (execs (run T C N (k - 1)) C N (fnLawA r w).body [some (.fz (ns.map .int)), none] []) := run_s h (by omega) rfl
  obtain ⟨c, hc, hc2⟩ : ∃ c : Nat, (if (if (3 : Int) < (ns.length : Int) then (3 : Int) else (ns.length : Int)) > (2 : Int) then (if (3 : Int) < (ns.length : Int) then (3 : Int) else (ns.length : Int)) else (2 : Int)) = (c : Int) ∧ c ≤ 3 := by
    by_cases h : 3 < ns.length
    · exact ⟨3, by rw [if_pos (show (3 : Int) < (ns.length : Int) by omega)]; rfl, by omega⟩
    · rw [if_neg (show ¬ (3 : Int) < (ns.length : Int) by omega)]
      by_cases h2 : 2 < ns.length
      · exact ⟨ns.length, by rw [if_pos (by omega)], by omega⟩
      · exact ⟨2, by rw [if_neg (by omega)]; rfl, by omega⟩
  have ea : evs (run T C N (k - 1)) C [(.bi .max [(.int 2), (.bi .min [(.bi .len [(.var 0)]), (.int 3)])])] [some (.fz (ns.map .int)), none] [] = .ok [.int (c : Int)] [] := by
    simp only [evs_cons, evs_nil, ev_bi', ev_var, ev_int, List.getElem?_cons_zero, R.bind_ok, bi_len_fz, bi_min_int, bi_max_int, List.length_map, hc]
  obtain ⟨bs, S', r1, r2, r3⟩ := lc_true (el := fun env' S' => ev (run T C N (k - 1)) C (.call r [(.call w [(.var 0), (.var 1)])]) env' S') (tt := fun env' S' => evt (run T C N (k - 1)) C [] env' S') (tg := .name 1) (env := wipeD [some (.fz (ns.map .int)), none] [1]) ((List.range c).map fun i => .int (0 + (i : Nat))) [] ([] ++ [[]]) (by simp) (by simp; omega) rfl fun d hd S' h00 => by
    obtain ⟨i, hi, rfl⟩ := List.mem_map.mp hd
    have hi : i < c := by simpa using hi
    obtain ⟨a, b, w1, w2⟩ := well_ok (C := C) (N := N) (k := k - 1) (S := S') hw (by omega) ns i (by omega) h0 h1
    have hww : Wl (S' ++ [[.int a, .int b]]) S'.length := ⟨a, b, by simp, w2⟩
    obtain ⟨S2, a1, c1⟩ := right _ _ hww
    refine ⟨_, rfl, fun _ => rfl, S2, ?_, ?_, ?_⟩
    · have e0 : (0 : Int) + (i : Int) = (i : Int) := by omega
      simp [e0, w1, a1]
    · have := c1.1
      simp at this
      omega
    · rw [c1.2.1 0 (by simp) (by omega), List.getElem?_append_left h00]
  have el : ev (run T C N (k - 1)) C (.lc (.call r [(.call w [(.var 0), (.var 1)])]) (.name 1) (.range [(.bi .max [(.int 2), (.bi .min [(.bi .len [(.var 0)]), (.int 3)])])]) [] [1]) [some (.fz (ns.map .int)), none] [] = .ok (.ref 0) S' := by
    rw [ev_lc, evi_rangeN ea (by omega)]
    exact r1
  have ei : cmpR .nin (.bl false) (.ref 0) S' = .ok (.bl true) S' := by
    have h1 := in_bls r2 false
    have h2 : bs.any (· == false) = false := by
      rw [List.any_eq_false]
      intro x hx
      have := List.all_eq_true.mp r3 x hx
      cases x <;> simp_all
    rw [h2] at h1
    show (match (inD (.bl false) (.ref 0) S').map (!·) with | some k => R.ok (D.bl k) S' | none => .bad) = _
    rw [h1]; rfl
  have ex : execs (run T C N (k - 1)) C N (fnLawA r w).body [some (.fz (ns.map .int)), none] [] = .rt (.bl true) S' := by
    simp only [fnLawA, exs_cons, exs_nil, ex_ret, ev_cmp, ev_bl, el, R.bind_ok, ei, R.thenS_ok, seq_rt]
  rw [er, ex]
  show ∃ S'', leave [] (.bl true) S' = .ok (.bl true) S''
  unfold leave
  split
  · exact ⟨_, rfl⟩
  · split
    · exact ⟨_, rfl⟩
    · exact ⟨_, rfl⟩
end
end DL

end
section
set_option maxHeartbeats 4000000
/-! # DL: dividing refused; what the numbers of quotients keep within -/
namespace DL
section
variable {T : List Fn} {C : List D} {N k f : Nat} {S : Store}
def fnDivided (cp dv : Nat) (z : List DL.St) : Fn := ⟨2, 2, [(.expr (.call cp [(.var 0), (.var 1)])), (.ite (.cmp .eq (.var 1) (.tup [])) z []), (.ret (.call dv [(.var 0), (.var 1)]))]⟩
theorem divided_ok {cp dv : Nat} {z : List DL.St} {a b : List Rat} {r x : DL.D} (h : T[f]? = some (fnDivided cp dv z)) (hk : 1 ≤ k) (hb : b ≠ []) (hc : ∀ S, run T C N (k - 1) cp [pl a, pl b] S = .ok x S) (hd : ∀ S, run T C N (k - 1) dv [pl a, pl b] S = .ok r S) : run T C N k f [pl a, pl b] S = .ok r S := by
  rw [run_s h hk rfl]
  have e : cmpR .eq (pl b) (.tup []) S = .ok (.bl false) S := by rw [eq_nil]; simp [hb]
  simp [fnDivided, startD, hc, hd, e]
theorem divided_nil {cp dv c : Nat} {a : List Rat} {x : DL.D} (h : T[f]? = some (fnDivided cp dv [.raise c [.var 1]])) (hk : 1 ≤ k) (hc : ∀ S, run T C N (k - 1) cp [pl a, .tup []] S = .ok x S) : run T C N k f [pl a, .tup []] S = .ex c [.tup []] S := by
  rw [run_s h hk rfl]
  have e : cmpR .eq (.tup []) (.tup []) S = .ok (.bl true) S := eq_nil (p := []) (S := S)
  simp [fnDivided, startD, hc, e]
  rfl
def fnRefused (dv c : Nat) : Fn := ⟨1, 2, [(.try_ [(.expr (.call dv [(.var 0), (.tup [])]))] [⟨[c], some 1, (.lst [(.fld 0 [1, 2, 3])])⟩, ⟨[0, 1, 2, 3], none, (.lst [(.str (PySem.Str.ofString "other"))])⟩]), (.ret (.lst [(.str (PySem.Str.ofString "told"))]))]⟩
theorem refused_ok {dv : Nat} {a : List Rat} (h : T[f]? = some (fnRefused dv 3)) (hk : 1 ≤ k) (hd : ∀ S, run T C N (k - 1) dv [pl a, .tup []] S = .ex 3 [.tup []] S) : run T C N k f [pl a] S = .ok (.ref S.length) (S ++ [[.tup []]]) := by
  rw [run_s h hk rfl]
  have e : execs (run T C N (k - 1)) C N (fnRefused dv 3).body (startD 2 [pl a]) S = .rt (.ref S.length) (S ++ [[.tup []]]) := by
    show RS.seq (RS.catch (RS.seq (R.thenS (run T C N (k - 1) dv [pl a, .tup []] S) [some (pl a), none] fun _ S1 => RS.nx [some (pl a), none] S1) fun env' S' => RS.nx env' S') _) _ = _
    rw [hd]
    rfl
  show endR S (execs (run T C N (k - 1)) C N (fnRefused dv 3).body (startD 2 [pl a]) S) = _
  rw [e]
  show leave S (.ref S.length) (S ++ [[.tup []]]) = _
  have c1 : ((S ++ [[DL.D.tup []]]).length = S.length) = False := by simp
  have c2 : DL.D.closed S.length (.ref S.length) = false := by simp [DL.D.closed]
  have c3 : (S ++ [[DL.D.tup []]])[S.length]? = some [.tup []] := by simp
  have c4 : DL.D.closeds S.length [DL.D.tup []] = true := rfl
  have c5 : cleanS S (S ++ [[DL.D.tup []]]) = true := by
    unfold cleanS
    rw [List.take_left, sbeq_refl]; rfl
  unfold leave
  simp [c2, c3, c4, c5]
end
/-! ### bounds -/
theorem dvGo_gb {b : List Rat} {E B' l e : Nat} {lv : Int} (hb : b ≠ []) (hE : 0 < E) (hE2 : E < 2 ^ e) (ib : PIn E B' b) (hy : cf b (b.length - 1) * (E : Rat) = (lv : Rat)) (hl : lv ≠ 0) (hlB : lv.natAbs ≤ B') (hB : B' < 2 ^ l) :
    ∀ (t : Nat) (wh left : List Rat) (D M W d m : Nat), 0 < D → D < 2 ^ d → M < 2 ^ m → W < 2 ^ (m + e) → PIn D M left → PIn D W wh → t ≤ wh.length → (t ≠ 0 → t + b.length ≤ left.length + 1) →
      GB (d + t * l) (m + e + t * (l + 1)) (dvGo b t wh left).1 ∧ GB (d + t * l) (m + e + t * (l + 1)) (dvGo b t wh left).2
  | 0, wh, left, D, M, W, d, m, hD, h1, h2, h3, i1, i2, _, _ => ⟨⟨D, W, hD, by rw [Nat.zero_mul]; exact h1, by rw [Nat.zero_mul]; exact h3, i2⟩, ⟨D, M, hD, by rw [Nat.zero_mul]; exact h1, by rw [Nat.zero_mul]; exact pow_lt h2 (by omega), i1⟩⟩
  | t + 1, wh, left, D, M, W, d, m, hD, h1, h2, h3, i1, i2, g1, g2 => by
    have g2 := g2 (by omega)
    have hbl : 0 < b.length := List.length_pos_iff.mpr hb
    have hL : lv.natAbs < 2 ^ l := Nat.lt_of_le_of_lt hlB hB
    have hL0 : 0 < lv.natAbs := Int.natAbs_pos.mpr hl
    have hDL : 0 < D * lv.natAbs := Nat.mul_pos hD hL0
    have a1 := lt_two h1 hL
    have a2 := lt_two h2 hE2
    have a3 := lt_two h2 hB
    have a4 : 2 * (M * B') < 2 ^ (m + l + 1) := by rw [Nat.pow_succ]; omega
    have a5 := lt_two h3 hL
    rw [dvGo]
    obtain ⟨c, hc⟩ : ∃ c, c = cf left (t + b.length - 1) / cf b (b.length - 1) := ⟨_, rfl⟩
    rw [← hc]
    have ic : In (D * lv.natAbs) (M * E) c := by rw [hc]; exact in_over (i1 _) hy hl
    have hin' : PIn (D * lv.natAbs) (2 * (M * B')) (addRow (-c) left t b) := fun i => by
      rw [cf_addRow (-c) b left t i (by omega)]
      by_cases h : i < t
      · rw [if_pos h]
        have := (in_less (x := cf left i) (i1 i) (i1 (t + b.length - 1)) (in_zero E B') hy hl hE hlB)
        rw [Rat.mul_zero] at this
        exact this
      · rw [if_neg h, hc]
        exact in_less (i1 i) (i1 _) (ib _) hy hl hE hlB
    have hwh' : PIn (D * lv.natAbs) (W * lv.natAbs + M * E) (wh.set t c) := fun i => by
      rw [cf_set (by omega)]
      split
      · exact ic.mono (by omega)
      · exact ((i2 i).scale _).mono (by omega)
    have hW : W * lv.natAbs + M * E < 2 ^ (m + l + 1 + e) := by
      have e1 : 2 ^ (m + e + l) + 2 ^ (m + e + l) = 2 ^ (m + l + 1 + e) := by rw [show m + l + 1 + e = (m + e + l) + 1 by omega, Nat.pow_succ]; omega
      have e2 := pow_lt (b := m + e + l) a2 (by omega)
      omega
    obtain ⟨r1, r2⟩ := dvGo_gb hb hE hE2 ib hy hl hlB hB t (wh.set t c) (addRow (-c) left t b) (D * lv.natAbs) (2 * (M * B')) (W * lv.natAbs + M * E) (d + l) (m + l + 1) hDL a1 a4 hW hin' hwh' (by rw [List.length_set]; omega) (fun _ => by rw [addRow_len]; omega)
    have s1 : d + l + t * l = d + (t + 1) * l := by rw [Nat.succ_mul]; omega
    have s2 : m + l + 1 + e + t * (l + 1) = m + e + (t + 1) * (l + 1) := by rw [Nat.succ_mul]; omega
    rw [s1, s2] at r1 r2
    exact ⟨r1, r2⟩
theorem GB.trim {d b : Nat} {p : List Rat} (h : GB d b p) : GB d b (trim p) := by
  obtain ⟨D, B, h1, h2, h3, h4⟩ := h
  exact ⟨D, B, h1, h2, h3, h4.trim⟩
theorem lead_int {b : List Rat} {E B' : Nat} (hb : b ≠ []) (nb : Nm b) (hE : 0 < E) (ib : PIn E B' b) : ∃ l : Int, cf b (b.length - 1) * (E : Rat) = (l : Rat) ∧ l ≠ 0 ∧ l.natAbs ≤ B' := by
  obtain ⟨l, h1, h2⟩ := ib (b.length - 1)
  refine ⟨l, h2, fun e => ?_, h1⟩
  rw [e] at h2
  rcases Rat.mul_eq_zero.mp h2 with h | h
  · exact nb.resolve_left hb h
  · exact nat_rat_ne (by omega) h
theorem GB.dv {a b : List Rat} {d m e l : Nat} (ga : GB d m a) (gb : GB e l b) (hb : b ≠ []) (nb : Nm b) (la : a.length ≤ 13) (lb : b.length ≤ 13) (h1 : d + 13 * l ≤ 4400) (h2 : m + 13 * (l + 1) + e + l ≤ 4400) : DvOk a b := by
  have hbl : 0 < b.length := List.length_pos_iff.mpr hb
  have okb : POk b := gb.ok (by omega) (by omega)
  obtain ⟨D, M, a1, a2, a3, a4⟩ := ga
  obtain ⟨E, B', b1, b2, b3, b4⟩ := gb
  obtain ⟨lv, c1, c2, c3⟩ := lead_int hb nb b1 b4
  have t1 : (a.length + 1 - b.length) * l ≤ 13 * l := Nat.mul_le_mul_right _ (by omega)
  have t2 : (a.length + 1 - b.length) * (l + 1) ≤ 13 * (l + 1) := Nat.mul_le_mul_right _ (by omega)
  exact ⟨hb, nb, by omega, by omega, okb, D, M, E, B', lv, a1, b1, a4, b4, c1, c2, c3, fits_of b2 (Nat.lt_of_le_of_lt c3 b3) b3 _ D M d m a2 a3 (by omega) (by omega)⟩
theorem GB.quot {a b : List Rat} {d m e l : Nat} (ga : GB d m a) (gb : GB e l b) (hb : b ≠ []) (nb : Nm b) (la : a.length ≤ 13) : GB (d + 13 * l) (m + e + 13 * (l + 1)) (pdiv a b).1 ∧ GB (d + 13 * l) (m + e + 13 * (l + 1)) (pdiv a b).2 := by
  have hbl : 0 < b.length := List.length_pos_iff.mpr hb
  obtain ⟨D, M, a1, a2, a3, a4⟩ := ga
  obtain ⟨E, B', b1, b2, b3, b4⟩ := gb
  obtain ⟨lv, c1, c2, c3⟩ := lead_int hb nb b1 b4
  obtain ⟨r1, r2⟩ := dvGo_gb hb b1 b2 b4 c1 c2 c3 b3 (a.length + 1 - b.length) (List.replicate (a.length + 1 - b.length) 0) a D M 0 d m a1 a2 a3 (Nat.two_pow_pos _) a4 (fun i => by rw [cf_rep]; exact in_zero _ _) (by simp) (fun _ => by omega)
  have t1 : (a.length + 1 - b.length) * l ≤ 13 * l := Nat.mul_le_mul_right _ (by omega)
  have t2 : (a.length + 1 - b.length) * (l + 1) ≤ 13 * (l + 1) := Nat.mul_le_mul_right _ (by omega)
  exact ⟨(r1.mono (by omega) (by omega)).trim, (r2.mono (by omega) (by omega)).trim⟩
end DL

end
section
set_option maxHeartbeats 0
namespace k14
open PySem PySem.Spec PyProof.Rows L2 DL
abbrev row : PySem.W.OpenLaw := PySem.Challenge.rw_straightroots_k14_main_whole_divided
def at_ (i : Nat) : Stmt := row.prog.main.body.getD i (.Pass ⟨0, 0, 0, 0⟩)
def ini (i j : Nat) : Stmt := match row.prog.main.body.getD i (.Pass ⟨0, 0, 0, 0⟩) with | .ClassDef _ _ _ b _ _ _ _ _ _ _ => b.getD j (.Pass ⟨0, 0, 0, 0⟩) | s => s
def G : Gm where
  fns := [((Str.ofString "is_whole"), [(Str.ofString "value")]), ((Str.ofString "is_tuple_of"), [(Str.ofString "value"), (Str.ofString "low"), (Str.ofString "high")]), ((Str.ofString "is_fraction"), [(Str.ofString "value")]), ((Str.ofString "are_fractions"), [(Str.ofString "value"), (Str.ofString "low"), (Str.ofString "high")]), ((Str.ofString "fraction"), [(Str.ofString "top"), (Str.ofString "under")]), ((Str.ofString "plus"), [(Str.ofString "one"), (Str.ofString "two")]), ((Str.ofString "less"), [(Str.ofString "one"), (Str.ofString "two")]), ((Str.ofString "times"), [(Str.ofString "one"), (Str.ofString "two")]), ((Str.ofString "over"), [(Str.ofString "one"), (Str.ofString "two")]), ((Str.ofString "is_poly_by"), [(Str.ofString "value")]), ((Str.ofString "lessened"), [(Str.ofString "numbers")]), ((Str.ofString "degree_of"), [(Str.ofString "poly")]), ((Str.ofString "padded"), [(Str.ofString "poly"), (Str.ofString "many")]), ((Str.ofString "sum_by"), [(Str.ofString "poly"), (Str.ofString "other")]), ((Str.ofString "product_by"), [(Str.ofString "poly"), (Str.ofString "other")]), ((Str.ofString "worth_of"), [(Str.ofString "poly"), (Str.ofString "share")]), ((Str.ofString "divided_by"), [(Str.ofString "poly"), (Str.ofString "other")]), ((Str.ofString "check_poly"), [(Str.ofString "value")]), ((Str.ofString "check_polys"), [(Str.ofString "poly"), (Str.ofString "other")]), ((Str.ofString "check_share"), [(Str.ofString "value")]), ((Str.ofString "is_poly"), [(Str.ofString "value")]), ((Str.ofString "degree"), [(Str.ofString "poly")]), ((Str.ofString "worth"), [(Str.ofString "poly"), (Str.ofString "share")]), ((Str.ofString "poly_sum"), [(Str.ofString "poly"), (Str.ofString "other_poly")]), ((Str.ofString "poly_times"), [(Str.ofString "poly"), (Str.ofString "other_poly")]), ((Str.ofString "divided"), [(Str.ofString "poly"), (Str.ofString "other_poly")]), ((Str.ofString "_law_well"), [(Str.ofString "script"), (Str.ofString "lap")]), ((Str.ofString "_law_haul"), [(Str.ofString "well"), (Str.ofString "many")]), ((Str.ofString "_law_of"), [(Str.ofString "well"), (Str.ofString "things")]), ((Str.ofString "_law_twin"), [(Str.ofString "told"), (Str.ofString "due")]), ((Str.ofString "_law_common"), [(Str.ofString "one"), (Str.ofString "two")]), ((Str.ofString "_law_share"), [(Str.ofString "top"), (Str.ofString "low")]), ((Str.ofString "_law_put"), [(Str.ofString "one"), (Str.ofString "two")]), ((Str.ofString "_law_by"), [(Str.ofString "one"), (Str.ofString "two")]), ((Str.ofString "_law_drawn_share"), [(Str.ofString "well")]), ((Str.ofString "_law_cut"), [(Str.ofString "numbers")]), ((Str.ofString "_law_number"), [(Str.ofString "poly"), (Str.ofString "power")]), ((Str.ofString "_law_mixed"), [(Str.ofString "one"), (Str.ofString "two"), (Str.ofString "by")]), ((Str.ofString "_law_product"), [(Str.ofString "one"), (Str.ofString "two")]), ((Str.ofString "_law_worth"), [(Str.ofString "poly"), (Str.ofString "share")]), ((Str.ofString "_law_drawn_poly"), [(Str.ofString "well"), (Str.ofString "most")]), ((Str.ofString "_law_over"), [(Str.ofString "one"), (Str.ofString "two")]), ((Str.ofString "_law_divided"), [(Str.ofString "one"), (Str.ofString "two")]), ((Str.ofString "_law_refused"), [(Str.ofString "poly")]), ((Str.ofString "_law_right"), [(Str.ofString "well")]), ((Str.ofString "law"), [(Str.ofString "script")])]
  consts := [(Str.ofString "NOUGHT"), (Str.ofString "MOST_NUMBERS")]
  free := [(Str.ofString "len"), (Str.ofString "abs"), (Str.ofString "int"), (Str.ofString "max"), (Str.ofString "min"), (Str.ofString "divmod"), (Str.ofString "tuple"), (Str.ofString "list"), (Str.ofString "bool"), (Str.ofString "all"), (Str.ofString "isinstance"), (Str.ofString "range"), (Str.ofString "enumerate"), (Str.ofString "zip"), (Str.ofString "str"), (Str.ofString "repr")]
  gcd := true
  mth := []
  kws := [⟨25, 0, [(Str.ofString "other_poly"), (Str.ofString "poly")], [1, 0]⟩]
  exc := [((Str.ofString "RootError"), []), ((Str.ofString "NotAPoly"), [(Str.ofString "given")]), ((Str.ofString "InvalidNumber"), [(Str.ofString "given")]), ((Str.ofString "NotNow"), [(Str.ofString "given")])]
  root := 0
def b0 : List DL.St := [(.ret (.and_ (.isi (.var 0) [.int]) (.nt (.isi (.var 0) [.bool]))))]
abbrev d0 : Dn := ⟨(Str.ofString "is_whole"), [(Str.ofString "value")], [(Str.ofString "value")], at_ 8, b0⟩
def b1 : List DL.St := [(.ret (.and_ (.isi (.var 0) [.tuple]) (.cmp2 .le .le (.var 1) (.bi .len [(.var 0)]) (.var 2))))]
abbrev d1 : Dn := ⟨(Str.ofString "is_tuple_of"), [(Str.ofString "value"), (Str.ofString "low"), (Str.ofString "high")], [(Str.ofString "value"), (Str.ofString "low"), (Str.ofString "high")], at_ 9, b1⟩
def b2 : List DL.St := [(.ite (.or_ (.nt (.call 1 [(.var 0), (.int 2), (.int 2)])) (.or_ (.nt (.call 0 [(.idx (.var 0) (.int 0))])) (.nt (.call 0 [(.idx (.var 0) (.int 1))])))) [(.ret (.bl false))] []), (.ret (.and_ (.cmp .gt (.idx (.var 0) (.int 1)) (.int 0)) (.cmp .eq (.bi .gcd [(.idx (.var 0) (.int 0)), (.idx (.var 0) (.int 1))]) (.int 1))))]
abbrev d2 : Dn := ⟨(Str.ofString "is_fraction"), [(Str.ofString "value")], [(Str.ofString "value")], at_ 10, b2⟩
def b3 : List DL.St := [(.ret (.and_ (.call 1 [(.var 0), (.var 1), (.var 2)]) (.bi .all [(.lc (.call 2 [(.var 3)]) (.name 3) (.seq (.var 0)) [] [3])])))]
abbrev d3 : Dn := ⟨(Str.ofString "are_fractions"), [(Str.ofString "value"), (Str.ofString "low"), (Str.ofString "high")], [(Str.ofString "value"), (Str.ofString "low"), (Str.ofString "high"), (Str.ofString "each")], at_ 11, b3⟩
def b4 : List DL.St := [(.asg (.name 2) (.bi .gcd [(.var 0), (.var 1)])), (.ret (.ife (.cmp .gt (.var 1) (.int 0)) (.tup [(.bin .fdiv (.var 0) (.var 2)), (.bin .fdiv (.var 1) (.var 2))]) (.tup [(.bin .fdiv (.neg (.var 0)) (.var 2)), (.bin .fdiv (.neg (.var 1)) (.var 2))])))]
abbrev d4 : Dn := ⟨(Str.ofString "fraction"), [(Str.ofString "top"), (Str.ofString "under")], [(Str.ofString "top"), (Str.ofString "under"), (Str.ofString "share")], at_ 12, b4⟩
def b5 : List DL.St := [(.ret (.call 4 [(.bin .add (.bin .mul (.idx (.var 0) (.int 0)) (.idx (.var 1) (.int 1))) (.bin .mul (.idx (.var 1) (.int 0)) (.idx (.var 0) (.int 1)))), (.bin .mul (.idx (.var 0) (.int 1)) (.idx (.var 1) (.int 1)))]))]
abbrev d5 : Dn := ⟨(Str.ofString "plus"), [(Str.ofString "one"), (Str.ofString "two")], [(Str.ofString "one"), (Str.ofString "two")], at_ 13, b5⟩
def b6 : List DL.St := [(.ret (.call 4 [(.bin .sub (.bin .mul (.idx (.var 0) (.int 0)) (.idx (.var 1) (.int 1))) (.bin .mul (.idx (.var 1) (.int 0)) (.idx (.var 0) (.int 1)))), (.bin .mul (.idx (.var 0) (.int 1)) (.idx (.var 1) (.int 1)))]))]
abbrev d6 : Dn := ⟨(Str.ofString "less"), [(Str.ofString "one"), (Str.ofString "two")], [(Str.ofString "one"), (Str.ofString "two")], at_ 14, b6⟩
def b7 : List DL.St := [(.ret (.call 4 [(.bin .mul (.idx (.var 0) (.int 0)) (.idx (.var 1) (.int 0))), (.bin .mul (.idx (.var 0) (.int 1)) (.idx (.var 1) (.int 1)))]))]
abbrev d7 : Dn := ⟨(Str.ofString "times"), [(Str.ofString "one"), (Str.ofString "two")], [(Str.ofString "one"), (Str.ofString "two")], at_ 15, b7⟩
def b8 : List DL.St := [(.ret (.call 4 [(.bin .mul (.idx (.var 0) (.int 0)) (.idx (.var 1) (.int 1))), (.bin .mul (.idx (.var 0) (.int 1)) (.idx (.var 1) (.int 0)))]))]
abbrev d8 : Dn := ⟨(Str.ofString "over"), [(Str.ofString "one"), (Str.ofString "two")], [(Str.ofString "one"), (Str.ofString "two")], at_ 16, b8⟩
def b9 : List DL.St := [(.ret (.and_ (.call 3 [(.var 0), (.int 0), (.cst 1)]) (.or_ (.cmp .eq (.var 0) (.tup [])) (.cmp .ne (.idx (.var 0) (.neg (.int 1))) (.cst 0)))))]
abbrev d9 : Dn := ⟨(Str.ofString "is_poly_by"), [(Str.ofString "value")], [(Str.ofString "value")], at_ 19, b9⟩
def b10 : List DL.St := [(.asg (.name 1) (.bi .len [(.var 0)])), (.while_ (.and_ (.cmp .gt (.var 1) (.int 0)) (.cmp .eq (.idx (.var 0) (.bin .sub (.var 1) (.int 1))) (.cst 0))) [(.asg (.name 1) (.bin .sub (.var 1) (.int 1)))]), (.ret (.bi .tuple [(.slc (.var 0) [] [(.var 1)])]))]
abbrev d10 : Dn := ⟨(Str.ofString "lessened"), [(Str.ofString "numbers")], [(Str.ofString "numbers"), (Str.ofString "size")], at_ 20, b10⟩
def b11 : List DL.St := [(.ret (.bin .sub (.bi .len [(.var 0)]) (.int 1)))]
abbrev d11 : Dn := ⟨(Str.ofString "degree_of"), [(Str.ofString "poly")], [(Str.ofString "poly")], at_ 21, b11⟩
def b12 : List DL.St := [(.ret (.bin .add (.var 0) (.bin .mul (.tup [(.cst 0)]) (.bin .sub (.var 1) (.bi .len [(.var 0)])))))]
abbrev d12 : Dn := ⟨(Str.ofString "padded"), [(Str.ofString "poly"), (Str.ofString "many")], [(Str.ofString "poly"), (Str.ofString "many")], at_ 22, b12⟩
def b13 : List DL.St := [(.asg (.name 2) (.bi .max [(.bi .len [(.var 0)]), (.bi .len [(.var 1)])])), (.ret (.call 10 [(.lc (.call 5 [(.var 3), (.var 4)]) (.tup [(.name 3), (.name 4)]) (.zip (.call 12 [(.var 0), (.var 2)]) (.call 12 [(.var 1), (.var 2)])) [] [3, 4])]))]
abbrev d13 : Dn := ⟨(Str.ofString "sum_by"), [(Str.ofString "poly"), (Str.ofString "other")], [(Str.ofString "poly"), (Str.ofString "other"), (Str.ofString "many"), (Str.ofString "one"), (Str.ofString "two")], at_ 23, b13⟩
def b14 : List DL.St := [(.asg (.name 2) (.bin .mul (.lst [(.cst 0)]) (.bi .max [(.bin .sub (.bin .add (.bi .len [(.var 0)]) (.bi .len [(.var 1)])) (.int 1)), (.int 0)]))), (.for_ (.tup [(.name 3), (.name 4)]) (.enum (.var 0)) [(.for_ (.tup [(.name 5), (.name 6)]) (.enum (.var 1)) [(.asg (.sub (.var 2) (.bin .add (.var 3) (.var 5))) (.call 5 [(.idx (.var 2) (.bin .add (.var 3) (.var 5))), (.call 7 [(.var 4), (.var 6)])]))])]), (.ret (.call 10 [(.var 2)]))]
abbrev d14 : Dn := ⟨(Str.ofString "product_by"), [(Str.ofString "poly"), (Str.ofString "other")], [(Str.ofString "poly"), (Str.ofString "other"), (Str.ofString "found"), (Str.ofString "at"), (Str.ofString "one"), (Str.ofString "more"), (Str.ofString "two")], at_ 24, b14⟩
def b15 : List DL.St := [(.asg (.name 2) (.cst 0)), (.for_ (.name 3) (.seq (.rev (.var 0))) [(.asg (.name 2) (.call 5 [(.call 7 [(.var 2), (.var 1)]), (.var 3)]))]), (.ret (.var 2))]
abbrev d15 : Dn := ⟨(Str.ofString "worth_of"), [(Str.ofString "poly"), (Str.ofString "share")], [(Str.ofString "poly"), (Str.ofString "share"), (Str.ofString "found"), (Str.ofString "number")], at_ 25, b15⟩
def b16 : List DL.St := [(.asg (.tup [(.name 3), (.name 4)]) (.tup [(.bi .list [(.var 0)]), (.bin .mul (.lst [(.cst 0)]) (.bi .max [(.bin .add (.bin .sub (.bi .len [(.var 0)]) (.bi .len [(.var 1)])) (.int 1)), (.int 0)]))])), (.for_ (.name 2) (.range [(.bin .sub (.bi .len [(.var 4)]) (.int 1)), (.neg (.int 1)), (.neg (.int 1))]) [(.asg (.sub (.var 4) (.var 2)) (.call 8 [(.idx (.var 3) (.bin .sub (.bin .add (.var 2) (.bi .len [(.var 1)])) (.int 1))), (.idx (.var 1) (.neg (.int 1)))])), (.for_ (.tup [(.name 5), (.name 6)]) (.enum (.var 1)) [(.asg (.sub (.var 3) (.bin .add (.var 2) (.var 5))) (.call 6 [(.idx (.var 3) (.bin .add (.var 2) (.var 5))), (.call 7 [(.idx (.var 4) (.var 2)), (.var 6)])]))])]), (.ret (.tup [(.call 10 [(.var 4)]), (.call 10 [(.slc (.var 3) [] [(.bin .sub (.bi .len [(.var 1)]) (.int 1))])])]))]
abbrev d16 : Dn := ⟨(Str.ofString "divided_by"), [(Str.ofString "poly"), (Str.ofString "other")], [(Str.ofString "poly"), (Str.ofString "other"), (Str.ofString "place"), (Str.ofString "left"), (Str.ofString "found"), (Str.ofString "more"), (Str.ofString "number")], at_ 26, b16⟩
def b17 : List DL.St := [(.ite (.nt (.call 9 [(.var 0)])) [(.raise 1 [(.var 0)])] [])]
abbrev d17 : Dn := ⟨(Str.ofString "check_poly"), [(Str.ofString "value")], [(Str.ofString "value")], at_ 28, b17⟩
def b18 : List DL.St := [(.expr (.call 17 [(.var 0)])), (.expr (.call 17 [(.var 1)]))]
abbrev d18 : Dn := ⟨(Str.ofString "check_polys"), [(Str.ofString "poly"), (Str.ofString "other")], [(Str.ofString "poly"), (Str.ofString "other")], at_ 29, b18⟩
def b19 : List DL.St := [(.ite (.nt (.call 2 [(.var 0)])) [(.raise 2 [(.var 0)])] [])]
abbrev d19 : Dn := ⟨(Str.ofString "check_share"), [(Str.ofString "value")], [(Str.ofString "value")], at_ 30, b19⟩
def b20 : List DL.St := [(.ret (.call 9 [(.var 0)]))]
abbrev d20 : Dn := ⟨(Str.ofString "is_poly"), [(Str.ofString "value")], [(Str.ofString "value")], at_ 32, b20⟩
def b21 : List DL.St := [(.expr (.call 17 [(.var 0)])), (.ret (.call 11 [(.var 0)]))]
abbrev d21 : Dn := ⟨(Str.ofString "degree"), [(Str.ofString "poly")], [(Str.ofString "poly")], at_ 33, b21⟩
def b22 : List DL.St := [(.expr (.call 17 [(.var 0)])), (.expr (.call 19 [(.var 1)])), (.ret (.call 15 [(.var 0), (.var 1)]))]
abbrev d22 : Dn := ⟨(Str.ofString "worth"), [(Str.ofString "poly"), (Str.ofString "share")], [(Str.ofString "poly"), (Str.ofString "share")], at_ 34, b22⟩
def b23 : List DL.St := [(.expr (.call 18 [(.var 0), (.var 1)])), (.ret (.call 13 [(.var 0), (.var 1)]))]
abbrev d23 : Dn := ⟨(Str.ofString "poly_sum"), [(Str.ofString "poly"), (Str.ofString "other_poly")], [(Str.ofString "poly"), (Str.ofString "other_poly")], at_ 35, b23⟩
def b24 : List DL.St := [(.expr (.call 18 [(.var 0), (.var 1)])), (.asg (.name 2) (.call 14 [(.var 0), (.var 1)])), (.ite (.cmp .gt (.bi .len [(.var 2)]) (.cst 1)) [(.raise 3 [(.var 1)])] []), (.ret (.var 2))]
abbrev d24 : Dn := ⟨(Str.ofString "poly_times"), [(Str.ofString "poly"), (Str.ofString "other_poly")], [(Str.ofString "poly"), (Str.ofString "other_poly"), (Str.ofString "found")], at_ 36, b24⟩
def b25 : List DL.St := [(.expr (.call 18 [(.var 0), (.var 1)])), (.ite (.cmp .eq (.var 1) (.tup [])) [(.raise 3 [(.var 1)])] []), (.ret (.call 16 [(.var 0), (.var 1)]))]
abbrev d25 : Dn := ⟨(Str.ofString "divided"), [(Str.ofString "poly"), (Str.ofString "other_poly")], [(Str.ofString "poly"), (Str.ofString "other_poly")], at_ 37, b25⟩
def b26 : List DL.St := [(.asg (.name 2) (.ife (.cmp .lt (.var 1) (.bi .len [(.var 0)])) (.bi .int [(.idx (.var 0) (.var 1))]) (.bin .add (.int 869) (.bin .mul (.int 31) (.var 1))))), (.asg (.name 3) (.bin .add (.int 61175) (.bin .mul (.int 17) (.var 1)))), (.for_ (.tup [(.name 4), (.name 5)]) (.enum (.slc (.var 0) [] [(.int 34)])) [(.asg (.name 3) (.bin .mod (.bi .int [(.bin .add (.bin .add (.bin .mul (.var 3) (.int 1442695040888963407)) (.bin .mul (.bin .mod (.bi .int [(.var 5)]) (.int 1000000033)) (.bin .add (.bin .mul (.int 3) (.var 4)) (.int 4)))) (.int 9))]) (.int 4611686018427387847)))]), (.asg (.name 3) (.bin .mod (.bi .int [(.bin .add (.bin .add (.bin .mul (.var 3) (.int 1442695040888963407)) (.bin .mod (.var 2) (.int 1000000033))) (.int 5))]) (.int 4611686018427387847))), (.ret (.lst [(.ife (.or_ (.cmp .lt (.var 2) (.int 0)) (.cmp .ge (.var 2) (.bin .pow (.int 10) (.int 18)))) (.bin .mod (.bi .int [(.bi .abs [(.var 2)])]) (.bin .pow (.int 10) (.int 50))) (.int 0)), (.var 3)]))]
abbrev d26 : Dn := ⟨(Str.ofString "_law_well"), [(Str.ofString "script"), (Str.ofString "lap")], [(Str.ofString "script"), (Str.ofString "lap"), (Str.ofString "own"), (Str.ofString "deep"), (Str.ofString "place"), (Str.ofString "cell")], at_ 39, b26⟩
def b27 : List DL.St := [(.ite (.cmp .gt (.idx (.var 0) (.int 0)) (.int 0)) [(.asg (.tup [(.sub (.var 0) (.int 0)), (.name 2)]) (.bi .divmod [(.idx (.var 0) (.int 0)), (.var 1)])), (.ret (.var 2))] []), (.asg (.sub (.var 0) (.int 1)) (.bin .mod (.bi .int [(.bin .add (.bin .mul (.idx (.var 0) (.int 1)) (.int 6364136223846793005)) (.int 1442695040888963407))]) (.int 4611686018427387847))), (.ret (.bin .mod (.bi .int [(.bin .fdiv (.idx (.var 0) (.int 1)) (.int 2097152))]) (.var 1)))]
abbrev d27 : Dn := ⟨(Str.ofString "_law_haul"), [(Str.ofString "well"), (Str.ofString "many")], [(Str.ofString "well"), (Str.ofString "many"), (Str.ofString "told")], at_ 40, b27⟩
def b28 : List DL.St := [(.ret (.idx (.var 1) (.call 27 [(.var 0), (.bi .len [(.var 1)])])))]
abbrev d28 : Dn := ⟨(Str.ofString "_law_of"), [(Str.ofString "well"), (Str.ofString "things")], [(Str.ofString "well"), (Str.ofString "things")], at_ 41, b28⟩
def b29 : List DL.St := [(.ite (.isi (.var 1) [.tuple]) [(.ret (.and_ (.isi (.var 0) [.tuple]) (.and_ (.cmp .eq (.bi .len [(.var 0)]) (.bi .len [(.var 1)])) (.cmp .nin (.bl false) (.lc (.call 29 [(.var 2), (.var 3)]) (.tup [(.name 2), (.name 3)]) (.zip (.var 0) (.var 1)) [] [2, 3])))))] []), (.ite (.or_ (.cmp .is_ (.var 1) .non) (.isi (.var 1) [.bool])) [(.ret (.ife (.cmp .is_ (.var 1) .non) (.cmp .is_ (.var 0) .non) (.and_ (.isi (.var 0) [.bool]) (.cmp .eq (.var 0) (.var 1)))))] []), (.ite (.isi (.var 1) [.int]) [(.ret (.and_ (.isi (.var 0) [.int]) (.and_ (.nt (.isi (.var 0) [.bool])) (.cmp .eq (.var 0) (.var 1)))))] []), (.ret (.and_ (.isi (.var 0) [.str]) (.and_ (.isi (.var 1) [.str]) (.cmp .eq (.var 0) (.var 1)))))]
abbrev d29 : Dn := ⟨(Str.ofString "_law_twin"), [(Str.ofString "told"), (Str.ofString "due")], [(Str.ofString "told"), (Str.ofString "due"), (Str.ofString "one"), (Str.ofString "two")], at_ 42, b29⟩
def b30 : List DL.St := [(.asg (.tup [(.name 0), (.name 1)]) (.tup [(.bi .abs [(.var 0)]), (.bi .abs [(.var 1)])])), (.for_ (.name 2) (.range [(.bin .add (.bin .mul (.int 2) (.bin .add (.meth .bits (.var 0) []) (.meth .bits (.var 1) []))) (.int 2))]) [(.asg (.tup [(.name 0), (.name 1)]) (.ife (.cmp .gt (.var 1) (.int 0)) (.tup [(.var 1), (.bin .mod (.bi .int [(.var 0)]) (.var 1))]) (.tup [(.var 0), (.int 0)])))]), (.ret (.var 0))]
abbrev d30 : Dn := ⟨(Str.ofString "_law_common"), [(Str.ofString "one"), (Str.ofString "two")], [(Str.ofString "one"), (Str.ofString "two"), (Str.ofString "lap")], at_ 43, b30⟩
def b31 : List DL.St := [(.asg (.name 2) (.ife (.cmp .gt (.var 1) (.int 0)) (.call 30 [(.var 0), (.var 1)]) (.bin .sub (.int 0) (.call 30 [(.var 0), (.var 1)])))), (.ret (.tup [(.bin .fdiv (.var 0) (.var 2)), (.bin .fdiv (.var 1) (.var 2))]))]
abbrev d31 : Dn := ⟨(Str.ofString "_law_share"), [(Str.ofString "top"), (Str.ofString "low")], [(Str.ofString "top"), (Str.ofString "low"), (Str.ofString "both")], at_ 44, b31⟩
def b32 : List DL.St := [(.ret (.call 31 [(.bin .add (.bin .mul (.idx (.var 0) (.int 0)) (.idx (.var 1) (.int 1))) (.bin .mul (.idx (.var 1) (.int 0)) (.idx (.var 0) (.int 1)))), (.bin .mul (.idx (.var 0) (.int 1)) (.idx (.var 1) (.int 1)))]))]
abbrev d32 : Dn := ⟨(Str.ofString "_law_put"), [(Str.ofString "one"), (Str.ofString "two")], [(Str.ofString "one"), (Str.ofString "two")], at_ 45, b32⟩
def b33 : List DL.St := [(.ret (.call 31 [(.bin .mul (.idx (.var 0) (.int 0)) (.idx (.var 1) (.int 0))), (.bin .mul (.idx (.var 0) (.int 1)) (.idx (.var 1) (.int 1)))]))]
abbrev d33 : Dn := ⟨(Str.ofString "_law_by"), [(Str.ofString "one"), (Str.ofString "two")], [(Str.ofString "one"), (Str.ofString "two")], at_ 46, b33⟩
def b34 : List DL.St := [(.ret (.call 31 [(.bin .sub (.call 27 [(.var 0), (.int 13)]) (.int 6)), (.call 28 [(.var 0), (.tup [(.int 1), (.int 1), (.int 1), (.int 2), (.int 3), (.int 4)])])]))]
abbrev d34 : Dn := ⟨(Str.ofString "_law_drawn_share"), [(Str.ofString "well")], [(Str.ofString "well")], at_ 47, b34⟩
def b35 : List DL.St := [(.asg (.name 1) (.bi .list [(.var 0)])), (.for_ (.name 2) (.range [(.bi .len [(.var 1)])]) [(.ite (.cmp .eq (.slc (.var 1) [(.neg (.int 1))] []) (.lst [(.tup [(.int 0), (.int 1)])])) [(.expr (.meth .pop (.var 1) []))] [])]), (.ret (.bi .tuple [(.var 1)]))]
abbrev d35 : Dn := ⟨(Str.ofString "_law_cut"), [(Str.ofString "numbers")], [(Str.ofString "numbers"), (Str.ofString "found"), (Str.ofString "lap")], at_ 48, b35⟩
def b36 : List DL.St := [(.ret (.ife (.cmp2 .lt .lt (.neg (.int 1)) (.var 1) (.bi .len [(.var 0)])) (.idx (.var 0) (.var 1)) (.tup [(.int 0), (.int 1)])))]
abbrev d36 : Dn := ⟨(Str.ofString "_law_number"), [(Str.ofString "poly"), (Str.ofString "power")], [(Str.ofString "poly"), (Str.ofString "power")], at_ 49, b36⟩
def b37 : List DL.St := [(.ret (.call 35 [(.lc (.call 32 [(.call 36 [(.var 0), (.var 3)]), (.call 33 [(.var 2), (.call 36 [(.var 1), (.var 3)])])]) (.name 3) (.range [(.bi .max [(.bi .len [(.var 0)]), (.bi .len [(.var 1)])])]) [] [3])]))]
abbrev d37 : Dn := ⟨(Str.ofString "_law_mixed"), [(Str.ofString "one"), (Str.ofString "two"), (Str.ofString "by")], [(Str.ofString "one"), (Str.ofString "two"), (Str.ofString "by"), (Str.ofString "power")], at_ 50, b37⟩
def b38 : List DL.St := [(.asg (.name 2) (.bin .mul (.lst [(.tup [(.int 0), (.int 1)])]) (.bin .add (.bi .len [(.var 0)]) (.bi .len [(.var 1)])))), (.for_ (.tup [(.name 3), (.name 4)]) (.enum (.var 0)) [(.for_ (.tup [(.name 5), (.name 6)]) (.enum (.var 1)) [(.asg (.sub (.var 2) (.bin .add (.var 3) (.var 5))) (.call 32 [(.idx (.var 2) (.bin .add (.var 3) (.var 5))), (.call 33 [(.var 4), (.var 6)])]))])]), (.ret (.call 35 [(.var 2)]))]
abbrev d38 : Dn := ⟨(Str.ofString "_law_product"), [(Str.ofString "one"), (Str.ofString "two")], [(Str.ofString "one"), (Str.ofString "two"), (Str.ofString "found"), (Str.ofString "at"), (Str.ofString "first"), (Str.ofString "to"), (Str.ofString "last")], at_ 51, b38⟩
def b39 : List DL.St := [(.asg (.name 2) (.tup [(.int 0), (.int 1)])), (.for_ (.name 3) (.seq (.rev (.var 0))) [(.asg (.name 2) (.call 32 [(.call 33 [(.var 2), (.var 1)]), (.var 3)]))]), (.ret (.var 2))]
abbrev d39 : Dn := ⟨(Str.ofString "_law_worth"), [(Str.ofString "poly"), (Str.ofString "share")], [(Str.ofString "poly"), (Str.ofString "share"), (Str.ofString "found"), (Str.ofString "number")], at_ 52, b39⟩
def b40 : List DL.St := [(.asg (.name 2) (.call 27 [(.var 0), (.int 9)])), (.ite (.cmp .eq (.var 2) (.int 0)) [(.ret (.tup []))] []), (.ret (.call 35 [(.lc (.call 28 [(.var 0), (.tup [(.call 34 [(.var 0)]), (.tup [(.int 0), (.int 1)]), (.tup [(.int 1), (.int 1)])])]) (.name 3) (.range [(.bin .add (.int 1) (.call 27 [(.var 0), (.bin .add (.var 1) (.int 1))]))]) [] [3])]))]
abbrev d40 : Dn := ⟨(Str.ofString "_law_drawn_poly"), [(Str.ofString "well"), (Str.ofString "most")], [(Str.ofString "well"), (Str.ofString "most"), (Str.ofString "way"), (Str.ofString "power")], at_ 53, b40⟩
def b41 : List DL.St := [(.ret (.call 31 [(.bin .mul (.idx (.var 0) (.int 0)) (.idx (.var 1) (.int 1))), (.bin .mul (.idx (.var 0) (.int 1)) (.idx (.var 1) (.int 0)))]))]
abbrev d41 : Dn := ⟨(Str.ofString "_law_over"), [(Str.ofString "one"), (Str.ofString "two")], [(Str.ofString "one"), (Str.ofString "two")], at_ 54, b41⟩
def b42 : List DL.St := [(.asg (.tup [(.name 3), (.name 4)]) (.tup [(.bi .list [(.var 0)]), (.bin .mul (.lst [(.tup [(.int 0), (.int 1)])]) (.bi .max [(.int 0), (.bin .add (.bin .sub (.bi .len [(.var 0)]) (.bi .len [(.var 1)])) (.int 1))]))])), (.for_ (.name 2) (.seq (.rev (.lrg false [(.bi .max [(.int 0), (.bin .add (.bin .sub (.bi .len [(.var 0)]) (.bi .len [(.var 1)])) (.int 1))])]))) [(.asg (.name 5) (.call 41 [(.idx (.var 3) (.bin .sub (.bin .add (.var 2) (.bi .len [(.var 1)])) (.int 1))), (.idx (.var 1) (.neg (.int 1)))])), (.asg (.sub (.var 4) (.var 2)) (.var 5)), (.for_ (.tup [(.name 6), (.name 7)]) (.enum (.var 1)) [(.asg (.sub (.var 3) (.bin .add (.var 2) (.var 6))) (.call 32 [(.idx (.var 3) (.bin .add (.var 2) (.var 6))), (.call 33 [(.call 33 [(.tup [(.neg (.int 1)), (.int 1)]), (.var 5)]), (.var 7)])]))])]), (.ret (.tup [(.call 35 [(.var 4)]), (.call 35 [(.var 3)])]))]
abbrev d42 : Dn := ⟨(Str.ofString "_law_divided"), [(Str.ofString "one"), (Str.ofString "two")], [(Str.ofString "one"), (Str.ofString "two"), (Str.ofString "at"), (Str.ofString "left"), (Str.ofString "whole"), (Str.ofString "by"), (Str.ofString "power"), (Str.ofString "number")], at_ 55, b42⟩
def b43 : List DL.St := [(.try_ [(.expr (.call 25 [(.var 0), (.tup [])]))] [⟨[3], some 1, (.lst [(.fld 0 [1, 2, 3])])⟩, ⟨[0, 1, 2, 3], none, (.lst [(.str (PySem.Str.ofString "other"))])⟩]), (.ret (.lst [(.str (PySem.Str.ofString "told"))]))]
abbrev d43 : Dn := ⟨(Str.ofString "_law_refused"), [(Str.ofString "poly")], [(Str.ofString "poly"), (Str.ofString "e")], at_ 56, b43⟩
def b44 : List DL.St := [(.for_ (.name 1) (.range [(.int 16)]) [(.asg (.tup [(.name 12), (.name 3)]) (.tup [(.call 40 [(.var 0), (.int 7)]), (.call 40 [(.var 0), (.call 27 [(.var 0), (.int 6)])])])), (.asg (.name 3) (.ife (.cmp .ne (.var 3) (.tup [])) (.var 3) (.tup [(.tup [(.call 28 [(.var 0), (.tup [(.int 1), (.neg (.int 2)), (.int 3)])]), (.int 1)]), (.tup [(.int 1), (.int 2)])]))), (.asg (.name 4) (.call 42 [(.var 12), (.var 3)])), (.ite (.nt (.call 29 [(.tup [(.call 25 [(.var 12), (.var 3)]), (.callk 25 [] [(.var 3), (.var 12)] [1, 0])]), (.tup [(.var 4), (.var 4)])])) [(.ret (.bl false))] []), (.ite (.or_ (.nt (.call 29 [(.call 23 [(.call 24 [(.idx (.var 4) (.int 0)), (.var 3)]), (.idx (.var 4) (.int 1))]), (.var 12)])) (.or_ (.nt (.cmp .lt (.call 21 [(.idx (.var 4) (.int 1))]) (.call 21 [(.var 3)]))) (.cmp .in_ (.bl false) (.lc (.call 20 [(.var 14)]) (.name 14) (.seq (.var 4)) [] [14])))) [(.ret (.bl false))] []), (.asg (.tup [(.name 13), (.name 5)]) (.tup [(.call 40 [(.var 0), (.int 4)]), (.slc (.call 40 [(.var 0), (.int 4)]) [] [(.bi .max [(.int 0), (.bin .sub (.bi .len [(.var 3)]) (.int 1))])])])), (.asg (.name 5) (.call 35 [(.var 5)])), (.asg (.name 6) (.call 37 [(.call 38 [(.var 13), (.var 3)]), (.var 5), (.tup [(.int 1), (.int 1)])])), (.ite (.nt (.call 29 [(.tup [(.call 25 [(.var 6), (.var 3)]), (.call 25 [(.var 3), (.var 3)]), (.call 25 [(.tup []), (.var 3)])]), (.tup [(.tup [(.var 13), (.var 5)]), (.tup [(.tup [(.tup [(.int 1), (.int 1)])]), (.tup [])]), (.tup [(.tup []), (.tup [])])])])) [(.ret (.bl false))] []), (.asg (.name 7) (.call 28 [(.var 0), (.tup [(.tup [(.int 3), (.int 1)]), (.tup [(.neg (.int 1)), (.int 2)]), (.tup [(.int 7), (.int 5)])])])), (.ite (.nt (.call 29 [(.call 25 [(.var 12), (.tup [(.var 7)])]), (.tup [(.bi .tuple [(.lc (.call 41 [(.var 15), (.var 7)]) (.name 15) (.seq (.var 12)) [] [15])]), (.tup [])])])) [(.ret (.bl false))] []), (.asg (.name 8) (.call 34 [(.var 0)])), (.asg (.name 9) (.idx (.call 25 [(.var 12), (.tup [(.call 33 [(.tup [(.neg (.int 1)), (.int 1)]), (.var 8)]), (.tup [(.int 1), (.int 1)])])]) (.int 1))), (.ite (.or_ (.nt (.call 29 [(.idx (.ife (.cmp .ne (.var 9) (.tup [])) (.var 9) (.tup [(.tup [(.int 0), (.int 1)])])) (.int 0)), (.call 39 [(.var 12), (.var 8)])])) (.cmp .ne (.call 22 [(.var 12), (.var 8)]) (.call 39 [(.var 12), (.var 8)]))) [(.ret (.bl false))] []), (.ite (.cmp .ne (.bi .repr [(.call 43 [(.var 12)])]) (.bi .repr [(.lst [(.tup [])])])) [(.ret (.bl false))] [])]), (.asg (.tup [(.name 10), (.name 11), (.name 12)]) (.tup [(.tup [(.tup [(.int 2), (.int 1)]), (.tup [(.neg (.int 1)), (.int 1)]), (.tup [(.neg (.int 2)), (.int 1)]), (.tup [(.int 1), (.int 1)])]), (.tup [(.tup [(.neg (.int 1)), (.int 1)]), (.tup [(.int 0), (.int 1)]), (.tup [(.int 1), (.int 1)])]), (.tup [(.int 1), (.int 1)])])), (.asg (.name 2) (.tup [(.call 25 [(.var 10), (.var 11)]), (.call 25 [(.var 11), (.var 10)]), (.call 25 [(.var 10), (.tup [(.tup [(.int 0), (.int 1)]), (.tup [(.int 2), (.int 1)])])]), (.call 25 [(.tup [(.var 12)]), (.tup [(.tup [(.neg (.int 2)), (.int 1)])])])])), (.ret (.call 29 [(.var 2), (.tup [(.tup [(.tup [(.tup [(.neg (.int 2)), (.int 1)]), (.var 12)]), (.tup [])]), (.tup [(.tup []), (.var 11)]), (.tup [(.tup [(.tup [(.neg (.int 1)), (.int 2)]), (.tup [(.neg (.int 1)), (.int 1)]), (.tup [(.int 1), (.int 2)])]), (.tup [(.tup [(.int 2), (.int 1)])])]), (.tup [(.tup [(.tup [(.neg (.int 1)), (.int 2)])]), (.tup [])])])]))]
abbrev d44 : Dn := ⟨(Str.ofString "_law_right"), [(Str.ofString "well")], [(Str.ofString "well"), (Str.ofString "lap"), (Str.ofString "told"), (Str.ofString "two"), (Str.ofString "due"), (Str.ofString "rest"), (Str.ofString "both"), (Str.ofString "by"), (Str.ofString "share"), (Str.ofString "left"), (Str.ofString "p"), (Str.ofString "cross"), (Str.ofString "one"), (Str.ofString "whole"), (Str.ofString "each"), (Str.ofString "number")], at_ 57, b44⟩
def b45 : List DL.St := [(.ret (.cmp .nin (.bl false) (.lc (.call 44 [(.call 26 [(.var 0), (.var 1)])]) (.name 1) (.range [(.bi .max [(.int 2), (.bi .min [(.bi .len [(.var 0)]), (.int 3)])])]) [] [1])))]
abbrev d45 : Dn := ⟨(Str.ofString "law"), [(Str.ofString "script")], [(Str.ofString "script"), (Str.ofString "lap")], at_ 58, b45⟩
def T : List Dn := [d0, d1, d2, d3, d4, d5, d6, d7, d8, d9, d10, d11, d12, d13, d14, d15, d16, d17, d18, d19, d20, d21, d22, d23, d24, d25, d26, d27, d28, d29, d30, d31, d32, d33, d34, d35, d36, d37, d38, d39, d40, d41, d42, d43, d44, d45]
def sk : Sk := ⟨[(Str.ofString "len"), (Str.ofString "abs"), (Str.ofString "int"), (Str.ofString "max"), (Str.ofString "min"), (Str.ofString "divmod"), (Str.ofString "tuple"), (Str.ofString "list"), (Str.ofString "bool"), (Str.ofString "all"), (Str.ofString "isinstance"), (Str.ofString "range"), (Str.ofString "enumerate"), (Str.ofString "zip"), (Str.ofString "str"), (Str.ofString "repr")], [((Str.ofString "NOUGHT"), .tup [(.int 0), (.int 1)]), ((Str.ofString "MOST_NUMBERS"), .int 13)], true, [], T, [⟨(Str.ofString "RootError"), [], (Str.ofString "RootError.__init__"), ini 2 0⟩, ⟨(Str.ofString "NotAPoly"), [(Str.ofString "given")], (Str.ofString "NotAPoly.__init__"), ini 3 0⟩, ⟨(Str.ofString "InvalidNumber"), [(Str.ofString "given")], (Str.ofString "InvalidNumber.__init__"), ini 4 0⟩, ⟨(Str.ofString "NotNow"), [(Str.ofString "given")], (Str.ofString "NotNow.__init__"), ini 5 0⟩], 0⟩
theorem tr_ok : (T.map fun d => trSs 60 (d.cxt G) (defBody d.st)) = T.map fun d => some d.body := by kernel_rfl
theorem sc_ok : T.all Dn.scB = true := by kernel_rfl
theorem bn0 : d0.Bnd := fun _ _ _ _ _ _ us hl => match us, hl with | [_], _ => rfl
theorem bn1 : d1.Bnd := fun _ _ _ _ _ _ us hl => match us, hl with | [_, _, _], _ => rfl
theorem bn2 : d2.Bnd := fun _ _ _ _ _ _ us hl => match us, hl with | [_], _ => rfl
theorem bn3 : d3.Bnd := fun _ _ _ _ _ _ us hl => match us, hl with | [_, _, _], _ => rfl
theorem bn4 : d4.Bnd := fun _ _ _ _ _ _ us hl => match us, hl with | [_, _], _ => rfl
theorem bn5 : d5.Bnd := fun _ _ _ _ _ _ us hl => match us, hl with | [_, _], _ => rfl
theorem bn6 : d6.Bnd := fun _ _ _ _ _ _ us hl => match us, hl with | [_, _], _ => rfl
theorem bn7 : d7.Bnd := fun _ _ _ _ _ _ us hl => match us, hl with | [_, _], _ => rfl
theorem bn8 : d8.Bnd := fun _ _ _ _ _ _ us hl => match us, hl with | [_, _], _ => rfl
theorem bn9 : d9.Bnd := fun _ _ _ _ _ _ us hl => match us, hl with | [_], _ => rfl
theorem bn10 : d10.Bnd := fun _ _ _ _ _ _ us hl => match us, hl with | [_], _ => rfl
theorem bn11 : d11.Bnd := fun _ _ _ _ _ _ us hl => match us, hl with | [_], _ => rfl
theorem bn12 : d12.Bnd := fun _ _ _ _ _ _ us hl => match us, hl with | [_, _], _ => rfl
theorem bn13 : d13.Bnd := fun _ _ _ _ _ _ us hl => match us, hl with | [_, _], _ => rfl
theorem bn14 : d14.Bnd := fun _ _ _ _ _ _ us hl => match us, hl with | [_, _], _ => rfl
theorem bn15 : d15.Bnd := fun _ _ _ _ _ _ us hl => match us, hl with | [_, _], _ => rfl
theorem bn16 : d16.Bnd := fun _ _ _ _ _ _ us hl => match us, hl with | [_, _], _ => rfl
theorem bn17 : d17.Bnd := fun _ _ _ _ _ _ us hl => match us, hl with | [_], _ => rfl
theorem bn18 : d18.Bnd := fun _ _ _ _ _ _ us hl => match us, hl with | [_, _], _ => rfl
theorem bn19 : d19.Bnd := fun _ _ _ _ _ _ us hl => match us, hl with | [_], _ => rfl
theorem bn20 : d20.Bnd := fun _ _ _ _ _ _ us hl => match us, hl with | [_], _ => rfl
theorem bn21 : d21.Bnd := fun _ _ _ _ _ _ us hl => match us, hl with | [_], _ => rfl
theorem bn22 : d22.Bnd := fun _ _ _ _ _ _ us hl => match us, hl with | [_, _], _ => rfl
theorem bn23 : d23.Bnd := fun _ _ _ _ _ _ us hl => match us, hl with | [_, _], _ => rfl
theorem bn24 : d24.Bnd := fun _ _ _ _ _ _ us hl => match us, hl with | [_, _], _ => rfl
theorem bn25 : d25.Bnd := fun _ _ _ _ _ _ us hl => match us, hl with | [_, _], _ => rfl
theorem bn26 : d26.Bnd := fun _ _ _ _ _ _ us hl => match us, hl with | [_, _], _ => rfl
theorem bn27 : d27.Bnd := fun _ _ _ _ _ _ us hl => match us, hl with | [_, _], _ => rfl
theorem bn28 : d28.Bnd := fun _ _ _ _ _ _ us hl => match us, hl with | [_, _], _ => rfl
theorem bn29 : d29.Bnd := fun _ _ _ _ _ _ us hl => match us, hl with | [_, _], _ => rfl
theorem bn30 : d30.Bnd := fun _ _ _ _ _ _ us hl => match us, hl with | [_, _], _ => rfl
theorem bn31 : d31.Bnd := fun _ _ _ _ _ _ us hl => match us, hl with | [_, _], _ => rfl
theorem bn32 : d32.Bnd := fun _ _ _ _ _ _ us hl => match us, hl with | [_, _], _ => rfl
theorem bn33 : d33.Bnd := fun _ _ _ _ _ _ us hl => match us, hl with | [_, _], _ => rfl
theorem bn34 : d34.Bnd := fun _ _ _ _ _ _ us hl => match us, hl with | [_], _ => rfl
theorem bn35 : d35.Bnd := fun _ _ _ _ _ _ us hl => match us, hl with | [_], _ => rfl
theorem bn36 : d36.Bnd := fun _ _ _ _ _ _ us hl => match us, hl with | [_, _], _ => rfl
theorem bn37 : d37.Bnd := fun _ _ _ _ _ _ us hl => match us, hl with | [_, _, _], _ => rfl
theorem bn38 : d38.Bnd := fun _ _ _ _ _ _ us hl => match us, hl with | [_, _], _ => rfl
theorem bn39 : d39.Bnd := fun _ _ _ _ _ _ us hl => match us, hl with | [_, _], _ => rfl
theorem bn40 : d40.Bnd := fun _ _ _ _ _ _ us hl => match us, hl with | [_, _], _ => rfl
theorem bn41 : d41.Bnd := fun _ _ _ _ _ _ us hl => match us, hl with | [_, _], _ => rfl
theorem bn42 : d42.Bnd := fun _ _ _ _ _ _ us hl => match us, hl with | [_, _], _ => rfl
theorem bn43 : d43.Bnd := fun _ _ _ _ _ _ us hl => match us, hl with | [_], _ => rfl
theorem bn44 : d44.Bnd := fun _ _ _ _ _ _ us hl => match us, hl with | [_], _ => rfl
theorem bn45 : d45.Bnd := fun _ _ _ _ _ _ us hl => match us, hl with | [_], _ => rfl
theorem kb0 : d25.Kbn ⟨25, 0, [(Str.ofString "other_poly"), (Str.ofString "poly")], [1, 0]⟩ := fun _ _ _ _ _ _ us ws h1 h2 => match us, ws, h1, h2 with | [], [_, _], _, _ => rfl
theorem bn_ok : ∀ d ∈ T, d.Bnd := by
  unfold T
  refine List.forall_mem_cons.mpr ⟨bn0, ?_⟩
  refine List.forall_mem_cons.mpr ⟨bn1, ?_⟩
  refine List.forall_mem_cons.mpr ⟨bn2, ?_⟩
  refine List.forall_mem_cons.mpr ⟨bn3, ?_⟩
  refine List.forall_mem_cons.mpr ⟨bn4, ?_⟩
  refine List.forall_mem_cons.mpr ⟨bn5, ?_⟩
  refine List.forall_mem_cons.mpr ⟨bn6, ?_⟩
  refine List.forall_mem_cons.mpr ⟨bn7, ?_⟩
  refine List.forall_mem_cons.mpr ⟨bn8, ?_⟩
  refine List.forall_mem_cons.mpr ⟨bn9, ?_⟩
  refine List.forall_mem_cons.mpr ⟨bn10, ?_⟩
  refine List.forall_mem_cons.mpr ⟨bn11, ?_⟩
  refine List.forall_mem_cons.mpr ⟨bn12, ?_⟩
  refine List.forall_mem_cons.mpr ⟨bn13, ?_⟩
  refine List.forall_mem_cons.mpr ⟨bn14, ?_⟩
  refine List.forall_mem_cons.mpr ⟨bn15, ?_⟩
  refine List.forall_mem_cons.mpr ⟨bn16, ?_⟩
  refine List.forall_mem_cons.mpr ⟨bn17, ?_⟩
  refine List.forall_mem_cons.mpr ⟨bn18, ?_⟩
  refine List.forall_mem_cons.mpr ⟨bn19, ?_⟩
  refine List.forall_mem_cons.mpr ⟨bn20, ?_⟩
  refine List.forall_mem_cons.mpr ⟨bn21, ?_⟩
  refine List.forall_mem_cons.mpr ⟨bn22, ?_⟩
  refine List.forall_mem_cons.mpr ⟨bn23, ?_⟩
  refine List.forall_mem_cons.mpr ⟨bn24, ?_⟩
  refine List.forall_mem_cons.mpr ⟨bn25, ?_⟩
  refine List.forall_mem_cons.mpr ⟨bn26, ?_⟩
  refine List.forall_mem_cons.mpr ⟨bn27, ?_⟩
  refine List.forall_mem_cons.mpr ⟨bn28, ?_⟩
  refine List.forall_mem_cons.mpr ⟨bn29, ?_⟩
  refine List.forall_mem_cons.mpr ⟨bn30, ?_⟩
  refine List.forall_mem_cons.mpr ⟨bn31, ?_⟩
  refine List.forall_mem_cons.mpr ⟨bn32, ?_⟩
  refine List.forall_mem_cons.mpr ⟨bn33, ?_⟩
  refine List.forall_mem_cons.mpr ⟨bn34, ?_⟩
  refine List.forall_mem_cons.mpr ⟨bn35, ?_⟩
  refine List.forall_mem_cons.mpr ⟨bn36, ?_⟩
  refine List.forall_mem_cons.mpr ⟨bn37, ?_⟩
  refine List.forall_mem_cons.mpr ⟨bn38, ?_⟩
  refine List.forall_mem_cons.mpr ⟨bn39, ?_⟩
  refine List.forall_mem_cons.mpr ⟨bn40, ?_⟩
  refine List.forall_mem_cons.mpr ⟨bn41, ?_⟩
  refine List.forall_mem_cons.mpr ⟨bn42, ?_⟩
  refine List.forall_mem_cons.mpr ⟨bn43, ?_⟩
  refine List.forall_mem_cons.mpr ⟨bn44, ?_⟩
  refine List.forall_mem_cons.mpr ⟨bn45, ?_⟩
  exact fun _ h => by cases h
theorem kb_ok : ∀ q ∈ G.kws, ∀ d, T[q.f]? = some d → d.Kbn q := by
  unfold G
  refine List.forall_mem_cons.mpr ⟨fun d h => by cases (Option.some.inj h); exact kb0, ?_⟩
  exact fun _ h => by cases h
theorem ini_ok : sk.ins.all (fun e => decide (0 < e.fs.length) && (decide (e.fs.length ≤ 2) && (decide e.fs.Nodup && (e.fs.all okName && (e.ini.scB && initB e.fs (defBody e.st)))))) = true := by kernel_rfl
theorem inb_ok : ∀ e ∈ sk.ins, ∀ (kV doc pm : Value) (an : Option Addr) (cdv ct : Value) (us : List Value), us.length = (Str.ofString "self" :: e.fs).length → bindArgs (PySem.W.fnOf (Str.ofString "__init__") e.q (defArgs e.st) (defBody e.st) (defScope e.st) .none kV doc pm an cdv ct) ⟨us, []⟩ = pure ((Str.ofString "self" :: e.fs).zip us) := by
  have e : sk.ins = [⟨(Str.ofString "NotAPoly"), [(Str.ofString "given")], (Str.ofString "NotAPoly.__init__"), ini 3 0⟩, ⟨(Str.ofString "InvalidNumber"), [(Str.ofString "given")], (Str.ofString "InvalidNumber.__init__"), ini 4 0⟩, ⟨(Str.ofString "NotNow"), [(Str.ofString "given")], (Str.ofString "NotNow.__init__"), ini 5 0⟩] := rfl
  rw [e]
  refine List.forall_mem_cons.mpr ⟨fun _ _ _ _ _ _ us hl => (match us, hl with | [_, _], _ => rfl), ?_⟩
  refine List.forall_mem_cons.mpr ⟨fun _ _ _ _ _ _ us hl => (match us, hl with | [_, _], _ => rfl), ?_⟩
  refine List.forall_mem_cons.mpr ⟨fun _ _ _ _ _ _ us hl => (match us, hl with | [_, _], _ => rfl), ?_⟩
  exact fun _ h => by cases h
theorem txt : Txt sk G := ⟨rfl, tr_ok, sc_ok, bn_ok, kb_ok, rfl, rfl, rfl, rfl, rfl, rfl, ini_ok, inb_ok⟩
def lo0 : List Str := [(Str.ofString "__name__"), (Str.ofString "RootError"), (Str.ofString "NotAPoly"), (Str.ofString "InvalidNumber"), (Str.ofString "NotNow"), (Str.ofString "NOUGHT"), (Str.ofString "is_whole"), (Str.ofString "is_tuple_of"), (Str.ofString "is_fraction"), (Str.ofString "are_fractions"), (Str.ofString "fraction"), (Str.ofString "plus"), (Str.ofString "less"), (Str.ofString "times"), (Str.ofString "over"), (Str.ofString "MOST_NUMBERS"), (Str.ofString "is_poly_by"), (Str.ofString "lessened"), (Str.ofString "degree_of"), (Str.ofString "padded"), (Str.ofString "sum_by"), (Str.ofString "product_by"), (Str.ofString "worth_of"), (Str.ofString "divided_by"), (Str.ofString "check_poly"), (Str.ofString "check_polys"), (Str.ofString "check_share"), (Str.ofString "is_poly"), (Str.ofString "degree"), (Str.ofString "worth")]
def lo1 : List Str := [(Str.ofString "poly_sum"), (Str.ofString "poly_times"), (Str.ofString "divided"), (Str.ofString "_law_well"), (Str.ofString "_law_haul"), (Str.ofString "_law_of"), (Str.ofString "_law_twin"), (Str.ofString "_law_common"), (Str.ofString "_law_share"), (Str.ofString "_law_put"), (Str.ofString "_law_by"), (Str.ofString "_law_drawn_share"), (Str.ofString "_law_cut"), (Str.ofString "_law_number"), (Str.ofString "_law_mixed"), (Str.ofString "_law_product"), (Str.ofString "_law_worth"), (Str.ofString "_law_drawn_poly"), (Str.ofString "_law_over"), (Str.ofString "_law_divided"), (Str.ofString "_law_refused"), (Str.ofString "_law_right")]
def loose : List Str := lo0 ++ (lo1)
abbrev Rw : PySem.W.OpenRow := PySem.W.OpenLaw.row PySem.Challenge.rw_straightroots_k14_main_whole_divided
abbrev hk : PySem.W.Hook := sk.hook 5
def ob (s : PySem.W.SharedT) : He.AlD := sk.obsG 5 (HandSHeadRun.getT s)
theorem ob_eq (s : PySem.W.SharedT) : ob s = hk.obs s.abs := Sk.obsG_eq (HandSHeadRun.getT_eq s)
theorem hrun (w : World) : HandSHeadRun.RunEqI Rw (PySem.W.view Rw.prog [0, 58]) hk ob 6000 loose w := by
  unfold HandSHeadRun.RunEqI
  kernel_rfl
theorem fin (DEEP N : Nat) (hr : Room (DEEP + 2) callerA) (law : ∀ ns : List Int, ns.length ≤ 63 → ∃ S', run (sk.T.map Dn.fn) (sk.cs.map (·.2)) N DEEP 45 [.fz (ns.map .int)] [] = .ok (.bl true) S') : row.Holds := by
  w_on; o_law
  refine HandSHeadRun.head_imp (r := Rw) (q := PySem.W.view Rw.prog [0, 58]) (H := hk) (ob := ob) (M := 6000) (loose := loose) (d := HandSHeadRun.topDef Rw.prog 58) (kwd := []) ob_eq
    hrun (by kernel_rfl) (by kernel_rfl) (by rfl) (by decide +kernel) (by decide +kernel) (by decide +kernel) ⟨rfl, rfl, rfl, rfl, rfl, by decide +kernel⟩ ?hw ?hc
  case hw => w_witness2
  case hc => exact walk_run txt (l := row) (n := 63) (k := DEEP) (m := 5) (N := N) (i0 := 45) (d0 := d45) (x := Str.ofString "script") rfl rfl (by kernel_rfl) rfl (by decide) (by kernel_rfl) hr law
end k14
-- law at 58, index 45

end
section
set_option maxHeartbeats 1000000
namespace k14
open DL
open PySem (Str)
abbrev TT : List Fn := T.map Dn.fn
abbrev CC : List D := sk.cs.map (·.2)
theorem c_NOUGHT : CC[0]? = some (fr 0) := rfl
theorem c_MOST_NUMBERS : CC[1]? = some (.int 13) := rfl
section
variable {N k : Nat} {S : Store}
theorem t_is_whole : TT[0]? = some (fnIsWhole) := rfl
theorem t_is_tuple_of : TT[1]? = some (fnIsTupleOf) := rfl
theorem t_is_fraction : TT[2]? = some (fnIsFraction 0 1) := rfl
theorem t_are_fractions : TT[3]? = some (fnAreFractions 1 2) := rfl
theorem t_fraction : TT[4]? = some (fnFraction) := rfl
theorem z_fraction (hk : 1 ≤ k) : FracZ TT CC N k 4 := fraction_fracZ t_fraction hk
theorem s_fraction (hk : 1 ≤ k) : FracS TT CC N k 4 := fraction_frac t_fraction hk
theorem t_plus : TT[5]? = some (fnPlus 4) := rfl
theorem s_plus (hk : 2 ≤ k) : PlusS TT CC N k 5 := plus_s t_plus (s_fraction (by omega)) (by omega)
theorem t_less : TT[6]? = some (fnLess 4) := rfl
theorem s_less (hk : 2 ≤ k) : LessS TT CC N k 6 := less_s t_less (s_fraction (by omega)) (by omega)
theorem t_times : TT[7]? = some (fnTimes 4) := rfl
theorem s_times (hk : 2 ≤ k) : TimesS TT CC N k 7 := times_s t_times (s_fraction (by omega)) (by omega)
theorem t_over : TT[8]? = some (fnOver 4) := rfl
theorem s_over (hk : 2 ≤ k) : OverS TT CC N k 8 := over_s t_over (z_fraction (by omega)) (by omega)
theorem t_is_poly_by : TT[9]? = some (fnIsPolyBy 3 1 0) := rfl
theorem s_is_poly_by (hk : 4 ≤ k) {p : List Rat} (h : Pl p) : run TT CC N k 9 [pl p] S = .ok (.bl true) S := isPolyBy_pl t_is_poly_by c_MOST_NUMBERS c_NOUGHT t_are_fractions t_is_tuple_of t_is_fraction t_is_whole hk ⟨h.nm, h.len⟩
theorem t_lessened : TT[10]? = some (fnLessened 0) := rfl
theorem t_degree_of : TT[11]? = some (fnDegreeOf) := rfl
theorem t_padded : TT[12]? = some (fnPadded 0) := rfl
theorem t_sum_by : TT[13]? = some (fnSumBy 10 5 12) := rfl
theorem s_sum_by (hk : 3 ≤ k) (hN : 50 < N) {p q : List Rat} (h : POk p) (h' : POk q) (l1 : p.length ≤ 13) (l2 : q.length ≤ 13) : run TT CC N k 13 [pl p, pl q] S = .ok (pl (lin p q 1)) S := sumBy_pl t_sum_by t_lessened t_padded c_NOUGHT (s_plus (by omega)) (by omega) p q h h' (by omega) (by omega)
theorem t_product_by : TT[14]? = some (fnProductBy 0 5 7 10) := rfl
theorem s_product_by (hk : 3 ≤ k) (hN : 50 < N) {p q : List Rat} {D E B B' : Nat} (b : MulB p q D E B B') (l1 : p.length ≤ 14) (l2 : q.length ≤ 14) : run TT CC N k 14 [pl p, pl q] S = .ok (pl (pmul p q)) S := productBy_pl t_product_by c_NOUGHT t_lessened (s_plus (by omega)) (s_times (by omega)) (by omega) b (by omega) (by omega)
theorem t_worth_of : TT[15]? = some (fnWorthOf 0 5 7) := rfl
theorem t_divided_by : TT[16]? = some (fnDividedBy 0 8 6 7 10) := rfl
theorem s_divided_by (hk : 3 ≤ k) (hN : 50 < N) {a b : List Rat} (d : DvOk a b) : run TT CC N k 16 [pl a, pl b] S = .ok (.tup [pl (pdiv a b).1, pl (pdiv a b).2]) S := dividedBy_pl t_divided_by c_NOUGHT t_lessened (s_over (by omega)) (s_less (by omega)) (s_times (by omega)) (by omega) d hN
theorem t_check_poly : TT[17]? = some (fnChk 9 [(.raise 1 [(.var 0)])]) := rfl
theorem s_check_poly (hk : 5 ≤ k) {p : List Rat} (h : Pl p) : run TT CC N k 17 [pl p] S = .ok .non S := chk_ok t_check_poly (by omega) fun S => s_is_poly_by (by omega) h
theorem t_check_polys : TT[18]? = some (fnCheck2 17 17) := rfl
theorem s_check_polys (hk : 6 ≤ k) {p q : List Rat} (h : Pl p) (h' : Pl q) : run TT CC N k 18 [pl p, pl q] S = .ok .non S := check2_ok t_check_polys (by omega) (fun S => s_check_poly (by omega) h) fun S => s_check_poly (by omega) h'
theorem t_check_share : TT[19]? = some (fnChk 2 [(.raise 2 [(.var 0)])]) := rfl
theorem s_check_share (hk : 3 ≤ k) (x : Rat) : run TT CC N k 19 [fr x] S = .ok .non S := chk_ok t_check_share (by omega) fun S => isFraction_fr t_is_fraction t_is_whole t_is_tuple_of (by omega) x
theorem t_is_poly : TT[20]? = some (fnVia1 9) := rfl
theorem s_is_poly (hk : 5 ≤ k) {p : List Rat} (h : Pl p) : run TT CC N k 20 [pl p] S = .ok (.bl true) S := via1_ok t_is_poly (by omega) fun S => s_is_poly_by (by omega) h
theorem t_degree : TT[21]? = some (fnSeq1 17 11) := rfl
theorem s_degree (hk : 6 ≤ k) {p : List Rat} (h : Pl p) : run TT CC N k 21 [pl p] S = .ok (.int ((p.length : Int) - 1)) S := seq1_ok t_degree (by omega) (fun S => s_check_poly (by omega) h) fun S => degreeOf_pl t_degree_of (by omega) p
theorem t_worth : TT[22]? = some (fnSeq3 17 19 15) := rfl
theorem s_worth (hk : 6 ≤ k) {p : List Rat} {x : Rat} (h : Pl p) (hw : WOk p x) : run TT CC N k 22 [pl p, fr x] S = .ok (fr (worth p x)) S := seq3_ok t_worth (by omega) (fun S => s_check_poly (by omega) h) (fun S => s_check_share (by omega) x) fun S => worthOf_pl t_worth_of c_NOUGHT (s_plus (by omega)) (s_times (by omega)) (by omega) hw h.ok
theorem t_poly_sum : TT[23]? = some (fnSeq2 18 13) := rfl
theorem s_poly_sum (hk : 7 ≤ k) (hN : 50 < N) {p q : List Rat} (h : Pl p) (h' : Pl q) : run TT CC N k 23 [pl p, pl q] S = .ok (pl (lin p q 1)) S := seq2_ok t_poly_sum (by omega) (fun S => s_check_polys (by omega) h h') fun S => s_sum_by (by omega) hN h.ok h'.ok h.len h'.len
theorem t_poly_times : TT[24]? = some (fnPolyTimesZ 18 14 1 [(.raise 3 [(.var 1)])]) := rfl
theorem s_poly_times (hk : 7 ≤ k) (hN : 50 < N) {p q : List Rat} (h : Pl p) (h' : Pl q) (b : ∃ D E B B', MulB p q D E B B') (hl : (pmul p q).length ≤ 13) : run TT CC N k 24 [pl p, pl q] S = .ok (pl (pmul p q)) S := by
  obtain ⟨D, E, B, B', b⟩ := b
  exact polyTimesZ_ok t_poly_times c_MOST_NUMBERS (by omega) hl (fun S => s_check_polys (by omega) h h') fun S => s_product_by (by omega) hN b (by have := h.len; omega) (by have := h'.len; omega)
theorem t_divided : TT[25]? = some (fnDivided 18 16 [(.raise 3 [(.var 1)])]) := rfl
theorem s_divided (hk : 7 ≤ k) (hN : 50 < N) {a b : List Rat} (h : Pl a) (h' : Pl b) (d : DvOk a b) : run TT CC N k 25 [pl a, pl b] S = .ok (.tup [pl (pdiv a b).1, pl (pdiv a b).2]) S := divided_ok t_divided (by omega) d.hb (fun S => s_check_polys (by omega) h h') fun S => s_divided_by (by omega) hN d
theorem s_divided_nil (hk : 7 ≤ k) {a : List Rat} (h : Pl a) : run TT CC N k 25 [pl a, .tup []] S = .ex 3 [.tup []] S := divided_nil t_divided (by omega) fun S => s_check_polys (by omega) h ⟨.inl rfl, by decide, fun i => by rw [cf_nil]; exact ok_zero⟩
theorem t__law_well : TT[26]? = some (fnWell 869 61175) := rfl
theorem t__law_haul : TT[27]? = some (fnHaul) := rfl
theorem s__law_haul {n : Nat} {K : D → Store → Prop} {E : Nat → List D → Store → Prop} (hk : 1 ≤ k) (hw : Wl S n) (m : Int) (h1 : 0 < m) (h2 : m < 2 ^ 62) (h : ∀ r S', 0 ≤ r → r < m → Ch n S S' → S'.length = S.length → K (.int r) S') : R.wp (run TT CC N k 27 [.ref n, .int m] S) K E := by
  obtain ⟨r, S', e, r0, r1, c, l⟩ := haul_ok (C := CC) (N := N) (k := k) t__law_haul hk hw m h1 h2
  exact wp_of e (h r S' r0 r1 c l)
theorem t__law_of : TT[28]? = some (fnOf 27) := rfl
theorem s__law_of {n : Nat} {K : D → Store → Prop} {E : Nat → List D → Store → Prop} (hk : 2 ≤ k) (hw : Wl S n) (l : List D) (h1 : l ≠ []) (h2 : l.length ≤ 1000) (h : ∀ d S', d ∈ l → Ch n S S' → S'.length = S.length → K d S') : R.wp (run TT CC N k 28 [.ref n, .tup l] S) K E := by
  obtain ⟨d, S', hd, e, c, ls⟩ := of_ok (C := CC) (N := N) (k := k) t__law_of t__law_haul hk hw l h1 h2
  exact wp_of e (h d S' hd c ls)
theorem t__law_twin : TT[29]? = some (fnTwin 29) := rfl
theorem s__law_twinL (hk : 20 ≤ k) {l : List D} (hl : l.length ≤ 1000) (hg : ∀ d ∈ l, Gd d) : run TT CC N k 29 [.tup l, .tup l] S = .ok (.bl true) S := twin_list t__law_twin hk hl hg
theorem s__law_twin (hk : 20 ≤ k) {d : D} (h : num 12 d = true) (h' : D.thin d = true) : run TT CC N k 29 [d, d] S = .ok (.bl true) S := twin_same t__law_twin 12 k d S (by omega) h h'
theorem t__law_common : TT[30]? = some (fnCommon) := rfl
theorem t__law_share : TT[31]? = some (fnShare 30) := rfl
theorem z__law_share (hk : 2 ≤ k) : FracZ TT CC N k 31 := share_fracZ t__law_share t__law_common hk
theorem s__law_share (hk : 2 ≤ k) : FracS TT CC N k 31 := share_frac t__law_share t__law_common hk
theorem t__law_put : TT[32]? = some (fnPlus 31) := rfl
theorem s__law_put (hk : 3 ≤ k) : PlusS TT CC N k 32 := plus_s t__law_put (s__law_share (by omega)) (by omega)
theorem t__law_by : TT[33]? = some (fnTimes 31) := rfl
theorem s__law_by (hk : 3 ≤ k) : TimesS TT CC N k 33 := times_s t__law_by (s__law_share (by omega)) (by omega)
theorem t__law_drawn_share : TT[34]? = some (fnDrawnShare 31 27 28) := rfl
theorem s__law_drawn_share {n : Nat} {K : D → Store → Prop} {E : Nat → List D → Store → Prop} (hk : 3 ≤ k) (hw : Wl S n) (h : ∀ q S', In 12 72 q → Ch n S S' → S'.length = S.length → K (fr q) S') : R.wp (run TT CC N k 34 [.ref n] S) K E := by
  obtain ⟨q, S', iq, e, c, l⟩ := drawnShare_ok (C := CC) (N := N) (k := k) t__law_drawn_share (s__law_share (by omega)) t__law_haul t__law_of (by omega) hw
  exact wp_of e (h q S' iq c l)
theorem t__law_cut : TT[35]? = some (fnCut) := rfl
theorem t__law_number : TT[36]? = some (fnNumber) := rfl
theorem t__law_mixed : TT[37]? = some (fnMixed 35 32 33 36) := rfl
theorem s__law_mixed (hk : 4 ≤ k) {p q : List Rat} {c : Rat} (hp : POk p) (hq : POk q) (hc : Ok c) (hcq : ∀ i, Ok (c * cf q i)) (hs : max p.length q.length ≤ 1000) : run TT CC N k 37 [pl p, pl q, fr c] S = .ok (pl (lin p q c)) S := mixed_ok t__law_mixed t__law_cut (s__law_put (by omega)) (s__law_by (by omega)) t__law_number (by omega) hp hq hc hcq hs
theorem t__law_product : TT[38]? = some (fnLProduct 32 33 35) := rfl
theorem s__law_product (hk : 4 ≤ k) {p q : List Rat} (b : ∃ D E B B', MulB p q D E B B') (hs : p.length + q.length ≤ 1000) : run TT CC N k 38 [pl p, pl q] S = .ok (pl (pmul p q)) S := by
  obtain ⟨D, E, B, B', b⟩ := b
  exact lproduct_ok t__law_product t__law_cut (s__law_put (by omega)) (s__law_by (by omega)) (by omega) b hs
theorem t__law_worth : TT[39]? = some (fnLWorth 32 33) := rfl
theorem s__law_worth (hk : 4 ≤ k) {p : List Rat} {x : Rat} (hw : WOk p x) (hp : POk p) : run TT CC N k 39 [pl p, fr x] S = .ok (fr (worth p x)) S := lworth_ok t__law_worth (s__law_put (by omega)) (s__law_by (by omega)) (by omega) hw hp
theorem t__law_drawn_poly : TT[40]? = some (fnDrawnPoly 27 35 28 34) := rfl
theorem s__law_drawn_poly {n : Nat} {K : D → Store → Prop} {E : Nat → List D → Store → Prop} (hk : 4 ≤ k) (hw : Wl S n) (most : Nat) (hm : most ≤ 100) (h : ∀ p S', Nm p → p.length ≤ most + 1 → PIn 12 72 p → Ch n S S' → K (pl p) S') : R.wp (run TT CC N k 40 [.ref n, .int (most : Nat)] S) K E := by
  obtain ⟨p, S', e, a1, a2, a3, c⟩ := drawnPoly_ok (C := CC) (N := N) (k := k) t__law_drawn_poly t__law_haul t__law_cut t__law_of t__law_drawn_share (s__law_share (by omega)) (by omega) hw most hm
  exact wp_of e (h p S' a1 a2 a3 c)
theorem t__law_over : TT[41]? = some (fnOver 31) := rfl
theorem s__law_over (hk : 3 ≤ k) : OverS TT CC N k 41 := over_s t__law_over (z__law_share (by omega)) (by omega)
theorem t__law_divided : TT[42]? = some (fnLDivided 41 32 33 35) := rfl
theorem s__law_divided (hk : 4 ≤ k) {a b : List Rat} (d : DvOk a b) : run TT CC N k 42 [pl a, pl b] S = .ok (.tup [pl (pdiv a b).1, pl (pdiv a b).2]) S := ldivided_pl t__law_divided t__law_cut (s__law_over (by omega)) (s__law_put (by omega)) (s__law_by (by omega)) (by omega) d
end
end k14

end
section
set_option maxHeartbeats 1000000
namespace k14
open DL
open PySem (Str)
def q1_1 : DL.St := (.asg (.tup [(.name 12), (.name 3)]) (.tup [(.call 40 [(.var 0), (.int 7)]), (.call 40 [(.var 0), (.call 27 [(.var 0), (.int 6)])])]))
def q1_2 : DL.St := (.asg (.name 3) (.ife (.cmp .ne (.var 3) (.tup [])) (.var 3) (.tup [(.tup [(.call 28 [(.var 0), (.tup [(.int 1), (.neg (.int 2)), (.int 3)])]), (.int 1)]), (.tup [(.int 1), (.int 2)])])))
def q1_3 : DL.St := (.asg (.name 4) (.call 42 [(.var 12), (.var 3)]))
def q1_4 : DL.St := (.ite (.nt (.call 29 [(.tup [(.call 25 [(.var 12), (.var 3)]), (.callk 25 [] [(.var 3), (.var 12)] [1, 0])]), (.tup [(.var 4), (.var 4)])])) [(.ret (.bl false))] [])
def q1_5 : DL.St := (.ite (.or_ (.nt (.call 29 [(.call 23 [(.call 24 [(.idx (.var 4) (.int 0)), (.var 3)]), (.idx (.var 4) (.int 1))]), (.var 12)])) (.or_ (.nt (.cmp .lt (.call 21 [(.idx (.var 4) (.int 1))]) (.call 21 [(.var 3)]))) (.cmp .in_ (.bl false) (.lc (.call 20 [(.var 14)]) (.name 14) (.seq (.var 4)) [] [14])))) [(.ret (.bl false))] [])
def q1_6 : DL.St := (.asg (.tup [(.name 13), (.name 5)]) (.tup [(.call 40 [(.var 0), (.int 4)]), (.slc (.call 40 [(.var 0), (.int 4)]) [] [(.bi .max [(.int 0), (.bin .sub (.bi .len [(.var 3)]) (.int 1))])])]))
def q1_7 : DL.St := (.asg (.name 5) (.call 35 [(.var 5)]))
def q1_8 : DL.St := (.asg (.name 6) (.call 37 [(.call 38 [(.var 13), (.var 3)]), (.var 5), (.tup [(.int 1), (.int 1)])]))
def q1_9 : DL.St := (.ite (.nt (.call 29 [(.tup [(.call 25 [(.var 6), (.var 3)]), (.call 25 [(.var 3), (.var 3)]), (.call 25 [(.tup []), (.var 3)])]), (.tup [(.tup [(.var 13), (.var 5)]), (.tup [(.tup [(.tup [(.int 1), (.int 1)])]), (.tup [])]), (.tup [(.tup []), (.tup [])])])])) [(.ret (.bl false))] [])
def q1_10 : DL.St := (.asg (.name 7) (.call 28 [(.var 0), (.tup [(.tup [(.int 3), (.int 1)]), (.tup [(.neg (.int 1)), (.int 2)]), (.tup [(.int 7), (.int 5)])])]))
def q1_11 : DL.St := (.ite (.nt (.call 29 [(.call 25 [(.var 12), (.tup [(.var 7)])]), (.tup [(.bi .tuple [(.lc (.call 41 [(.var 15), (.var 7)]) (.name 15) (.seq (.var 12)) [] [15])]), (.tup [])])])) [(.ret (.bl false))] [])
def q1_12 : DL.St := (.asg (.name 8) (.call 34 [(.var 0)]))
def q1_13 : DL.St := (.asg (.name 9) (.idx (.call 25 [(.var 12), (.tup [(.call 33 [(.tup [(.neg (.int 1)), (.int 1)]), (.var 8)]), (.tup [(.int 1), (.int 1)])])]) (.int 1)))
def q1_14 : DL.St := (.ite (.or_ (.nt (.call 29 [(.idx (.ife (.cmp .ne (.var 9) (.tup [])) (.var 9) (.tup [(.tup [(.int 0), (.int 1)])])) (.int 0)), (.call 39 [(.var 12), (.var 8)])])) (.cmp .ne (.call 22 [(.var 12), (.var 8)]) (.call 39 [(.var 12), (.var 8)]))) [(.ret (.bl false))] [])
def q1_15 : DL.St := (.ite (.cmp .ne (.bi .repr [(.call 43 [(.var 12)])]) (.bi .repr [(.lst [(.tup [])])])) [(.ret (.bl false))] [])
def q1B : List DL.St := [q1_1, q1_2, q1_3, q1_4, q1_5, q1_6, q1_7, q1_8, q1_9, q1_10, q1_11, q1_12, q1_13, q1_14, q1_15]
def q1 : DL.St := .for_ (.name 1) (.range [(.int 16)]) q1B
def q2 : DL.St := (.asg (.tup [(.name 10), (.name 11), (.name 12)]) (.tup [(.tup [(.tup [(.int 2), (.int 1)]), (.tup [(.neg (.int 1)), (.int 1)]), (.tup [(.neg (.int 2)), (.int 1)]), (.tup [(.int 1), (.int 1)])]), (.tup [(.tup [(.neg (.int 1)), (.int 1)]), (.tup [(.int 0), (.int 1)]), (.tup [(.int 1), (.int 1)])]), (.tup [(.int 1), (.int 1)])]))
def q3 : DL.St := (.asg (.name 2) (.tup [(.call 25 [(.var 10), (.var 11)]), (.call 25 [(.var 11), (.var 10)]), (.call 25 [(.var 10), (.tup [(.tup [(.int 0), (.int 1)]), (.tup [(.int 2), (.int 1)])])]), (.call 25 [(.tup [(.var 12)]), (.tup [(.tup [(.neg (.int 2)), (.int 1)])])])]))
def q4 : DL.St := (.ret (.call 29 [(.var 2), (.tup [(.tup [(.tup [(.tup [(.neg (.int 2)), (.int 1)]), (.var 12)]), (.tup [])]), (.tup [(.tup []), (.var 11)]), (.tup [(.tup [(.tup [(.neg (.int 1)), (.int 2)]), (.tup [(.neg (.int 1)), (.int 1)]), (.tup [(.int 1), (.int 2)])]), (.tup [(.tup [(.int 2), (.int 1)])])]), (.tup [(.tup [(.tup [(.neg (.int 1)), (.int 2)])]), (.tup [])])])]))
theorem b44_eq : b44 = [q1, q2, q3, q4] := rfl
end k14

end
section
set_option maxHeartbeats 4000000
/-! # DL: small helps -/
namespace DL
section
variable {T : List Fn} {C : List D} {N k f : Nat} {S : Store}
theorem cut_pl (h : T[f]? = some fnCut) (hk : 1 ≤ k) (p : List Rat) (hl : p.length ≤ 1000000) : run T C N k f [pl p] S = .ok (pl (trim p)) S := by
  rw [run_s h hk rfl]
  have e1 : biD .list [pl p] S = .ok (.ref S.length) (S ++ [p.map fr]) := rfl
  obtain ⟨S', e2', r1, r2, r3, r4⟩ := cut_loop (F := run T C N (k - 1)) (C := C) (N := N) (p := p) (n := S.length) (e0 := some (pl p)) (rangeL 0 ((p.length : Int)).toNat) p.length (S ++ [p.map fr]) none (by simp) (Nat.le_refl _)
  rw [rangeL_len, Int.toNat_natCast, ctN_tlen p _ _ (Nat.le_refl _)] at r2
  have el : biD .len [.ref S.length] (S ++ [p.map fr]) = .ok (.int (p.length : Nat)) (S ++ [p.map fr]) := by
    have := bi_len_ref (S := S ++ [p.map fr]) (n := S.length) (l := p.map fr) (by simp)
    rwa [List.length_map] at this
  have x2 : exec (run T C N (k - 1)) C N (.for_ (.name 2) (.range [(.bi .len [(.var 1)])]) cuB) [some (pl p), some (.ref S.length), none] (S ++ [p.map fr]) = .nx [some (pl p), some (.ref S.length), e2'] S' := by
    have ea : evs (run T C N (k - 1)) C [(.bi .len [(.var 1)])] [some (pl p), some (.ref S.length), none] (S ++ [p.map fr]) = .ok [.int (p.length : Nat)] (S ++ [p.map fr]) := by
      simp [el]
    rw [ex_for, evi_range1 ea (boundOk_nat hl)]
    exact r1
  have e3 : biD .tuple [.ref S.length] S' = .ok (pl (trim p)) S' := bi_tuple_ref (by rw [r2]; rfl)
  simp only [List.length_append, List.length_cons, List.length_nil] at r3 r4
  have ht : S'.take S.length = S := by
    refine List.ext_getElem? fun i => ?_
    by_cases hi : i < S.length
    · rw [List.getElem?_take, if_pos hi, r4 i (by omega) (by omega), List.getElem?_append_left hi]
    · rw [List.getElem?_take, if_neg hi, List.getElem?_eq_none (by omega)]
  simp only [fnCut, startD, List.map_cons, List.map_nil, List.length_cons, List.length_nil, List.cons_append, List.nil_append, List.replicate, exs_cons, exs_nil, ex_asg, ev_bi', evs_cons, evs_nil, ev_var, List.getElem?_cons_zero, List.getElem?_cons_succ, R.bind_ok, e1, R.thenS_ok, put_name', List.set_cons_succ, List.set_cons_zero, RS.seq_nx]
  simp only [x2, RS.seq_nx, ex_ret, ev_bi', evs_cons, evs_nil, ev_var, List.getElem?_cons_zero, List.getElem?_cons_succ, R.bind_ok, e3, R.thenS_ok, seq_rt]
  exact end_rt ht (by omega) (closed_pl _ _)
theorem gd_two {p q : List Rat} (hp : p.length ≤ 1000) (hq : q.length ≤ 1000) : Gd (.tup [pl p, pl q]) := by
  have a := gd_pl hp
  have b := gd_pl hq
  refine ⟨?_, ?_⟩
  · show (num 10 (pl p) && (num 10 (pl q) && true)) = true
    rw [num_pl 8, num_pl 8]; rfl
  · show (decide ([pl p, pl q].length ≤ 1000) && (DL.D.thin (pl p) && (DL.D.thin (pl q) && true))) = true
    rw [a.2, b.2]; rfl
theorem nin_true {n : Nat} (h : S[n]? = some [.bl true, .bl true]) : cmpR .in_ (.bl false) (.ref n) S = .ok (.bl false) S := by
  unfold cmpR cmpD inD
  have e1 : toPs S (.bl false) = some (.bool false) := rfl
  have e2 : toPs S (.ref n) = some (.list [.bool true, .bool true]) := by
    unfold toPs
    have : toP S 12 (.ref n) = some (.list [.bool true, .bool true]) := by
      show (match S[n]? with | some l => (l.mapM (toP S 11)).map PySem.PyData.list | none => none) = _
      rw [h]; rfl
    rw [this]; rfl
  simp only [e1, e2]
  rfl
theorem repr_nil {n : Nat} (h : S[n]? = some [.tup []]) : biD .repr [.ref n] S = .ok (.str (PySem.PyData.list [.tuple []]).shown) S := by
  have e2 : toPs S (.ref n) = some (.list [.tuple []]) := by
    unfold toPs
    have : toP S 12 (.ref n) = some (.list [.tuple []]) := by
      show (match S[n]? with | some l => (l.mapM (toP S 11)).map PySem.PyData.list | none => none) = _
      rw [h]; rfl
    rw [this]; rfl
  show (match toPs S (.ref n) with
    | some p => if p.showable && decide (p.shown.length ≤ PySem.sizeLine) then R.ok (DL.D.str p.shown) S else .bad
    | none => .bad) = _
  rw [e2]
  have hs : ((PySem.PyData.list [.tuple []]).showable && decide ((PySem.PyData.list [.tuple []]).shown.length ≤ PySem.sizeLine)) = true := by
    rw [Bool.and_eq_true]
    exact ⟨by decide +kernel, by decide +kernel⟩
  show (if ((PySem.PyData.list [.tuple []]).showable && decide ((PySem.PyData.list [.tuple []]).shown.length ≤ PySem.sizeLine)) then R.ok (DL.D.str (PySem.PyData.list [.tuple []]).shown) S else .bad) = _
  rw [if_pos hs]
theorem ne_str (x : PySem.Str) (h : PySem.SeqAt.shaped (.str x) = true) : cmpR .ne (.str x) (.str x) S = .ok (.bl false) S := by
  unfold cmpR cmpD eqD
  have e : toPs S (.str x) = some (.str x) := by
    show (if PySem.SeqAt.shaped (.str x) then some (PySem.PyData.str x) else none) = _
    rw [if_pos h]
  simp only [e]
  simp [PySem.PyData.eqv]
theorem shaped_nil : PySem.SeqAt.shaped (.str (PySem.PyData.list [.tuple []]).shown) = true := by decide +kernel
end
theorem gb_half {r : Int} (h : r = 1 ∨ r = -2 ∨ r = 3) : PIn 12 72 [(r : Rat), mkRat 1 2] ∧ Nm [(r : Rat), mkRat 1 2] := by
  constructor
  · intro i
    match i with
    | 0 => exact ⟨r * 12, by omega, by rw [cf_cons_zero, Rat.intCast_mul]; rfl⟩
    | 1 => exact ⟨6, by decide, by rw [cf_cons_succ, cf_cons_zero]; decide +kernel⟩
    | i + 2 => rw [cf_cons_succ, cf_cons_succ, cf_nil]; exact in_zero _ _
  · right
    show cf [(r : Rat), mkRat 1 2] 1 ≠ 0
    rw [cf_cons_succ, cf_cons_zero]
    decide +kernel
end DL

end
section
set_option maxHeartbeats 2000000
set_option exponentiation.threshold 10000
namespace k14
open DL
open PySem (Str)
theorem t__law_refused : TT[43]? = some (fnRefused 25 3) := rfl
theorem gb_small {p : List Rat} (h : PIn 12 72 p) : GB 4 7 p := ⟨12, 72, by decide, by decide, by decide, h⟩
theorem permL_10 {α : Type} (a b : α) : permL [1, 0] [a, b] = [b, a] := rfl
section
variable {N k n : Nat} {S : Store} {e1 e2 e3 e4 e5 e6 e7 e8 e9 e10 e11 e12 e13 e14 e15 : Option D}
structure Hp (p : List Rat) (m : Nat) : Prop where
  nm : Nm p
  len : p.length ≤ m
  gb : GB 4 7 p
/-- two POLYs are drawn -/
theorem t1 {Q : RS → Prop} (hk : 30 ≤ k) (hN : 1000 < N) (hw : Wl S n) (h : ∀ p b S', Hp p 8 → Hp b 6 → b ≠ [] → Ch n S S' → RS.wp (execs (run TT CC N k) CC N [q1_3, q1_4, q1_5, q1_6, q1_7, q1_8, q1_9, q1_10, q1_11, q1_12, q1_13, q1_14, q1_15] [some (.ref n), e1, e2, some (pl b), e4, e5, e6, e7, e8, e9, e10, e11, some (pl p), e13, e14, e15] S') Q) :
    RS.wp (execs (run TT CC N k) CC N q1B [some (.ref n), e1, e2, e3, e4, e5, e6, e7, e8, e9, e10, e11, e12, e13, e14, e15] S) Q := by
  refine wps_cons ?_
  simp [q1_1]
  refine s__law_drawn_poly (by omega) hw 7 (by omega) fun p S1 nmp lp ip c1 => ?_
  try simp
  refine s__law_haul (by omega) c1.2.2 6 (by omega) (by omega) fun r S2 r0 r1 c2 _ => ?_
  obtain ⟨m, rfl⟩ : ∃ m : Nat, r = (m : Int) := ⟨r.toNat, by omega⟩
  try simp
  refine s__law_drawn_poly (by omega) c2.2.2 m (by omega) fun b S3 nmb lb ib c3 => ?_
  try simp
  refine wps_next (wps_cons ?_)
  have c13 := (c1.trans c2).trans c3
  have gp := gb_small ip
  by_cases hb : b = []
  · subst hb
    have n1 : cmpR .ne (pl []) (.tup []) S3 = .ok (.bl false) S3 := ne_nil
    simp [q1_2, n1]
    refine s__law_of (by omega) c3.2.2 _ (by simp) (by simp) fun d S4 hd c4 _ => ?_
    obtain ⟨r, rfl, hr⟩ : ∃ r : Int, d = .int r ∧ (r = 1 ∨ r = -2 ∨ r = 3) := by
      simp at hd
      rcases hd with rfl | rfl | rfl
      · exact ⟨1, rfl, .inl rfl⟩
      · exact ⟨-2, rfl, .inr (.inl rfl)⟩
      · exact ⟨3, rfl, .inr (.inr rfl)⟩
    obtain ⟨g1, g2⟩ := gb_half hr
    have e : D.tup [.tup [.int r, .int 1], .tup [.int 1, .int 2]] = pl [(r : Rat), mkRat 1 2] := by
      have : fr (mkRat 1 2) = .tup [.int 1, .int 2] := by
        have h1 : (mkRat 1 2).num = 1 := by decide +kernel
        have h2 : (mkRat 1 2).den = 2 := by decide +kernel
        unfold fr; rw [h1, h2]; rfl
      show _ = D.tup [fr (r : Rat), fr (mkRat 1 2)]
      rw [this]; rfl
    have n2 : ∀ a b S, newT [a, b] S = .ok (.tup [a, b]) S := fun a b S => newT_2
    try simp [n2]
    rw [e]
    refine wps_next ?_
    exact h p _ S4 ⟨nmp, by omega, gp⟩ ⟨g2, by simp, gb_small g1⟩ (by simp) (c13.trans c4)
  · have n1 : cmpR .ne (pl b) (.tup []) S3 = .ok (.bl true) S3 := by rw [ne_nil]; simp [hb]
    simp [q1_2, n1]
    refine wps_next ?_
    exact h p b S3 ⟨nmp, by omega, gp⟩ ⟨nmb, by omega, gb_small ib⟩ hb c13
theorem div_facts {p b : List Rat} (hp : Hp p 8) (hb : Hp b 6) (b0 : b ≠ []) : DvOk p b ∧ GB 95 115 (pdiv p b).1 ∧ GB 95 115 (pdiv p b).2 ∧ (pdiv p b).1.length ≤ 8 ∧ (pdiv p b).2.length + 1 ≤ b.length := by
  have h1 := hp.len
  have h2 := hb.len
  have hbl : 0 < b.length := List.length_pos_iff.mpr b0
  obtain ⟨g1, g2⟩ := hp.gb.quot hb.gb b0 hb.nm (by omega)
  refine ⟨hp.gb.dv hb.gb b0 hb.nm (by omega) (by omega) (by omega) (by omega), g1.mono (by omega) (by omega), g2.mono (by omega) (by omega), ?_, pdiv_rlen b0 hb.nm⟩
  have := pdiv_qlen (a := p) b0 hb.nm
  omega
/-- they are divided -/
theorem t2 {Q : RS → Prop} {p b : List Rat} (hk : 30 ≤ k) (hN : 1000 < N) (hw : Wl S n) (hp : Hp p 8) (hb : Hp b 6) (b0 : b ≠ []) (h : ∀ e4 e14 S', Ch n S S' → RS.wp (execs (run TT CC N k) CC N [q1_6, q1_7, q1_8, q1_9, q1_10, q1_11, q1_12, q1_13, q1_14, q1_15] [some (.ref n), e1, e2, some (pl b), e4, e5, e6, e7, e8, e9, e10, e11, some (pl p), e13, e14, e15] S') Q) :
    RS.wp (execs (run TT CC N k) CC N [q1_3, q1_4, q1_5, q1_6, q1_7, q1_8, q1_9, q1_10, q1_11, q1_12, q1_13, q1_14, q1_15] [some (.ref n), e1, e2, some (pl b), e4, e5, e6, e7, e8, e9, e10, e11, some (pl p), e13, e14, e15] S) Q := by
  obtain ⟨dv, gq, gr, lq, lr⟩ := div_facts hp hb b0
  obtain ⟨nmp, lp, gp⟩ := hp
  obtain ⟨nmb, lb, gb⟩ := hb
  have Pp : Pl p := mkPl nmp (by omega) gp (by omega) (by omega)
  have Pb : Pl b := mkPl nmb (by omega) gb (by omega) (by omega)
  have Pq : Pl (pdiv p b).1 := mkPl (pdiv_nm p b).1 (by omega) gq (by omega) (by omega)
  have Pr : Pl (pdiv p b).2 := mkPl (pdiv_nm p b).2 (by omega) gr (by omega) (by omega)
  refine wps_cons ?_
  have r0 : ∀ S, run TT CC N k 42 [pl p, pl b] S = .ok (.tup [pl (pdiv p b).1, pl (pdiv p b).2]) S := fun S => s__law_divided (by omega) dv
  simp [q1_3, r0]
  refine wps_next (wps_cons ?_)
  have r1 : ∀ S, run TT CC N k 25 [pl p, pl b] S = .ok (.tup [pl (pdiv p b).1, pl (pdiv p b).2]) S := fun S => s_divided (by omega) (by omega) Pp Pb dv
  have gd := gd_two (p := (pdiv p b).1) (q := (pdiv p b).2) (by omega) (by omega)
  have tw : ∀ S, run TT CC N k 29 [.tup [.tup [pl (pdiv p b).1, pl (pdiv p b).2], .tup [pl (pdiv p b).1, pl (pdiv p b).2]], .tup [.tup [pl (pdiv p b).1, pl (pdiv p b).2], .tup [pl (pdiv p b).1, pl (pdiv p b).2]]] S = .ok (.bl true) S := fun S => s__law_twinL (by omega) (by simp) (by simp [gd])
  simp [q1_4, r1, permL_10, tw]
  refine wps_next (wps_cons ?_)
  have lm := pmul_lle (pdiv p b).1 b
  have lm2 : (pmul (pdiv p b).1 b).length ≤ 13 := by
    by_cases hq0 : (pdiv p b).1 = []
    · rw [hq0]; simp [pmul, trim, tlen]; omega
    · have := pmul_len (pdiv_nm p b).1 nmb hq0 b0
      have := pdiv_qlen (a := p) b0 nmb
      omega
  have mb : ∃ D E B B', MulB (pdiv p b).1 b D E B B' := gq.mulB (m := 4) gb (by omega) (by omega) (by omega)
  have gm : GB 102 130 (pmul (pdiv p b).1 b) := (gq.mul (m := 4) gb (by omega)).mono (by omega) (by omega)
  have Pm : Pl (pmul (pdiv p b).1 b) := mkPl (nm_pmul _ _) lm2 gm (by omega) (by omega)
  have r2 : ∀ S, run TT CC N k 24 [pl (pdiv p b).1, pl b] S = .ok (pl (pmul (pdiv p b).1 b)) S := fun S => s_poly_times (by omega) (by omega) Pq Pb mb lm2
  have r3 : ∀ S, run TT CC N k 23 [pl (pmul (pdiv p b).1 b), pl (pdiv p b).2] S = .ok (pl p) S := fun S => by
    have := s_poly_sum (N := N) (k := k) (S := S) (by omega) (by omega) Pm Pr
    rw [pdiv_lin nmp b0 nmb] at this
    exact this
  have tw2 : ∀ S, run TT CC N k 29 [pl p, pl p] S = .ok (.bl true) S := fun S => s__law_twin (by omega) (num_pl 10 p) (gd_pl (by omega)).2
  have d1 : ∀ S, run TT CC N k 21 [pl (pdiv p b).2] S = .ok (.int (((pdiv p b).2.length : Int) - 1)) S := fun S => s_degree (by omega) Pr
  have d2 : ∀ S, run TT CC N k 21 [pl b] S = .ok (.int ((b.length : Int) - 1)) S := fun S => s_degree (by omega) Pb
  have d3 : decide (((pdiv p b).2.length : Int) - 1 < (b.length : Int) - 1) = true := by rw [decide_eq_true_eq]; omega
  have i0 : ∀ S, idxR (.tup [pl (pdiv p b).1, pl (pdiv p b).2]) (.int 0) S = .ok (pl (pdiv p b).1) S := fun S => idx_0
  have i1 : ∀ S, idxR (.tup [pl (pdiv p b).1, pl (pdiv p b).2]) (.int 1) S = .ok (pl (pdiv p b).2) S := fun S => idx_tup (atI_nat (k := 1))
  have lc : ∀ env S, env[4]? = some (some (.tup [pl (pdiv p b).1, pl (pdiv p b).2])) → 14 < env.length → ev (run TT CC N k) CC (.lc (.call 20 [(.var 14)]) (.name 14) (.seq (.var 4)) [] [14]) env S = .ok (.ref S.length) (S ++ [[.bl true, .bl true]]) := fun env S he hl => by
    refine ev_lcp (l := [pl (pdiv p b).1, pl (pdiv p b).2]) id (fun _ => .bl true) ?_ (small (by simp)) fun d hd S' => ⟨_, rfl, fun S'' => ?_⟩
    · simp [he]
    · have hl2 : 14 < (wipeD env [14]).length := by rw [wipeD_length]; exact hl
      have ee : ((wipeD env [14]).set 14 (some d))[14]? = some (some d) := List.getElem?_set_self hl2
      simp only [ev_call', evs_cons, evs_nil, ev_var, ee, R.bind_ok, id]
      simp at hd
      rcases hd with rfl | rfl
      · exact s_is_poly (by omega) Pq
      · exact s_is_poly (by omega) Pr
  have lc' := fun S => lc [some (.ref n), e1, e2, some (pl b), some (.tup [pl (pdiv p b).1, pl (pdiv p b).2]), e5, e6, e7, e8, e9, e10, e11, some (pl p), e13, e14, e15] S rfl (by simp)
  have nt : ∀ S : Store, cmpR .in_ (.bl false) (.ref S.length) (S ++ [[.bl true, .bl true]]) = .ok (.bl false) (S ++ [[.bl true, .bl true]]) := fun S => nin_true (by simp)
  simp only [q1_5, ex_ite, test_eq, ev_or, ev_nt, ev_call', evs_cons, evs_nil, ev_idx, ev_var, ev_int, ev_cmp, ev_bl, List.getElem?_cons_zero, List.getElem?_cons_succ, R.bind_ok, i0, i1, r2, r3, tw2, truth_bl, Bool.not_true, d1, d2, cmp_lt, d3, lc', nt, R.thenS_ok, if_false, Bool.false_eq_true, reduceIte]
  refine wps_next ?_
  exact h _ _ _ ((Ch.refl hw).app _)
end
end k14

end
section
set_option maxHeartbeats 2000000
set_option exponentiation.threshold 10000
namespace k14
open DL
open PySem (Str)
theorem frm1 : D.tup [.int (-1), .int 1] = fr (-1) := rfl
theorem gb_take {d m : Nat} {p : List Rat} (h : GB d m p) (j : Nat) : GB d m (p.take j) := by
  obtain ⟨D, B, h1, h2, h3, h4⟩ := h
  refine ⟨D, B, h1, h2, h3, fun i => ?_⟩
  by_cases hi : i < j
  · by_cases hp : i < p.length
    · have e : cf (p.take j) i = cf p i := by rw [cf_lt hp, cf_lt (by rw [List.length_take]; omega)]; simp
      rw [e]; exact h4 i
    · rw [cf_ge (by rw [List.length_take]; omega)]; exact in_zero _ _
  · rw [cf_ge (by rw [List.length_take]; omega)]; exact in_zero _ _
theorem slc_pl (p : List Rat) (j : Nat) (S : Store) : slcR (pl p) none (some (j : Int)) S = .ok (pl (p.take j)) S := by
  show R.ok (D.tup (cutD (p.map fr) none (some (j : Int)))) S = _
  rw [cutD_to', ← List.map_take]; rfl
section
variable {N k n : Nat} {S : Store} {e1 e2 e3 e4 e5 e6 e7 e8 e9 e10 e11 e12 e13 e14 e15 : Option D}
/-- what is put together comes apart -/
theorem t3 {Q : RS → Prop} {p b : List Rat} (hk : 30 ≤ k) (hN : 1000 < N) (hw : Wl S n) (hb : Hp b 6) (b0 : b ≠ []) (h : ∀ e5 e6 e13 S', Ch n S S' → RS.wp (execs (run TT CC N k) CC N [q1_10, q1_11, q1_12, q1_13, q1_14, q1_15] [some (.ref n), e1, e2, some (pl b), e4, e5, e6, e7, e8, e9, e10, e11, some (pl p), e13, e14, e15] S') Q) :
    RS.wp (execs (run TT CC N k) CC N [q1_6, q1_7, q1_8, q1_9, q1_10, q1_11, q1_12, q1_13, q1_14, q1_15] [some (.ref n), e1, e2, some (pl b), e4, e5, e6, e7, e8, e9, e10, e11, some (pl p), e13, e14, e15] S) Q := by
  obtain ⟨nmb, lb, gb⟩ := hb
  have hbl : 0 < b.length := List.length_pos_iff.mpr b0
  have Pb : Pl b := mkPl nmb (by omega) gb (by omega) (by omega)
  refine wps_cons ?_
  simp [q1_6]
  refine s__law_drawn_poly (by omega) hw 4 (by omega) fun w S1 nmw lw iw c1 => ?_
  try simp
  refine s__law_drawn_poly (by omega) c1.2.2 4 (by omega) fun r0 S2 nmr lr ir c2 => ?_
  have bl : ∀ S', biD .len [pl b] S' = .ok (.int (b.length : Nat)) S' := fun S' => by simp [pl]
  have mx : (if (0 : Int) < ((b.length : Nat) : Int) - 1 then ((b.length : Nat) : Int) - 1 else (0 : Int)) = ((b.length - 1 : Nat) : Int) := by split <;> omega
  have n2 : ∀ a b S, newT [a, b] S = .ok (.tup [a, b]) S := fun a b S => newT_2
  have sc : D.tup (cutD (List.map fr r0) none (some (if 1 < ((b.length : Nat) : Int) then ((b.length : Nat) : Int) - 1 else 0))) = pl (r0.take (b.length - 1)) := by
    have e : (if 1 < ((b.length : Nat) : Int) then ((b.length : Nat) : Int) - 1 else 0) = ((b.length - 1 : Nat) : Int) := by split <;> omega
    rw [e, cutD_to', ← List.map_take]; rfl
  try simp [bl, slcR, n2]
  try rw [show pl r0 = D.tup (List.map fr r0) from rfl]
  try simp [slcR, n2]
  rw [sc]
  refine wps_next (wps_cons ?_)
  have gr0 := gb_take (gb_small ir) (b.length - 1)
  have gr : GB 4 7 (trim (r0.take (b.length - 1))) := gr0.trim
  obtain ⟨r, hr⟩ : ∃ r, r = trim (r0.take (b.length - 1)) := ⟨_, rfl⟩
  have nmr' : Nm r := by rw [hr]; exact nm_trim _
  have lr' : r.length + 1 ≤ b.length := by
    have h1 := trim_le (r0.take (b.length - 1))
    have h2 := List.length_take_le (b.length - 1) r0
    rw [hr]; omega
  have cu : ∀ S, run TT CC N k 35 [pl (r0.take (b.length - 1))] S = .ok (pl r) S := fun S => by
    rw [hr]
    exact cut_pl t__law_cut (by omega) _ (by have h2 := List.length_take_le (b.length - 1) r0; omega)
  rw [← hr] at gr
  simp [q1_7, cu]
  refine wps_next (wps_cons ?_)
  have gw := gb_small iw
  have lm := pmul_lle w b
  have gm : GB 8 17 (pmul w b) := gw.mul (m := 3) gb (by omega)
  have p1 : ∀ S, run TT CC N k 38 [pl w, pl b] S = .ok (pl (pmul w b)) S := fun S => s__law_product (by omega) (gw.mulB (m := 3) gb (by omega) (by omega) (by omega)) (by omega)
  have okm : POk (pmul w b) := gm.ok (by omega) (by omega)
  have okr : POk r := gr.ok (by omega) (by omega)
  have ok1 : Ok 1 := sz_one.mono (by decide)
  have p2 : ∀ S, run TT CC N k 37 [pl (pmul w b), pl r, fr 1] S = .ok (pl (lin (pmul w b) r 1)) S := fun S => s__law_mixed (by omega) okm okr ok1 (fun i => by rw [Rat.one_mul]; exact okr i) (by omega)
  have f1 : D.tup [.int 1, .int 1] = fr 1 := rfl
  simp [q1_8, p1, f1, p2]
  refine wps_next (wps_cons ?_)
  obtain ⟨a, ha⟩ : ∃ a, a = lin (pmul w b) r 1 := ⟨_, rfl⟩
  rw [← ha]
  have ga : GB 12 22 a := by rw [ha]; exact (gm.lin gr (.inl rfl)).mono (by omega) (by omega)
  have nma : Nm a := by rw [ha]; exact nm_lin _ _ _
  have la : a.length ≤ 12 := by
    have h1 := trim_le ((List.range (max (pmul w b).length r.length)).map fun i => cf (pmul w b) i + 1 * cf r i)
    rw [List.length_map, List.length_range] at h1
    have h2 : a.length ≤ max (pmul w b).length r.length := by rw [ha]; exact h1
    omega
  have Pa : Pl a := mkPl nma (by omega) ga (by omega) (by omega)
  have P0 : Pl ([] : List Rat) := ⟨nm_nil, by decide, fun i => by rw [cf_nil]; exact ok_zero⟩
  have g0 : GB 1 1 ([] : List Rat) := ⟨1, 0, by decide, by decide, by decide, fun i => by rw [cf_nil]; exact in_zero _ _⟩
  have d1 : pdiv a b = (w, r) := pdiv_one b0 nmb nmw nmr' lr' fun i => by rw [ha, cf_lin, cf_pmul]; grind
  have d2 : pdiv b b = ([1], []) := pdiv_one b0 nmb (.inr (by decide +kernel)) nm_nil (by simp; omega) fun i => by
    rw [cf_nil, ← cf_pmul, pmul_one b nmb]; grind
  have d3 : pdiv [] b = ([], []) := pdiv_one b0 nmb nm_nil nm_nil (by simp; omega) fun i => by
    rw [cf_nil, show cf ([] : List Rat) = fun _ => 0 from funext fun _ => cf_nil, cv_zero_left]; grind
  have r1 : ∀ S, run TT CC N k 25 [pl a, pl b] S = .ok (.tup [pl w, pl r]) S := fun S => by
    have := s_divided (N := N) (k := k) (S := S) (by omega) (by omega) Pa Pb (ga.dv gb b0 nmb (by omega) (by omega) (by omega) (by omega))
    rw [d1] at this; exact this
  have r2 : ∀ S, run TT CC N k 25 [pl b, pl b] S = .ok (.tup [pl [1], pl []]) S := fun S => by
    have := s_divided (N := N) (k := k) (S := S) (by omega) (by omega) Pb Pb (gb.dv gb b0 nmb (by omega) (by omega) (by omega) (by omega))
    rw [d2] at this; exact this
  have r3 : ∀ S, run TT CC N k 25 [pl [], pl b] S = .ok (.tup [pl [], pl []]) S := fun S => by
    have := s_divided (N := N) (k := k) (S := S) (by omega) (by omega) P0 Pb (g0.dv gb b0 nmb (by simp) (by omega) (by omega) (by omega))
    rw [d3] at this; exact this
  have z0 : D.tup [] = pl [] := rfl
  have z1 : D.tup [fr 1] = pl [1] := rfl
  have n3 : ∀ a b c S, newT [a, b, c] S = .ok (.tup [a, b, c]) S := fun a b c S => newT_3
  have g1 := gd_two (p := w) (q := r) (by omega) (by omega)
  have g2 := gd_two (p := [1]) (q := []) (by simp) (by simp)
  have g3 := gd_two (p := []) (q := []) (by simp) (by simp)
  have tw : ∀ S, run TT CC N k 29 [.tup [.tup [pl w, pl r], .tup [pl [1], pl []], .tup [pl [], pl []]], .tup [.tup [pl w, pl r], .tup [pl [1], pl []], .tup [pl [], pl []]]] S = .ok (.bl true) S := fun S => s__law_twinL (by omega) (by simp) (by simp [g1, g2, g3])
  have n1 : ∀ a S, newT [a] S = .ok (.tup [a]) S := fun a S => newT_1
  simp only [q1_9, ex_ite, test_eq, ev_nt, ev_call', evs_cons, evs_nil, ev_tup, ev_var, ev_int, List.getElem?_cons_zero, List.getElem?_cons_succ, R.bind_ok, newT_0, z0, r1, r2, r3, n1, n2, n3, f1, z1, tw, truth_bl, Bool.not_true, R.thenS_ok, if_false, Bool.false_eq_true, reduceIte]
  refine wps_next ?_
  exact h _ _ _ _ (c1.trans c2)
end
end k14

end
section
set_option maxHeartbeats 2000000
set_option exponentiation.threshold 10000
namespace k14
open DL
open PySem (Str)
def xh : Rat := mkRat (-1) 2
def x75 : Rat := mkRat 7 5
theorem fr_of {q : Rat} {a : Int} {d : Nat} (h1 : q.num = a) (h2 : q.den = d) : fr q = .tup [.int a, .int (d : Nat)] := by subst h1 h2; rfl
theorem fxh : D.tup [.int (-1), .int 2] = fr xh := (fr_of (by decide +kernel) (by decide +kernel)).symm
theorem fx75 : D.tup [.int 7, .int 5] = fr x75 := (fr_of (by decide +kernel) (by decide +kernel)).symm
theorem fx3 : D.tup [.int 3, .int 1] = fr 3 := rfl
theorem gc_of {q : Rat} {a : Int} {d m : Nat} (h : q * (d : Rat) = (a : Rat)) (h0 : 0 < d) (h1 : d < 2 ^ m) (h2 : a.natAbs < 2 ^ m) : GC m m q := ⟨d, a.natAbs, h0, h1, h2, a, Nat.le_refl _, h⟩
theorem gc_in {q : Rat} (h : In 12 72 q) : GC 4 7 q := ⟨12, 72, by decide, by decide, by decide, h⟩
theorem gb_one {w : Rat} {d b : Nat} (g : GC d b w) : GB d b [w] := by
  obtain ⟨D, B, q1, q2, q3, q4⟩ := g
  refine ⟨D, B, q1, q2, q3, fun i => ?_⟩
  cases i with
  | zero => exact q4
  | succ i => rw [cf_cons_succ, cf_nil]; exact in_zero _ _
theorem cv_const (x : Rat) (f : Nat → Rat) : ∀ i, cv f (cf [x]) i = f i * x := fun i => by
  rw [cv_comm]
  have z : sh (cf [x]) = fun _ => 0 := funext fun j => by show cf [x] (j + 1) = 0; rw [cf_cons_succ, cf_nil]
  cases i with
  | zero => show cf [x] 0 * f 0 = _; rw [cf_cons_zero]; grind
  | succ i => show cf [x] 0 * f (i + 1) + cv (sh (cf [x])) f i = _; rw [z, cv_zero_left, cf_cons_zero]; grind
theorem cf_map_div {p : List Rat} {x : Rat} (i : Nat) : cf (p.map (· / x)) i = cf p i / x := by
  by_cases h : i < p.length
  · rw [cf_lt h, cf_lt (by simpa using h)]; simp
  · rw [cf_ge (p := p) (by omega), cf_ge (by simpa using h)]; grind
theorem pdiv_const {p : List Rat} {x : Rat} (hp : Nm p) (hx : x ≠ 0) : pdiv p [x] = (p.map (· / x), []) := by
  refine pdiv_one (by simp) (.inr (by simpa [cf_cons_zero] using hx)) ?_ nm_nil (by simp) fun i => ?_
  · rcases hp with h | h
    · exact .inl (by rw [h]; rfl)
    · right
      rw [List.length_map, cf_map_div]
      intro e
      have := Rat.div_mul_cancel (a := cf p (p.length - 1)) hx
      rw [e, Rat.zero_mul] at this
      exact h this.symm
  · rw [cv_const, cf_map_div, cf_nil, Rat.div_mul_cancel hx]; grind
theorem pdiv_worth {p : List Rat} {y : Rat} (hp : Nm p) : worth p y = cf (pdiv p [-1 * y, 1]).2 0 ∧ (pdiv p [-1 * y, 1]).2.length ≤ 1 := by
  have b0 : ([-1 * y, 1] : List Rat) ≠ [] := by simp
  have nb : Nm ([-1 * y, 1] : List Rat) := .inr (by show cf [-1 * y, 1] 1 ≠ 0; rw [cf_cons_succ, cf_cons_zero]; decide +kernel)
  have hl := pdiv_rlen (a := p) b0 nb
  have hl1 : (pdiv p [-1 * y, 1]).2.length ≤ 1 := by simp at hl; omega
  refine ⟨?_, hl1⟩
  have e := pdiv_lin hp b0 nb
  have e2 : worth p y = worth (pmul (pdiv p [-1 * y, 1]).1 [-1 * y, 1]) y + 1 * worth (pdiv p [-1 * y, 1]).2 y := by rw [← worth_lin, e]
  rw [worth_pmul] at e2
  have e3 : worth [-1 * y, 1] y = 0 := by simp only [worth]; grind
  rw [e2, e3]
  match hr : (pdiv p [-1 * y, 1]).2, hl1 with
  | [], _ => rw [cf_nil]; simp only [worth]; grind
  | [c], _ => rw [cf_cons_zero]; simp only [worth]; grind
section
variable {N k n : Nat} {S : Store} {e1 e2 e3 e4 e5 e6 e7 e8 e9 e10 e11 e12 e13 e14 e15 : Option D}
/-- by a number -/
theorem t4 {Q : RS → Prop} {p : List Rat} (hk : 30 ≤ k) (hN : 1000 < N) (hw : Wl S n) (hp : Hp p 8) (h : ∀ e7 e15 S', Ch n S S' → RS.wp (execs (run TT CC N k) CC N [q1_12, q1_13, q1_14, q1_15] [some (.ref n), e1, e2, e3, e4, e5, e6, e7, e8, e9, e10, e11, some (pl p), e13, e14, e15] S') Q) :
    RS.wp (execs (run TT CC N k) CC N [q1_10, q1_11, q1_12, q1_13, q1_14, q1_15] [some (.ref n), e1, e2, e3, e4, e5, e6, e7, e8, e9, e10, e11, some (pl p), e13, e14, e15] S) Q := by
  obtain ⟨nmp, lp, gp⟩ := hp
  have Pp : Pl p := mkPl nmp (by omega) gp (by omega) (by omega)
  refine wps_cons ?_
  simp [q1_10]
  refine s__law_of (by omega) hw _ (by simp) (by simp) fun d S1 hd c1 _ => ?_
  rw [fx3, fxh, fx75] at hd
  obtain ⟨x, rfl, gx, x0⟩ : ∃ x, d = fr x ∧ GC 4 4 x ∧ x ≠ 0 := by
    simp at hd
    rcases hd with rfl | rfl | rfl
    · exact ⟨_, rfl, gc_of (a := 3) (d := 1) (by decide +kernel) (by decide) (by decide) (by decide), by decide +kernel⟩
    · exact ⟨_, rfl, gc_of (a := -1) (d := 2) (by decide +kernel) (by decide) (by decide) (by decide), by decide +kernel⟩
    · exact ⟨_, rfl, gc_of (a := 7) (d := 5) (by decide +kernel) (by decide) (by decide) (by decide), by decide +kernel⟩
  try simp
  refine wps_next (wps_cons ?_)
  have gb := gb_one gx
  have nb : Nm [x] := .inr (by simpa [cf_cons_zero] using x0)
  have Pb : Pl [x] := mkPl nb (by simp) gb (by omega) (by omega)
  have okx : Ok x := gx.ok (by omega) (by omega)
  have r1 : ∀ S, run TT CC N k 25 [pl p, .tup [fr x]] S = .ok (.tup [pl (p.map (· / x)), pl []]) S := fun S => by
    have := s_divided (N := N) (k := k) (S := S) (by omega) (by omega) Pp Pb (gp.dv gb (by simp) nb (by omega) (by simp) (by omega) (by omega))
    rw [pdiv_const nmp x0] at this
    exact this
  have lc : ∀ S, ev (run TT CC N k) CC (.lc (.call 41 [(.var 15), (.var 7)]) (.name 15) (.seq (.var 12)) [] [15]) [some (.ref n), e1, e2, e3, e4, e5, e6, some (fr x), e8, e9, e10, e11, some (pl p), e13, e14, e15] S = .ok (.ref S.length) (S ++ [p.map fun c => fr (c / x)]) := fun S => by
    refine ev_lcp (l := p) fr (fun c => fr (c / x)) ?_ (small (by omega)) fun c hc S' => ⟨_, rfl, fun S'' => ?_⟩
    · simp [pl]
    · obtain ⟨i, _, rfl⟩ := mem_cf hc
      have okc : Ok (cf p i) := Pp.ok i
      have o := s__law_over (N := N) (k := k) (by omega) (cf p i) x S'' x0 okc okx
      simp [wipeD, o]
  have tp : ∀ S, biD .tuple [.ref S.length] (S ++ [p.map fun c => fr (c / x)]) = .ok (pl (p.map (· / x))) (S ++ [p.map fun c => fr (c / x)]) := fun S => bi_tuple_ref (by simp)
  have n1 : ∀ a S, newT [a] S = .ok (.tup [a]) S := fun a S => newT_1
  have n2 : ∀ a b S, newT [a, b] S = .ok (.tup [a, b]) S := fun a b S => newT_2
  have z0 : D.tup [] = pl [] := rfl
  have gd := gd_pl (p := p.map (· / x)) (by simp; omega)
  have gd0 := gd_pl (p := []) (by simp)
  have tw : ∀ S, run TT CC N k 29 [.tup [pl (p.map (· / x)), pl []], .tup [pl (p.map (· / x)), pl []]] S = .ok (.bl true) S := fun S => s__law_twinL (by omega) (by simp) (by simp [gd, gd0])
  simp only [q1_11, ex_ite, test_eq, ev_nt, ev_call', evs_cons, evs_nil, ev_tup, ev_var, ev_bi', List.getElem?_cons_zero, List.getElem?_cons_succ, R.bind_ok, newT_0, z0, n1, r1, lc, tp, n2, tw, truth_bl, Bool.not_true, R.thenS_ok, if_false, Bool.false_eq_true, reduceIte]
  refine wps_next ?_
  exact h _ _ _ (c1.app _)
end
end k14

end
section
set_option maxHeartbeats 2000000
set_option exponentiation.threshold 10000
namespace k14
open DL
open PySem (Str)
section
variable {N k n : Nat} {S : Store} {e1 e2 e3 e4 e5 e6 e7 e8 e9 e10 e11 e12 e13 e14 e15 : Option D}
/-- the rest by x less a FRACTION, nought refused -/
theorem t5 {Q : RS → Prop} {p : List Rat} (hk : 30 ≤ k) (hN : 1000 < N) (hw : Wl S n) (hp : Hp p 8) (h : ∀ e8 e9 S', Ch n S S' → RS.wp (.nx [some (.ref n), e1, e2, e3, e4, e5, e6, e7, e8, e9, e10, e11, some (pl p), e13, e14, e15] S') Q) :
    RS.wp (execs (run TT CC N k) CC N [q1_12, q1_13, q1_14, q1_15] [some (.ref n), e1, e2, e3, e4, e5, e6, e7, e8, e9, e10, e11, some (pl p), e13, e14, e15] S) Q := by
  obtain ⟨nmp, lp, gp⟩ := hp
  have Pp : Pl p := mkPl nmp (by omega) gp (by omega) (by omega)
  refine wps_cons ?_
  simp [q1_12]
  refine s__law_drawn_share (by omega) hw fun y S1 iy c1 _ => ?_
  try simp
  refine wps_next (wps_cons ?_)
  have gy : GC 7 7 y := (gc_in iy).mono (by omega) (by omega)
  have gm : GC 8 8 (-1 * y) := ((gc_of (q := -1) (a := -1) (d := 1) (m := 1) (by decide +kernel) (by decide) (by decide) (by decide)).mul gy).mono (by omega) (by omega)
  have oky : Ok y := gy.ok (by omega) (by omega)
  have gb := gb_lin1 gm
  have b0 : ([-1 * y, 1] : List Rat) ≠ [] := by simp
  have nb : Nm ([-1 * y, 1] : List Rat) := .inr (by show cf [-1 * y, 1] 1 ≠ 0; rw [cf_cons_succ, cf_cons_zero]; decide +kernel)
  have Pb : Pl [-1 * y, 1] := mkPl nb (by simp) gb (by omega) (by omega)
  obtain ⟨w1, w2⟩ := pdiv_worth (y := y) nmp
  obtain ⟨r, hr⟩ : ∃ r, r = (pdiv p [-1 * y, 1]).2 := ⟨_, rfl⟩
  rw [← hr] at w1 w2
  have m1 : ∀ S, run TT CC N k 33 [fr (-1), fr y] S = .ok (fr (-1 * y)) S := fun S => s__law_by (by omega) _ _ S ok_m1 oky
  have r1 : ∀ S, run TT CC N k 25 [pl p, pl [-1 * y, 1]] S = .ok (.tup [pl (pdiv p [-1 * y, 1]).1, pl r]) S := fun S => by
    rw [hr]
    exact s_divided (by omega) (by omega) Pp Pb (gp.dv gb b0 nb (by omega) (by simp) (by omega) (by omega))
  have i1 : ∀ S, idxR (.tup [pl (pdiv p [-1 * y, 1]).1, pl r]) (.int 1) S = .ok (pl r) S := fun S => idx_tup (atI_nat (k := 1))
  have n2 : ∀ a b S, newT [a, b] S = .ok (.tup [a, b]) S := fun a b S => newT_2
  have f1 : D.tup [.int 1, .int 1] = fr 1 := rfl
  have z1 : D.tup [fr (-1 * y), fr 1] = pl [-1 * y, 1] := rfl
  simp only [q1_13, ex_asg, ev_idx, ev_call', evs_cons, evs_nil, ev_tup, ev_var, ev_int, ev_neg, List.getElem?_cons_zero, List.getElem?_cons_succ, R.bind_ok, n2, frm1, m1, f1, z1, r1, i1, R.thenS_ok, put_name', List.set_cons_succ, List.set_cons_zero]
  refine wps_next (wps_cons ?_)
  have wk : WOk p y := gp.wok gy (n := 8) (by omega) (by omega) (by omega) (by omega) (by omega)
  have w3 : ∀ S, run TT CC N k 39 [pl p, fr y] S = .ok (fr (worth p y)) S := fun S => s__law_worth (by omega) wk Pp.ok
  have w4 : ∀ S, run TT CC N k 22 [pl p, fr y] S = .ok (fr (worth p y)) S := fun S => s_worth (by omega) Pp wk
  have lf : ∀ S, ev (run TT CC N k) CC (.idx (.ife (.cmp .ne (.var 9) (.tup [])) (.var 9) (.tup [(.tup [(.int 0), (.int 1)])])) (.int 0)) [some (.ref n), e1, e2, e3, e4, e5, e6, e7, some (fr y), some (pl r), e10, e11, some (pl p), e13, e14, e15] S = .ok (fr (worth p y)) S := fun S => by
    rw [w1]
    match r, w2 with
    | [], _ =>
      have n1 : cmpR .ne (pl []) (.tup []) S = .ok (.bl false) S := ne_nil
      have z : D.tup [.tup [.int 0, .int 1]] = pl [0] := rfl
      have i0 : idxR (pl [0]) (.int 0) S = .ok (fr 0) S := idx_0
      have nn : newT [.tup [.int 0, .int 1]] S = .ok (.tup [.tup [.int 0, .int 1]]) S := newT_1
      simp only [ev_idx, ev_ife, ev_cmp, ev_var, ev_tup, evs_nil, evs_cons, ev_int, List.getElem?_cons_zero, List.getElem?_cons_succ, R.bind_ok, newT_0, n1, truth_bl, Bool.false_eq_true, if_false, n2, nn, z, i0, cf_nil]
    | [c], _ =>
      have n1 : cmpR .ne (pl [c]) (.tup []) S = .ok (.bl true) S := by rw [ne_nil]; simp
      have i0 : idxR (pl [c]) (.int 0) S = .ok (fr c) S := idx_0
      simp only [ev_idx, ev_ife, ev_cmp, ev_var, ev_tup, evs_nil, ev_int, List.getElem?_cons_zero, List.getElem?_cons_succ, R.bind_ok, newT_0, n1, truth_bl, if_true, i0, cf_cons_zero]
  have tw : ∀ S, run TT CC N k 29 [fr (worth p y), fr (worth p y)] S = .ok (.bl true) S := fun S => s__law_twin (by omega) (num_fr 11 _) rfl
  have ne : ∀ S, cmpR .ne (fr (worth p y)) (fr (worth p y)) S = .ok (.bl false) S := fun S => by
    have := cmp_ne (S := S) (eqD_fr (S := S) (p := worth p y) (q := worth p y))
    simpa using this
  simp only [q1_14, ex_ite, test_eq, ev_or, ev_nt, ev_call', evs_cons, evs_nil, lf, ev_cmp, ev_var, List.getElem?_cons_zero, List.getElem?_cons_succ, R.bind_ok, w3, w4, tw, ne, truth_bl, Bool.not_true, R.thenS_ok, if_false, Bool.false_eq_true, reduceIte]
  refine wps_next (wps_cons ?_)
  have rf : ∀ S, run TT CC N k 43 [pl p] S = .ok (.ref S.length) (S ++ [[.tup []]]) := fun S => refused_ok t__law_refused (by omega) fun S => s_divided_nil (by omega) Pp
  have rp : ∀ S : Store, biD .repr [.ref S.length] (S ++ [[.tup []]]) = .ok (.str (PySem.PyData.list [.tuple []]).shown) (S ++ [[.tup []]]) := fun S => repr_nil (by simp)
  have nl : ∀ S : Store, newL [.tup []] S = .ok (.ref S.length) (S ++ [[.tup []]]) := fun S => newL_1
  have ns := fun S => ne_str (S := S) _ shaped_nil
  simp only [q1_15, ex_ite, test_eq, ev_cmp, ev_bi', ev_call', evs_cons, evs_nil, ev_lst, ev_tup, ev_var, List.getElem?_cons_zero, List.getElem?_cons_succ, R.bind_ok, newT_0, rf, rp, nl, ns, truth_bl, R.thenS_ok, if_false, Bool.false_eq_true, reduceIte]
  refine wps_next (wps_end ?_)
  exact h _ _ _ ((c1.app _).app _)
end
end k14

end
section
set_option maxHeartbeats 2000000
set_option exponentiation.threshold 10000
namespace k14
open DL
open PySem (Str)
theorem en16 {env : En} (h : env.length = 16) : ∃ e0 e1 e2 e3 e4 e5 e6 e7 e8 e9 e10 e11 e12 e13 e14 e15, env = [e0, e1, e2, e3, e4, e5, e6, e7, e8, e9, e10, e11, e12, e13, e14, e15] := by
  match env, h with
  | [e0, e1, e2, e3, e4, e5, e6, e7, e8, e9, e10, e11, e12, e13, e14, e15], _ => exact ⟨_, _, _, _, _, _, _, _, _, _, _, _, _, _, _, _, rfl⟩
def pp : List Rat := [2, -1, -2, 1]
def pc : List Rat := [-1, 0, 1]
def x12 : Rat := mkRat 1 2
theorem fx12 : D.tup [.int 1, .int 2] = fr x12 := (fr_of (by decide +kernel) (by decide +kernel)).symm
section
variable {N k n : Nat} {S : Store} {e1 e2 e3 e4 e5 e6 e7 e8 e9 e10 e11 e12 e13 e14 e15 : Option D}
theorem dconc {a b q r : List Rat} (hk : 30 ≤ k) (hN : 1000 < N) (ha : Pl a) (ga : GB 4 40 a) (hb : Pl b) (gb : GB 4 40 b) (b0 : b ≠ []) (e : pdiv a b = (q, r)) : run TT CC N k 25 [pl a, pl b] S = .ok (.tup [pl q, pl r]) S := by
  have := s_divided (N := N) (k := k) (S := S) (by omega) (by omega) ha hb (ga.dv gb b0 hb.nm ha.len hb.len (by decide) (by decide))
  rw [e] at this
  exact this
theorem tend {Q : RS → Prop} (hk : 30 ≤ k) (hN : 1000 < N) (h : RS.wp (.rt (.bl true) S) Q) : RS.wp (execs (run TT CC N k) CC N [q2, q3, q4] [some (.ref n), e1, e2, e3, e4, e5, e6, e7, e8, e9, e10, e11, e12, e13, e14, e15] S) Q := by
  refine wps_cons ?_
  have n2 : ∀ a b S, newT [a, b] S = .ok (.tup [a, b]) S := fun a b S => newT_2
  simp [q2]
  refine wps_next (wps_cons ?_)
  obtain ⟨Pp, gp⟩ := conc (p := pp) (by decide +kernel)
  obtain ⟨Pc, gc⟩ := conc (p := pc) (by decide +kernel)
  obtain ⟨P1, g1⟩ := conc (p := [1]) (by decide +kernel)
  obtain ⟨P2, g2⟩ := conc (p := [0, 2]) (by decide +kernel)
  obtain ⟨P3, g3⟩ := conc (p := [-2]) (by decide +kernel)
  have r1 : ∀ S, run TT CC N k 25 [.tup [.tup [.int 2, .int 1], .tup [.int (-1), .int 1], .tup [.int (-2), .int 1], .tup [.int 1, .int 1]], .tup [.tup [.int (-1), .int 1], .tup [.int 0, .int 1], .tup [.int 1, .int 1]]] S = .ok (.tup [pl [-2, 1], pl []]) S := fun S => dconc (a := pp) (b := pc) hk hN Pp gp Pc gc (by decide) (by decide +kernel)
  have r2 : ∀ S, run TT CC N k 25 [.tup [.tup [.int (-1), .int 1], .tup [.int 0, .int 1], .tup [.int 1, .int 1]], .tup [.tup [.int 2, .int 1], .tup [.int (-1), .int 1], .tup [.int (-2), .int 1], .tup [.int 1, .int 1]]] S = .ok (.tup [pl [], pl pc]) S := fun S => dconc (a := pc) (b := pp) hk hN Pc gc Pp gp (by decide) (by decide +kernel)
  have r3 : ∀ S, run TT CC N k 25 [.tup [.tup [.int 2, .int 1], .tup [.int (-1), .int 1], .tup [.int (-2), .int 1], .tup [.int 1, .int 1]], .tup [.tup [.int 0, .int 1], .tup [.int 2, .int 1]]] S = .ok (.tup [pl [xh, -1, x12], pl [2]]) S := fun S => dconc (a := pp) (b := [0, 2]) hk hN Pp gp P2 g2 (by simp) (by decide +kernel)
  have r4 : ∀ S, run TT CC N k 25 [.tup [.tup [.int 1, .int 1]], .tup [.tup [.int (-2), .int 1]]] S = .ok (.tup [pl [xh], pl []]) S := fun S => dconc (a := [1]) (b := [-2]) hk hN P1 g1 P3 g3 (by simp) (by decide +kernel)
  have nT : ∀ (a b c d : D) S, newT [a, b, c, d] S = .ok (.tup [a, b, c, d]) S := fun a b c d S => newT_ok (small (by simp))
  simp [q3, r1, r2, r3, r4, nT]
  refine wps_next (wps_cons ?_)
  have z1 : D.tup [.tup [.int (-2), .int 1], .tup [.int 1, .int 1]] = pl [-2, 1] := rfl
  have z2 : D.tup [.tup [.int (-1), .int 1], .tup [.int 0, .int 1], .tup [.int 1, .int 1]] = pl pc := rfl
  have z3 : D.tup [.tup [.int (-1), .int 2], .tup [.int (-1), .int 1], .tup [.int 1, .int 2]] = pl [xh, -1, x12] := by rw [fxh, fx12]; rfl
  have z4 : D.tup [.tup [.int 2, .int 1]] = pl [2] := rfl
  have z5 : D.tup [.tup [.int (-1), .int 2]] = pl [xh] := by rw [fxh]; rfl
  have z6 : D.tup [] = pl [] := rfl
  have a1 := gd_two (p := [-2, 1]) (q := []) (by simp) (by simp)
  have a2 := gd_two (p := []) (q := pc) (by simp) (by decide)
  have a3 := gd_two (p := [xh, -1, x12]) (q := [2]) (by simp) (by simp)
  have a4 := gd_two (p := [xh]) (q := []) (by simp) (by simp)
  have tw : ∀ S, run TT CC N k 29 [.tup [.tup [pl [-2, 1], pl []], .tup [pl [], pl pc], .tup [pl [xh, -1, x12], pl [2]], .tup [pl [xh], pl []]], .tup [.tup [pl [-2, 1], pl []], .tup [pl [], pl pc], .tup [pl [xh, -1, x12], pl [2]], .tup [pl [xh], pl []]]] S = .ok (.bl true) S := fun S => s__law_twinL (by omega) (by simp) (by simp [a1, a2, a3, a4])
  have n1 : ∀ a S, newT [a] S = .ok (.tup [a]) S := fun a S => newT_1
  have n3 : ∀ a b c S, newT [a, b, c] S = .ok (.tup [a, b, c]) S := fun a b c S => newT_3
  simp only [q4, ex_ret, wps_then, ev_call', wp_bind, evs_cons, evs_nil, ev_var, ev_tup, ev_neg, ev_int, List.getElem?_cons_zero, List.getElem?_cons_succ, R.bind_ok, wp_ok, n1, n2, n3, newT_0, nT, z1, z2, z3, z4, z5, z6, tw, cts_rt]
  exact h
theorem right (hk : 31 ≤ k) (hN : 1000 < N) (hw : Wl S n) : ∃ S', run TT CC N k 44 [.ref n] S = .ok (.bl true) S' ∧ Ch n S S' := by
  have hn := hw.lt
  have key : R.wp (run TT CC N k 44 [.ref n] S) (fun d S' => d = .bl true ∧ Ch n S S') (fun _ _ _ => False) := by
    refine run_wp (fn := d44.fn) rfl (by omega) rfl ?_
    show RS.wp (execs (run TT CC N (k - 1)) CC N b44 [some (.ref n), none, none, none, none, none, none, none, none, none, none, none, none, none, none, none] S) _
    rw [b44_eq]
    refine wps_cons ?_
    rw [q1, ex_for]
    have ea : ∀ env, evs (run TT CC N (k - 1)) CC [.int 16] env S = .ok [.int ((16 : Nat) : Int)] S := fun env => rfl
    rw [evi_rangeN (ea _) (by omega)]
    simp only [R.thenS_ok]
    refine for_wpq _ (fun i env S' => env.length = 16 ∧ env[0]? = some (some (.ref n)) ∧ Ch n S S') ⟨rfl, rfl, .refl hw⟩ (fun Q' i d env S' qn _ _ _ hd hI => ?_) fun env S' hI => ?_
    · obtain ⟨hl, h0, c⟩ := hI
      obtain ⟨e0, e1, e2, e3, e4, e5, e6, e7, e8, e9, e10, e11, e12, e13, e14, e15, rfl⟩ := en16 hl
      have h0 : e0 = some (.ref n) := by simpa using h0
      subst h0
      refine ⟨_, rfl, ?_⟩
      refine t1 (by omega) hN c.2.2 fun p b S1 hp hb b0 c1 => ?_
      refine t2 (by omega) hN c1.2.2 hp hb b0 fun f4 f14 S2 c2 => ?_
      refine t3 (by omega) hN c2.2.2 hb b0 fun f5 f6 f13 S3 c3 => ?_
      refine t4 (by omega) hN c3.2.2 hp fun f7 f15 S4 c4 => ?_
      refine t5 (by omega) hN c4.2.2 hp fun f8 f9 S5 c5 => ?_
      exact qn _ _ ⟨rfl, rfl, ((c.trans c1).trans (c2.trans c3)).trans (c4.trans c5)⟩
    · obtain ⟨hl, h0, c⟩ := hI
      obtain ⟨e0, e1, e2, e3, e4, e5, e6, e7, e8, e9, e10, e11, e12, e13, e14, e15, rfl⟩ := en16 hl
      have h0 : e0 = some (.ref n) := by simpa using h0
      subst h0
      exact wps_next (tend (by omega) hN (end_chw rfl hn c fun S'' c' => ⟨rfl, c'⟩))
  obtain ⟨a, S', e, rfl, c⟩ := wp_ok_iff key
  exact ⟨S', e, c⟩
end
theorem law_ok {N k : Nat} (hk : 32 ≤ k) (hN : 1000 < N) (ns : List Int) : ∃ S', run TT CC N k 45 [.fz (ns.map .int)] [] = .ok (.bl true) S' :=
  lawA_ok (r := 44) (w := 26) rfl t__law_well (by decide) (by decide) (by omega) (fun n S hw => right (by omega) hN hw) ns
theorem holds : row.Holds := fin 40 2000 ⟨rfl, by decide, by decide⟩ fun ns _ => law_ok (by omega) (by omega) ns
end k14

end
theorem PySem.Challenge.cw_straightroots_k14_main_whole_divided_holds : PySem.Challenge.rw_straightroots_k14_main_whole_divided.Holds := by
  exact k14.holds
